/-
  Atoms: the program's machines, plainly; they accept what the document's atoms accept.
-/
import Derived.Test.YtiknomepbklibaaGreatDoorFzCmP
set_option linter.unusedSimpArgs false
set_option linter.unusedVariables false
section
namespace Go.Proofs.YtiknomepbklibaaGreatDoor
set_option maxHeartbeats 2000000
variable {s:Nat}

def Jn(o:List Nat)(n s:Nat)(x y z:Bool):Int:=
 if o=[116,114,117,101]then 0
 else if o=[115,117,98]then(if(!x||y)=true then 0 else-1)
 else if o=[110,111,110,101]then(if(!x)=true then 0 else-1)
 else if o=[117,110,105,111,110]then(if(z==(x||y))=true then 0 else-1)
 else if o=[105,110,116,101,114]then(if(z==(x&&y))=true then 0 else-1)
 else if o=[109,105,110,117,115]then(if(z==(x&& !y))=true then 0 else-1)
 else if o=[115,105,110,103]then(if x=false then((s:Nat):Int)else if s=0 then 1 else-1)
 else if o=[102,108,97,103]then(if s=1∨x=true then 1 else-1)
 else if o=[108,101,115,115]then(if x=false∧y=false then((s:Nat):Int)else if s=0∧x=true∧y=false then 1 else if s=1∧y=true∧x=false then 2 else-1)
 else if o=[112,108,117,115]then(if s=0∧x=true∧y=decide (n=0)then 1 else if(s=0∧x=false∧y=false)∨(s=n+1∧x=false∧y=false)then((s:Nat):Int)else if 0<s∧s<n+1∧x=false∧y=decide (s=n)then((s+1:Nat):Int)else-1)
 else(if s<n+1∧x=decide (s=n)then((s+1:Nat):Int)else if s=n+1∧x=false then((n+1:Nat):Int)else-1)
def QQ(o:List Nat)(n:Nat):Nat:=
 if o=[115,105,110,103]∨o=[102,108,97,103]then 1 else if o=[108,101,115,115]then 2 else if o=[112,108,117,115]∨o=[110,117,109]then n+1 else 0
abbrev Qp(o:List Nat)(n:Nat):Nat:=QQ o n+1
def Wl(o:List Nat):Prop:=o=[116,114,117,101]∨o=[115,117,98]∨o=[110,111,110,101]∨o=[117,110,105,111,110]∨o=[105,110,116,101,114]∨o=[109,105,110,117,115]∨o=[115,105,110,103]∨o=[102,108,97,103]∨o=[108,101,115,115]∨o=[112,108,117,115]∨o=[110,117,109]
def Vd(b:Bool):Nat:=if b then 1 else 0
theorem qo{o:List Nat}(h:Wl o){n:Nat}(hn:n≤20)(hs:s<Qp o n)(x y z:Bool):(Jn o n s x y z= -1∧QS o n s (Vd x) (Vd y) (Vd z)=30)∨ ∃t:Nat,Jn o n s x y z=((t:Nat):Int)∧t<Qp o n∧QS o n s (Vd x) (Vd y) (Vd z)=t:=by
 have hst:Qp o n≤22:=by unfold Qp QQ;split<;>(try split)<;>(try split)<;>omega
 have h30: ¬s=30:=by omega
 rcases h with rfl|rfl|rfl|rfl|rfl|rfl|rfl|rfl|rfl|rfl|rfl
 ·clear hst;simp[Qp,QQ]at hs;simp only[Jn,QS,Qp,QQ,if_neg h30];cases x<;>cases y<;>cases z<;>simp[Vd]<;>first|omega|(rcases(show s=0∨s=1∨s=2 by omega)with rfl|rfl|rfl<;>first|omega|(simp;done)|simp_all)|simp_all
 ·clear hst;simp[Qp,QQ]at hs;simp only[Jn,QS,Qp,QQ,if_neg h30];cases x<;>cases y<;>cases z<;>simp[Vd]<;>first|omega|(rcases(show s=0∨s=1∨s=2 by omega)with rfl|rfl|rfl<;>first|omega|(simp;done)|simp_all)|simp_all
 ·clear hst;simp[Qp,QQ]at hs;simp only[Jn,QS,Qp,QQ,if_neg h30];cases x<;>cases y<;>cases z<;>simp[Vd]<;>first|omega|(rcases(show s=0∨s=1∨s=2 by omega)with rfl|rfl|rfl<;>first|omega|(simp;done)|simp_all)|simp_all
 ·clear hst;simp[Qp,QQ]at hs;simp only[Jn,QS,Qp,QQ,if_neg h30];cases x<;>cases y<;>cases z<;>simp[Vd]<;>first|omega|(rcases(show s=0∨s=1∨s=2 by omega)with rfl|rfl|rfl<;>first|omega|(simp;done)|simp_all)|simp_all
 ·clear hst;simp[Qp,QQ]at hs;simp only[Jn,QS,Qp,QQ,if_neg h30];cases x<;>cases y<;>cases z<;>simp[Vd]<;>first|omega|(rcases(show s=0∨s=1∨s=2 by omega)with rfl|rfl|rfl<;>first|omega|(simp;done)|simp_all)|simp_all
 ·clear hst;simp[Qp,QQ]at hs;simp only[Jn,QS,Qp,QQ,if_neg h30];cases x<;>cases y<;>cases z<;>simp[Vd]<;>first|omega|(rcases(show s=0∨s=1∨s=2 by omega)with rfl|rfl|rfl<;>first|omega|(simp;done)|simp_all)|simp_all
 ·clear hst;simp[Qp,QQ]at hs;simp only[Jn,QS,Qp,QQ,if_neg h30];cases x<;>cases y<;>cases z<;>simp[Vd]<;>first|omega|(rcases(show s=0∨s=1∨s=2 by omega)with rfl|rfl|rfl<;>first|omega|(simp;done)|simp_all)|simp_all
 ·clear hst;simp[Qp,QQ]at hs;simp only[Jn,QS,Qp,QQ,if_neg h30];cases x<;>cases y<;>cases z<;>simp[Vd]<;>first|omega|(rcases(show s=0∨s=1∨s=2 by omega)with rfl|rfl|rfl<;>first|omega|(simp;done)|simp_all)|simp_all
 ·clear hst;simp[Qp,QQ]at hs;simp only[Jn,QS,Qp,QQ,if_neg h30];cases x<;>cases y<;>cases z<;>simp[Vd]<;>first|omega|(rcases(show s=0∨s=1∨s=2 by omega)with rfl|rfl|rfl<;>first|omega|(simp;done)|simp_all)|simp_all
 ·simp[Qp,QQ]at hs;simp only[Jn,QS,Qp,QQ,if_neg h30];rcases(show(s=0∧n=0)∨(s=0∧0<n)∨(0<s∧s<n)∨(0<s∧s=n)∨s=n+1 by omega)with⟨rfl,rfl⟩|⟨rfl,h1⟩|⟨h1,h2⟩|⟨h1,rfl⟩|rfl
  ·cases x<;>cases y<;>simp[Vd]
  ·have e1: ¬n=0:=by omega
   cases x<;>cases y<;>simp[Vd,e1]<;>omega
  ·have e1: ¬s=0:=by omega
   have e2: ¬s=n+1:=by omega
   have e3: ¬s=n:=by omega
   have e4:s<n+1:=by omega
   cases x<;>cases y<;>simp[Vd,e1,e2,e3,e4,h1,h2]<;>first|omega|exact⟨s+1,rfl,by omega,rfl⟩|exact⟨s+1,by omega,by omega,by omega⟩
  ·have e1: ¬s=0:=by omega
   cases x<;>cases y<;>simp[Vd,e1,h1]<;>first|omega|exact⟨s+1,rfl,by omega,rfl⟩|exact⟨s+1,by omega,by omega,by omega⟩
  ·cases x<;>cases y<;>simp[Vd]<;>first|omega|exact⟨n+1,by omega,by omega,by omega⟩
 ·simp[Qp,QQ]at hs;simp only[Jn,QS,Qp,QQ,if_neg h30];rcases(show s<n∨s=n∨s=n+1 by omega)with h1|rfl|rfl
  ·have e2: ¬s=n+1:=by omega
   have e3: ¬s=n:=by omega
   have e4:s<n+1:=by omega
   have e5: ¬n<s:=by omega
   cases x<;>simp[Vd,e2,e3,e4,e5,h1]<;>first|omega|exact⟨s+1,by omega,by omega,by omega⟩
  ·cases x<;>simp[Vd]<;>first|omega|exact⟨s+1,by omega,by omega,by omega⟩
  ·cases x<;>simp[Vd]<;>first|omega|exact⟨n+1,by omega,by omega,by omega⟩
theorem BM(l v:Nat):Vd (decide (((BN l v:Nat):Int)=1))=BN l v:=by
 have h:BN l v=0∨BN l v=1:=by unfold BN;omega
 rcases h with h|h<;>rw[h]<;>rfl
abbrev YE(l v:Nat):Bool:=decide (((BN l v:Nat):Int)=1)
def Ez(o:List Nat)(n a b d s l:Nat):Nat:=if s<Qp o n then(if Jn o n s (YE l a) (YE l b) (YE l d)= -1 then Qp o n else(Jn o n s (YE l a) (YE l b) (YE l d)).toNat)else Qp o n
def P0(o:List Nat)(n a b d k s:Nat):List Int:=(List.range (2^k)).map fun l=>((Ez o n a b d s l:Nat):Int)
def Vr(o:List Nat)(a b d n k:Nat):Au:=⟨k,(List.range (Qp o n+1)).map fun s=>decide (((s:Nat):Int)=((QQ o n:Nat):Int)),(List.range (Qp o n+1)).map (P0 o n a b d k)⟩
section
variable {o:List Nat} {a b d n k:Nat}
theorem ES(n:Nat)(hn:n≤20):QQ o n≤21:=by unfold QQ;split<;>(try split)<;>(try split)<;>omega
theorem GR:(Vr o a b d n k).n=Qp o n+1:=by simp[Vr,Au.n]
theorem qH{l:Nat}(hs:s<Qp o n+1)(hl:l<2^k):(Vr o a b d n k).go s l=Ez o n a b d s l:=by
 unfold Au.go Vr P0;simp only[List.getElem?_map,List.getElem?_range hs,Option.map_some,Option.getD_some,List.getElem?_range hl,Int.toNat_natCast]
theorem qG(hs:s<Qp o n+1):(Vr o a b d n k).ok s=decide (((s:Nat):Int)=((QQ o n:Nat):Int)):=by
 unfold Au.ok Vr;simp only[List.getElem?_map,List.getElem?_range hs,Option.map_some,Option.getD_some]
def BT(o:List Nat)(n s t:Nat):Prop:=(s=t∧s<Qp o n)∨(s=Qp o n∧t=30)
theorem BT.step(h:Wl o)(hn:n≤20){t:Nat}(R:BT o n s t)(l:Nat):BT o n (Ez o n a b d s l) (Hh o n a b d t l):=by
 have hl:=ES (o:=o) n hn;have hsp:Qp o n=QQ o n+1:=rfl;rcases R with⟨rfl,hs⟩|⟨rfl,rfl⟩
 ·unfold Ez Hh;rw[if_pos hs,←BM l a,←BM l b,←BM l d];rcases qo h hn hs (YE l a) (YE l b) (YE l d)with⟨h1,h2⟩|⟨t,h1,h2,h3⟩
  ·rw[if_pos h1,h2];exact .inr ⟨rfl,rfl⟩
  ·rw[h1,if_neg Qe,h3,Int.toNat_natCast];exact .inl ⟨by omega,h2⟩
 ·unfold Ez Hh QS;rw[if_neg (Nat.lt_irrefl _),if_pos rfl];exact .inr ⟨rfl,rfl⟩
theorem jf(h:Wl o)(hn:n≤20)(s l:Nat):Ez o n a b d s l<Qp o n+1:=by
 by_cases hs:s<Qp o n
 ·rcases BT.step (a:=a) (b:=b) (d:=d) h hn (.inl ⟨rfl,hs⟩:BT o n s s) l with⟨_,h1⟩|⟨h1,_⟩<;>omega
 ·unfold Ez;rw[if_neg hs];omega
theorem qF(h:Wl o)(hn:n≤20)(hk:k≤6):Zr (Vr o a b d n k):=by
 have hl:=ES (o:=o) n hn;have hsp:Qp o n=QQ o n+1:=rfl;refine⟨hk,by rw[GR];omega,by rw[GR];omega,by simp[Vr,Au.n],fun r hr=>?_⟩;obtain⟨s,_,rfl⟩:=List.mem_map.1 hr;refine⟨by simp[P0,Vr,Au.K],fun z hz=>?_⟩;obtain⟨l,_,rfl⟩:=List.mem_map.1 hz;have:=jf (a:=a) (b:=b) (d:=d) h hn s l;rw[GR];omega
theorem BT.ok(h:Wl o)(hn:n≤20){t:Nat}(R:BT o n s t):decide (((s:Nat):Int)=((QQ o n:Nat):Int))=ZZ o n t:=by
 have hl:=ES (o:=o) n hn;have hsp:Qp o n=QQ o n+1:=rfl;rcases R with⟨rfl,hs⟩|⟨rfl,rfl⟩
 ·unfold ZZ;rw[if_neg Qe]
  rcases h with rfl|rfl|rfl|rfl|rfl|rfl|rfl|rfl|rfl|rfl|rfl<;>simp[Qp,QQ]at hs ⊢ <;>first|omega|(rw[decide_eq_decide];omega)
 ·unfold ZZ;rw[if_pos rfl,decide_eq_false Qe]
theorem PA(h:Wl o)(hn:n≤20):XO (Vr o a b d n k) (Xf o a b d n k) 0 0:=fun w hw=>by
 have key: ∀(w:List Nat) (s t:Nat),BV (2^k) w→BT o n s t→t<31→BT o n ((Vr o a b d n k).run s w) ((Xf o a b d n k).run t w):=by
  intro w
  induction w with
  |nil=>intro s t _ R _;exact R
  |cons c w ih=>
   intro s t hw R ht
   have hs:s<Qp o n+1:=by rcases R with⟨_,h1⟩|⟨h1,_⟩<;>omega
   rw[Au.C8,Au.C8,qH hs (hw c QA),uZ ht (hw c QA)];exact ih _ _ (fun x hx=>hw x (by simp[hx])) (R.step h hn c) (Ln _ _)
 have R:=key w 0 0 hw (.inl ⟨rfl,Nat.succ_pos _⟩) QE;have hl:=ES (o:=o) n hn;have hsp:Qp o n=QQ o n+1:=rfl
 have hs:(Vr o a b d n k).run 0 w<Qp o n+1:=by rcases R with⟨_,h1⟩|⟨h1,_⟩<;>omega
 have ht:(Xf o a b d n k).run 0 w<31:=by rcases R with⟨h1,h2⟩|⟨_,h1⟩<;>omega
 rw[qG hs,uY ht,R.ok h hn]
theorem Ub.trans{x y m:Au}(h:Ub x m)(hl:XO x y 0 0)(ht:y.tr=x.tr):Ub y m:=
 ⟨h.canon,fun w hw=>by rw[h.like w hw];exact hl w (Hz h.tr hw),h.tr.trans ht.symm⟩
theorem Ub.atom(h:Wl o)(hn:n≤20){m:Au}(hm:Ub (Vr o a b d n k) m):Ub (Xf o a b d n k) m:=hm.trans (PA h hn) rfl
end
end Go.Proofs.YtiknomepbklibaaGreatDoor
end
section
namespace Go.Proofs.YtiknomepbklibaaGreatDoor
variable {s:Nat}

def JW:List Int→List Int→List Int
 |seen,[]=>seen
 |seen,x::xs=>if x∈seen then JW seen xs else JW (seen++[x]) xs
theorem A6: ∀(xs seen:List Int),(JW seen xs).length≤seen.length+xs.length
 |[],seen=>by simp[JW]
 |x::xs,seen=>by
  rw[JW]
  split
  ·have:=A6 xs seen;simp only[List.length_cons];omega
  ·have:=A6 xs (seen++[x]);simp only[List.length_cons,List.length_append,List.length_nil]at this ⊢;omega
theorem KP: ∀(xs seen:List Int) {x:Int} {i:Nat},seen.Nodup→(JW seen xs)[i]? =some x→Ud seen (xs++[x])=Ud seen xs++[((i:Nat):Int)]∧JW seen (xs++[x])=JW seen xs
 |[],seen,x,i,hn,h=>by
  have h:seen[i]? =some x:=h;have hm:=List.mem_of_getElem? h
  have hi:seen.idxOf x=i:=by
   have hlt:=List.idxOf_lt_length_of_mem hm;exact(List.getElem?_inj hlt hn).1 (by rw[List.getElem?_eq_getElem hlt,List.getElem_idxOf,h])
  rw[List.nil_append];unfold Ud JW;rw[if_pos hm,if_pos hm,hi];exact⟨rfl,rfl⟩
 |y::xs,seen,x,i,hn,h=>by
  rw[JW]at h;rw[List.cons_append,Ud,Ud,JW,JW]
  split at h
  ·rename_i hy;obtain⟨h1,h2⟩:=KP xs seen hn h;rw[if_pos hy,if_pos hy,if_pos hy,if_pos hy,h1,h2];exact⟨rfl,rfl⟩
  ·rename_i hy;have hn':(seen++[y]).Nodup:=List.nodup_append.2 ⟨hn,by simp,fun a ha b hb e=>by rw[List.mem_singleton]at hb;subst hb e;exact hy ha⟩;obtain⟨h1,h2⟩:=KP xs _ hn' h;rw[if_neg hy,if_neg hy,if_neg hy,if_neg hy,h1,h2];exact⟨rfl,rfl⟩
theorem KQ: ∀(xs seen:List Int) {x:Int},x∉JW seen xs→Ud seen (xs++[x])=Ud seen xs++[(((JW seen xs).length:Nat):Int)]∧JW seen (xs++[x])=JW seen xs++[x]
 |[],seen,x,h=>by
  have h:x∉seen:=h;rw[List.nil_append];unfold Ud JW;rw[if_neg h,if_neg h];exact⟨rfl,rfl⟩
 |y::xs,seen,x,h=>by
  rw[JW]at h;rw[List.cons_append,Ud,Ud,JW,JW]
  split at h
  ·rename_i hy;obtain⟨h1,h2⟩:=KQ xs seen h;rw[if_pos hy,if_pos hy,if_pos hy,if_pos hy,h1,h2];exact⟨rfl,rfl⟩
  ·rename_i hy;obtain⟨h1,h2⟩:=KQ xs _ h;rw[if_neg hy,if_neg hy,if_neg hy,if_neg hy,h1,h2];exact⟨rfl,rfl⟩
theorem BD{l:List Int}{x:Int}(h:s<l.length):cv (l++[x]) s=cv l s:=by unfold cv;rw[List.getElem?_append_left h]
theorem BC(l:List Int)(x:Int):cv (l++[x]) l.length=x:=by unfold cv;rw[List.getElem?_append_right (Nat.le_refl _),Nat.sub_self];rfl
theorem CS(n:Nat): ∀xs:List Int,xs.length=n→IB n (Ud [] xs) (JW [] xs).length:=by
 induction n with
 |zero=>
  intro xs h;have:=List.eq_nil_of_length_eq_zero h;subst this;exact⟨fun s hs=>absurd hs (Nat.not_lt_zero s),fun v hv=>absurd hv (Nat.not_lt_zero v)⟩
 |succ n ih=>
  intro xs h;obtain⟨ys,x,rfl⟩: ∃ys x,xs=ys++[x]:=⟨xs.dropLast,xs.getLast (by intro e;subst e;simp at h),(List.dropLast_concat_getLast _).symm⟩
  have hl:ys.length=n:=by simpa using h
  obtain⟨h1,h2⟩:=ih ys hl
  have hnl:(Ud [] ys).length=n:=by rw[X7];exact hl
  by_cases hx:x∈JW [] ys
  ·obtain⟨i,hi⟩:=List.getElem?_of_mem hx;have hlt:=(List.getElem?_eq_some_iff.1 hi).1;obtain⟨e1,e2⟩:=KP ys [] List.nodup_nil hi;rw[e1,e2];refine⟨fun s hs=>?_,fun v hv=>?_⟩
   ·by_cases hsn:s<n
    ·rw[BD Qe];exact h1 s hsn
    ·have:s=(Ud [] ys).length:=by omega
     rw[this,BC];omega
   ·obtain⟨s,k1,k2⟩:=h2 v hv;exact⟨s,by omega,by rw[BD Qe];exact k2⟩
  ·obtain⟨e1,e2⟩:=KQ ys [] hx;rw[e1,e2,List.length_append,List.length_singleton];refine⟨fun s hs=>?_,fun v hv=>?_⟩
   ·by_cases hsn:s<n
    ·rw[BD Qe];have:=h1 s hsn;omega
    ·have:s=(Ud [] ys).length:=by omega
     rw[this,BC];omega
   ·by_cases hvl:v<(JW [] ys).length
    ·obtain⟨s,k1,k2⟩:=h2 v hvl;exact⟨s,by omega,by rw[BD Qe];exact k2⟩
    ·refine⟨n,Nat.lt_succ_self n,?_⟩;rw[←hnl,BC];omega
theorem Rp{α:Type}{l:List α}{f:α→Int}{x:α}(h:l[s]? =some x):cv (l.map f) s=f x:=by unfold cv;rw[List.getElem?_map,h];rfl
theorem qP{n r q c d:Int}(hc:0≤c∧c<n)(hd:0≤d∧d<n):(r *n+c=q *n+d)↔r=q∧c=d:=by
 refine⟨fun h=>?_,fun⟨h1,h2⟩=>by rw[h1,h2]⟩
 have e:(r-q) *n=d-c:=by rw[Int.sub_mul];omega
 have hrq:r=q:=by
  rcases Int.lt_trichotomy r q with h1|h1|h1
  ·exfalso
   have:=Int.mul_le_mul_of_nonneg_right (show r-q≤ -1 by omega) (show 0≤n by omega);omega
  ·exact h1
  ·exfalso
   have:=Int.mul_le_mul_of_nonneg_right (show 1≤r-q by omega) (show 0≤n by omega);omega
 subst hrq;exact⟨rfl,by omega⟩
structure VC(a:Au)(cl:List Int)(ls:List Nat)(rows:List (List Int))(row:List Int):Prop where
 pr:Vm (I3 a cl) (cv cl 0) (2^a.tr) (ls.map (cv cl)) rows row
 lt: ∀s∈ls,s<a.n
section
variable {a:Au} {cl:List Int} {ls:List Nat} {rows:List (List Int)} {row:List Int}
theorem VC.le(H:VC a cl ls rows row)(hr: ∀s,s<a.n→0≤cv cl s∧cv cl s<((a.n:Nat):Int)):ls.length≤a.n:=by
 have h:=ZQ (b:=(List.range a.n).map fun z=>((z:Nat):Int)) H.pr.nodup fun x hx=>by
  obtain⟨s,hs,rfl⟩:=List.mem_map.1 hx;have:=hr s (H.lt s hs);exact List.mem_map.2 ⟨(cv cl s).toNat,List.mem_range.2 Qe,by omega⟩
 simpa using h
theorem VC.start(W:Zr a):VC a cl [0] [] []:=⟨Vm.start _ _ _,fun s hs=>by rw[List.mem_singleton.1 hs];exact W.pos⟩
theorem VC.next(W:Zr a)(hc:ZI a cl){y:Nat}(hs:ls[rows.length]? =some s)(hls:s<a.n)(hr:row.length<2^a.tr)(hy:a.go s row.length=y):(ls.map (cv cl))[rows.length]? =some (cv cl s)∧I3 a cl (cv cl s) row.length=cv cl y:=by
 refine⟨by rw[List.getElem?_map,hs];rfl,?_⟩;rw[KY (hc.Ib W) hls hr,hy]
theorem VC.new(H:VC a cl ls rows row)(W:Zr a)(hc:ZI a cl){s y:Nat}(hs:ls[rows.length]? =some s)(hr:row.length<2^a.tr)(hy:a.go s row.length=y)(hyn:y<a.n)(hn:cv cl y∉ls.map (cv cl)):VC a cl (ls++[y]) rows (row++[((ls.length:Nat):Int)]):=by
 obtain⟨h1,h2⟩:=VC.next W hc hs (H.lt s (List.mem_of_getElem? hs)) hr hy;have h4:=H.pr.new hr h1 (by rw[h2];exact hn);rw[h2,List.length_map]at h4;refine⟨by rw[List.map_append];exact h4,fun t ht=>?_⟩;rcases List.mem_append.1 ht with ht|ht
 ·exact H.lt t ht
 ·rw[List.mem_singleton.1 ht];exact hyn
theorem VC.J6(H:VC a cl ls rows row)(W:Zr a)(hc:ZI a cl){s y j:Nat}(hs:ls[rows.length]? =some s)(hr:row.length<2^a.tr)(hy:a.go s row.length=y)(hj:(ls.map (cv cl))[j]? =some (cv cl y)):VC a cl ls rows (row++[((j:Nat):Int)]):=by
 obtain⟨h1,h2⟩:=VC.next W hc hs (H.lt s (List.mem_of_getElem? hs)) hr hy;exact⟨H.pr.J6 hr h1 (by rw[h2];exact hj),H.lt⟩
theorem VC.whole(H:VC a cl ls rows row)(hr:row.length=2^a.tr):VC a cl ls (rows++[row]) []:=⟨H.pr.whole hr,H.lt⟩
theorem VC.made(H:VC a cl ls rows [])(W:Zr a)(hc:ZI a cl)(hn:ls.length≤400)(hl:rows.length=ls.length):UA (I3 a cl) (cv cl 0) (DH a cl) (ls.map (cv cl)) ⟨a.tr,ls.map a.ok,rows⟩:=by
 refine H.pr.made (m:=⟨a.tr,ls.map a.ok,rows⟩) (by rw[List.length_map];exact hl) ?_ W.tr (by rw[List.length_map];exact hn);show ls.map a.ok=(ls.map (cv cl)).map (DH a cl);rw[List.map_map];exact List.map_congr_left fun s hs=>(BH hc (H.lt s hs)).symm
theorem VC.least(H:VC a cl ls rows [])(W:Zr a)(hc:ZI a cl)(hn:ls.length≤400)(hl:rows.length=ls.length):Ub a ⟨a.tr,ls.map a.ok,rows⟩:=by
 obtain⟨h1,h2⟩:=OV (m:=⟨a.tr,ls.map a.ok,rows⟩) W hc rfl (H.made W hc hn hl);exact⟨h1,h2,rfl⟩
end
end Go.Proofs.YtiknomepbklibaaGreatDoor
end
section
namespace Go.Proofs.YtiknomepbklibaaGreatDoor
open Go Go.RowKit

def UR{α:Type}:Nat→List α→List (α×AV)
 |_,[]=>[]
 |j,n::S=>(n,.int .i64 (j:Nat))::UR (j+1) S
section
variable {α β:Type}
theorem AJ: ∀(j:Nat) (S:List α) (n:α),UR j (S++[n])=UR j S++[(n,.int .i64 (j+S.length:Nat))]
 |j,[],n=>by simp[UR]
 |j,x::S,n=>by
  rw[List.cons_append,UR,UR,AJ (j+1) S n,List.cons_append,List.length_cons,show j+1+S.length=j+(S.length+1) by omega]
theorem D3: ∀{j:Nat} {S:List α} {n:α} {v:AV},(n,v)∈UR j S→ ∃i:Nat,S[i]? =some n∧v=.int .i64 (j+i:Nat)
 |j,[],n,v,h=>by cases h
 |j,x::S,n,v,h=>by
  rcases List.mem_cons.1 h with e|h
  ·injection e with e1 e2
   subst e1 e2;exact⟨0,rfl,rfl⟩
  ·obtain⟨i,h1,h2⟩:=D3 h;exact⟨i+1,h1,by rw[h2];congr 2;omega⟩
theorem CX: ∀{j:Nat} {S:List α} {n:α},n∈S→ ∃v,(n,v)∈UR j S
 |j,[],n,h=>by cases h
 |j,x::S,n,h=>by
  rcases List.mem_cons.1 h with rfl|h
  ·exact⟨_,List.mem_cons_self ..⟩
  ·obtain⟨v,hv⟩:=CX (j:=j+1) h;exact⟨v,List.mem_cons_of_mem _ hv⟩
theorem Na{S:List α}{n:α}(h:Yk (UR 0 S) n=none):n∉S:=fun hm=>by
 obtain⟨v,hv⟩:=CX (j:=0) hm;exact LY h v hv
theorem LZ{S:List α}{n:α}{v:AV}(h:Yk (UR 0 S) n=some v): ∃i:Nat,S[i]? =some n∧v=.int .i64 (i:Nat):=by
 obtain⟨i,h1,h2⟩:=D3 (KU h);exact⟨i,h1,by rw[h2,Nat.zero_add]⟩
theorem VE.comp{P:Program}{t:TypeId}{key:α→AV}{z:AV}(T:VE P t key z)(f:β→α)(hi: ∀x y,f x=f y→x=y):VE P t (fun x=>key (f x)) z:=by
 obtain⟨kt,et,d,u1,u2,u3,u4,u5,u6⟩:=T.rule;exact⟨kt,et,d,u1,u2,u3,fun a=>u4 _,fun a i=>u5 _ i,fun a b v n es i=>⟨fun h=>(u6 (f a) (f b) v n es i).1 (congrArg f h),fun h=>(u6 (f a) (f b) v n es i).2 fun e=>h (hi _ _ e)⟩⟩
end
abbrev Xd(p:Nat×Nat):AV:=.agg [.int .i64 (p.1:Nat),.int .i64 (p.2:Nat)]
theorem W8:VE Tryz.prog 172 Xd (.int .i64 0):=jK.comp (fun p:Nat×Nat=>(((p.1:Nat):Int),((p.2:Nat):Int))) fun x y e=>by
 injection e with e1 e2
 exact Prod.ext Qe Qe
end Go.Proofs.YtiknomepbklibaaGreatDoor
end
