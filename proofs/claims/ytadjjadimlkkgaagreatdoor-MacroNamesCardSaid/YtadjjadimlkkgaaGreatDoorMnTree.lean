/-
  The reader of 'sibylref2': 'Tokens', 'IsName'; the program's 'isName'.
-/
import Derived.Test.YtadjjadimlkkgaaGreatDoorMnAu
set_option linter.unusedSimpArgs false
set_option linter.unusedVariables false
section
namespace Go.Proofs.YtadjjadimlkkgaaGreatDoor
open Go Go.RowKit
set_option maxHeartbeats 8000000
set_option maxRecDepth 100000

theorem P9{st:St}(hf:Qu st)(l:List Nat)(hb:(tokens (bytesOf l)).1.length≤1000000): ∃v st',Ev Tryz.prog QU 72 [.str l] st v st'∧ ∃ks,v=.tup [ks,.int .i64 (tokens (bytesOf l)).2.1,.int .i64 (tokens (bytesOf l)).2.2]∧I3 st st' 4 ks ((tokens (bytesOf l)).1.map Y3.cells)∧Qt st st':=by
 obtain⟨ks,st',h1,h2,h3⟩:=RE (P:=Tryz.prog) (G:=QU) (f:=72) (F:=Fw) (z:=4) (ls:=(tokens (bytesOf l)).1.map Y3.cells) (rest:=[.int .i64 (tokens (bytesOf l)).2.1,.int .i64 (tokens (bytesOf l)).2.2]) rfl hf (args:=[.str l]) (fun cs hc=>by
  obtain⟨x,_,rfl⟩:=List.mem_map.1 hc;rfl) (by simpa using hb) (by
  unfold Fw;simp only[List.length_map]
  rfl)
 exact⟨_,st',h1,ks,rfl,h2,h3⟩
theorem TY(s:ByteArray)(fin:Nat): ∀(f:Nat) (r:List (Nat×Nat)) (l:List Y3),(E9 s fin f r).1=some l→l.length≤r.length:=by
 intro f
 induction f with
 |zero=>intro r l h;injection h with h;subst h;simp
 |succ f ih=>
  intro r l h
  cases r with
  |nil=>injection h with h;subst h;simp
  |cons x r=>
   rw[E9]at h
   split at h
   ·rename_i hok;have hp:=Gn s fin (x::r) hok;simp only at h
    cases hx:(E9 s fin f (((x::r).drop (VG s fin (x::r)).len).drop (Jv false ((x::r).drop (VG s fin (x::r)).len)))).1 with
    |none=>rw[hx]at h;cases h
    |some l'=>
     rw[hx]at h
     injection h with h
     subst h;have:=ih _ _ hx;simp only[List.length_drop,List.length_cons]at this ⊢;omega
   ·cases h
theorem Cv(s:ByteArray):(tokens s).1.length≤2001:=by
 unfold tokens
 split
 ·simp
 ·rename_i hs;have hlen:=NK s s.size 0;have hlen:(each s).1.length≤s.size:=hlen
  split
  ·simp
  ·rename_i l x h
   split
   ·simp
   ·have:=TY _ _ _ _ l (by rw[h]);simp only[List.length_drop,List.length_append,List.length_cons,List.length_nil]at this ⊢;omega
end Go.Proofs.YtadjjadimlkkgaaGreatDoor
end
section
namespace Go.Proofs.YtadjjadimlkkgaaGreatDoor
open Go Go.RowKit
set_option maxHeartbeats 8000000
set_option maxRecDepth 100000

def ZO(l:List Nat):Bool:=decide ((tokens (bytesOf l)).2.2=0)&&(decide ((((tokens (bytesOf l)).1.length:Nat):Int)=2)&&(match(tokens (bytesOf l)).1[0]? with
 |some t=>decide (t.kind=1)&&decide (Xg t.text=l)
 |none=>false))

theorem XW{st:St}(hf:Qu st)(l:List Nat): ∃v st',Ev Tryz.prog QU 143 [.str l] st v st'∧v=.bool (ZO l)∧Qt st st':=by
 have htl:=Cv (bytesOf l)
 have hml:((tokens (bytesOf l)).1.map Y3.cells).length=(tokens (bytesOf l)).1.length:=by simp
 refine QE rfl Tryz.func143 rfl Tryz.ntmps143 rfl fun T hT=>?_;have K:QT [(0,_)] T:=(.cons (hT 0) .nil);have M:=Mem.start hf;refine Qf 2 K M ?_;intro _ K;obtain⟨v8,st8,ev8,ks8,rfl,nr8,q8⟩:=P9 M.fresh l (by omega);refine o1 K (Ql rfl ev8) rfl fun _ K=>?_;obtain⟨A8,hA8,M⟩:=M.Xt q8 nr8;refine Qf 9 K M ?_;intro _ K;refine oB K (Qd rfl) rfl fun b14 _ e14 K=>?_;cases b14
 ·replace e14:=of_decide_eq_false e14;refine Qf 20 K M ?_;intro _ K;refine Qe ⟨.inr rfl,_,J5 K rfl,?_⟩;refine⟨?_,M.qt⟩
  simp_all [ZO,Qg]
 ·replace e14:=of_decide_eq_true e14;refine og K rfl rfl (Qd rfl) rfl fun _ K=>og K rfl rfl (QL IQ rfl rfl hA8.len) rfl fun _ K=>?_;refine Qf 2 K M ?_;intro _ K;refine oB K (Qd rfl) rfl fun b19 _ e19 K=>?_;cases b19
  ·replace e19:=of_decide_eq_false e19;refine Qf 15 K M ?_;intro _ K;refine Qe ⟨.inr rfl,_,J5 K rfl,?_⟩;refine⟨?_,M.qt⟩
   simp_all [ZO,Qg]
  ·replace e19:=of_decide_eq_true e19;refine og K rfl rfl (Qd rfl) rfl fun _ K=>?_;obtain⟨t21,ht21⟩: ∃t,(tokens (bytesOf l)).1[0]? =some t:=⟨_,List.getElem?_eq_getElem (by omega)⟩;obtain⟨x21,m21,f21,q21,_,la21,lo21,lp21⟩:=(Mem.Ww (L:=[]) (A:=A8) (B:=[]) M hA8).load (i:=0) (cs:=_) (by rw[List.getElem?_map,ht21];rfl);refine og K rfl rfl (Qj (j:=0) EF (congrArg some q21) rfl (by rw[List.length_map];omega)) rfl fun _ K=>?_;refine Qf 1 K M ?_;intro _ K;refine og K rfl rfl (Qr rfl (lo21 _ 0 _ Zp rfl)) rfl fun _ K=>?_;refine Qf 2 K M ?_;intro _ K;refine oB K (Qd rfl) rfl fun b26 _ e26 K=>?_;cases b26
   ·replace e26:=of_decide_eq_false e26;refine Qf 8 K M ?_;intro _ K;refine Qe ⟨.inr rfl,_,J5 K rfl,?_⟩;refine⟨?_,M.qt⟩
    simp_all [ZO,Qg]
   ·replace e26:=of_decide_eq_true e26;refine og K rfl rfl (Qd rfl) rfl fun _ K=>?_;obtain⟨t28,ht28⟩: ∃t,(tokens (bytesOf l)).1[0]? =some t:=⟨_,List.getElem?_eq_getElem (by omega)⟩;obtain⟨x28,m28,f28,q28,_,la28,lo28,lp28⟩:=(Mem.Ww (L:=[]) (A:=A8) (B:=[]) M hA8).load (i:=0) (cs:=_) (by rw[List.getElem?_map,ht28];rfl);refine og K rfl rfl (Qj (j:=0) EF (congrArg some q28) rfl (by rw[List.length_map];omega)) rfl fun _ K=>?_;refine Qf 1 K M ?_;intro _ K;refine og K rfl rfl (Qr rfl (lo28 _ 1 _ QN rfl)) rfl fun _ K=>?_;refine Qf 4 K M ?_;intro _ K;refine Qe ⟨.inr rfl,_,J5 K rfl,?_⟩;refine⟨?_,M.qt⟩
    simp_all [ZO,Qg]
end Go.Proofs.YtadjjadimlkkgaaGreatDoor
end
section
namespace Go.Proofs.YtadjjadimlkkgaaGreatDoor
open Go Go.RowKit
set_option maxRecDepth 100000

structure Vz(h:Hp)(kids:List Nd)(kk:AV)(ls:List (List AV)):Prop where
 r:Un h [] 5 ls kk
 ln:ls.length=kids.length
 at_: ∀(i:Nat) (k:Nd),kids[i]? =some k→ ∃cs,ls[i]? =some cs∧UN h k cs
theorem Vz.len{h:Hp}{kids:List Nd}{kk:AV}{ls:List (List AV)}(H:Vz h kids kk ls):ZH kk=some kids.length:=by rw[←H.ln];exact H.r.len
theorem Vz.cell{h:Hp}{kids:List Nd}{kk:AV}{ls:List (List AV)}(H:Vz h kids kk ls):QI kk=true:=H.r.cell
theorem Vz.Uj{h:Hp}{kids:List Nd}{kk:AV}{ls:List (List AV)}(H:Vz h kids kk ls):(kids.length:Int)≤9223372036854775807:=by rw[←H.ln];exact H.r.Uj
theorem UN.QJ{h:Hp}{op name:List Nat}{n at_:Int}{kids:List Nd}{cs:List AV}(r:UN h (.mk op name n at_ kids) cs):
  ∃kk ls,cs=[.str op,.str name,.int .i64 n,.int .i64 at_,kk]∧Vz h kids kk ls∧Bytes op∧Bytes name:=by
 cases r with
 |leaf hs ha hb=>
  rename_i ks;refine⟨ks,[],rfl,⟨⟨hs,by simp,Zq hs,fun i cs hi=>by simp at hi,fun c m off n z e=>by subst e;cases ha⟩,rfl,fun i k hi=>by simp at hi⟩,hb⟩
 |node hr hn hl hk hb=>
  rename_i c m off cells
  have hlen:((List.range kids.length).map fun i=>(cells.drop (off+i *5)).take 5).length=kids.length:=by simp
  have hat: ∀(i:Nat) (cs:List AV),((List.range kids.length).map fun i=>(cells.drop (off+i *5)).take 5)[i]? =some cs→i<kids.length∧cs=(cells.drop (off+i *5)).take 5:=by
   intro i cs hi;rw[List.getElem?_map]at hi
   have hlt:i<kids.length:=by
    by_cases h:i<kids.length
    ·exact h
    ·rw[List.getElem?_eq_none (by simp;omega)]at hi;cases hi
   rw[List.getElem?_range hlt]at hi
   injection hi with hi
   exact⟨hlt,hi.symm⟩
  refine⟨_,(List.range kids.length).map fun i=>(cells.drop (off+i *5)).take 5,rfl,⟨⟨by rw[hlen];rfl,by rw[hlen];exact hn,rfl,fun i cs hi=>?_,fun c' m' off' n' z e=>?_⟩,hlen,fun i k hi=>?_⟩,hb⟩
  ·obtain⟨h1,rfl⟩:=hat i cs hi;refine⟨c,m,off,cells,by rw[hlen],by simp,hr,?_,rfl⟩;rw[List.length_take,List.length_drop];omega
  ·injection e with e1 e2 e3 e4 e5
   subst e1 e2 e3 e4 e5;exact⟨by simp,cells,hr,hl⟩
  ·have hlt:=(List.getElem?_eq_some_iff.1 hi).1;refine⟨_,?_,hk i k hi⟩;rw[List.getElem?_map,List.getElem?_range hlt];rfl
theorem UN.qt{st st':St}(hf:Qu st)(q:Qt st st'){k:Nd}{cs:List AV}(r:UN st.h.get k cs):UN st'.h.get k cs:=r.mono (q.rows hf)
def Nd.op:Nd→List Nat
 |.mk op _ _ _ _=>op
theorem J6{kids:List Nd}{i:Nat}{k:Nd}(h:kids[i]? =some k):k∈kids:=List.mem_of_getElem? h

mutual
def LB:Nd→Nat
 |.mk _ _ _ _ kids=>RH kids+1
def RH:List Nd→Nat
 |[]=>0
 |a::l=>max (LB a) (RH l)
end
theorem Fu(k:Nd):1≤Jz k:=by cases k;rw[Jz];omega
theorem Pn(k:Nd):1≤LB k:=by cases k;rw[LB];omega
theorem IU{kids:List Nd}{i:Nat}{k:Nd}(h:kids[i]? =some k):W2 (kids.drop i)=Jz k+W2 (kids.drop (i+1)):=by
 obtain⟨h1,h2⟩:=List.getElem?_eq_some_iff.1 h;rw[List.drop_eq_getElem_cons h1,W2,h2]
theorem BA{kids:List Nd}{i:Nat}{k:Nd}(h:kids[i]? =some k):RH (kids.drop i)=max (LB k) (RH (kids.drop (i+1))):=by
 obtain⟨h1,h2⟩:=List.getElem?_eq_some_iff.1 h;rw[List.drop_eq_getElem_cons h1,RH,h2]
theorem Jo{α:Type}{l:List α}{i:Nat}(h:l.length≤i):l.drop i=[]:=List.drop_eq_nil_of_le h

def ZX:List Nat:=[118,97,114]
def YA:List Nat:=[110,117,109]
def JZ:List Nat:=[112,108,117,115]
def Zr:List Nat:=[115,101,116]
def Jt(op:List Nat):Bool:=decide (op=[117,110,105,111,110])||(decide (op=[105,110,116,101,114])||decide (op=[109,105,110,117,115]))
def QZ(name:List Nat)(n:Int)(kids:List Nd)(m:Int):Bool:=decide (name=[])&&(decide (n=0)&&decide (((kids.length:Nat):Int)=m))
def Q9(x:Nd):Bool:=match x with
 |.mk op name n _ kids=>
  if op=ZX then ZO name&&(decide (n=0)&&decide (((kids.length:Nat):Int)=0))
  else if op=YA then decide (name=[])&&(decide (0≤n)&&(decide (n≤99)&&decide (((kids.length:Nat):Int)=0)))
  else if op=JZ then decide (name=[])&&(decide (1≤n)&&(decide (n≤99)&&(decide (((kids.length:Nat):Int)=1)&&kids.attach.all fun k=>decide (k.1.op=ZX)&&Q9 k.1)))
  else if op=Zr then decide (name=[])&&(decide (n=0)&&(decide (((kids.length:Nat):Int)≤6)&&kids.attach.all fun k=>Q9 k.1&&(!Jt k.1.op&& !decide (k.1.op=Zr))))
  else if Jt op then QZ name n kids 2&&((kids.attach.all fun k=>Q9 k.1)&&(match kids[1]? with|some k=> !Jt k.op|none=>true))
  else false
termination_by Jz x
decreasing_by
 all_goals
  simp_wf
  have:=Yb k.2;rw[Jz];omega
theorem Xn{α:Type}(l:List α)(p:α→Bool):(l.attach.all fun x=>p x.1)=l.all p:=by
 rw[List.all_eq,List.all_eq];simp
def UB(k:Nd):Bool:=Q9 k&&(!Jt k.op&& !decide (k.op=Zr))
theorem Jc(op name:List Nat)(n at_:Int)(kids:List Nd):Q9 (.mk op name n at_ kids)=
  if op=ZX then ZO name&&(decide (n=0)&&decide (((kids.length:Nat):Int)=0))
  else if op=YA then decide (name=[])&&(decide (0≤n)&&(decide (n≤99)&&decide (((kids.length:Nat):Int)=0)))
  else if op=JZ then decide (name=[])&&(decide (1≤n)&&(decide (n≤99)&&(decide (((kids.length:Nat):Int)=1)&&kids.all fun k=>decide (k.op=ZX)&&Q9 k)))
  else if op=Zr then decide (name=[])&&(decide (n=0)&&(decide (((kids.length:Nat):Int)≤6)&&kids.all UB))
  else if Jt op then QZ name n kids 2&&((kids.all Q9)&&(match kids[1]? with|some k=> !Jt k.op|none=>true))
  else false:=by
 rw[Q9];rw[Xn kids fun k=>decide (k.op=ZX)&&Q9 k,Xn kids fun k=>Q9 k&&(!Jt k.op&& !decide (k.op=Zr)),Xn kids Q9];rfl
def oneOf(op:List Nat)(l:List (List Nat)):Bool:=l.any fun x=>decide (op=x)
def QW(x:Nd):Bool:=match x with
 |.mk op name n _ kids=>
  if oneOf op [[116,114,117,101],[102,97,108,115,101]]then QZ name n kids 0
  else if op=[110,111,116]then QZ name n kids 1&&kids.attach.all fun k=>QW k.1
  else if oneOf op [[97,110,100],[111,114],[105,109,112],[105,102,102]]then QZ name n kids 2&&kids.attach.all fun k=>QW k.1
  else if oneOf op [[101,120],[97,108,108]]then ZO name&&(decide (0≤n)&&(decide (n<3)&&(decide (((kids.length:Nat):Int)=1)&&kids.attach.all fun k=>QW k.1)))
  else if op=[105,115]then ZO name&&(decide (n=0)&&decide (((kids.length:Nat):Int)=0))
  else if oneOf op [[101,113],[110,101],[108,116],[108,101],[105,110],[110,111,116,105,110],[115,117,98]]then QZ name n kids 2&&kids.all Q9
  else if op=[99,97,108,108]then ZO name&&(decide (n=0)&&(decide (((kids.length:Nat):Int)≤6)&&kids.all Q9))
  else false
termination_by Jz x
decreasing_by
 all_goals
  simp_wf
  have:=Yb k.2;rw[Jz];omega
theorem Jd(op name:List Nat)(n at_:Int)(kids:List Nd):QW (.mk op name n at_ kids)=
  if oneOf op [[116,114,117,101],[102,97,108,115,101]]then QZ name n kids 0
  else if op=[110,111,116]then QZ name n kids 1&&kids.all QW
  else if oneOf op [[97,110,100],[111,114],[105,109,112],[105,102,102]]then QZ name n kids 2&&kids.all QW
  else if oneOf op [[101,120],[97,108,108]]then ZO name&&(decide (0≤n)&&(decide (n<3)&&(decide (((kids.length:Nat):Int)=1)&&kids.all QW)))
  else if op=[105,115]then ZO name&&(decide (n=0)&&decide (((kids.length:Nat):Int)=0))
  else if oneOf op [[101,113],[110,101],[108,116],[108,101],[105,110],[110,111,116,105,110],[115,117,98]]then QZ name n kids 2&&kids.all Q9
  else if op=[99,97,108,108]then ZO name&&(decide (n=0)&&(decide (((kids.length:Nat):Int)≤6)&&kids.all Q9))
  else false:=by
 rw[QW];rw[Xn kids QW]
end Go.Proofs.YtadjjadimlkkgaaGreatDoor
end
