/-
  Is a text one whole name: the reference's answer, and the program's.
-/
import Derived.Test.YtadjjadimlkkgaaGreatDoorKtRrT
import Derived.Test.YtadjjadimlkkgaaGreatDoorKtData
set_option linter.unusedSimpArgs false
set_option linter.unusedVariables false
section
namespace Go.Proofs.YtadjjadimlkkgaaGreatDoor
open Go Go.RowKit
set_option maxHeartbeats 8000000
set_option maxRecDepth 100000

def Yr(l:List Nat):Bool:=decide ((tokens (bytesOf l)).2.2=0)&&(decide ((((tokens (bytesOf l)).1.length:Nat):Int)=2)&&(match(tokens (bytesOf l)).1[0]? with
 |some t=>decide (t.kind=1)&&decide (Yu t.text=l)
 |none=>false))

theorem Vm{st:St}(hf:Q3 st)(l:List Nat)(hB:Bytes l): ∃v st',Ev Tryz.prog Jg 95 [.str l] st v st'∧v=.bool (Yr l)∧Qt st st':=by
 have htl:=FM (bytesOf l)
 have hml:((tokens (bytesOf l)).1.map Yq.cells).length=(tokens (bytesOf l)).1.length:=by simp
 refine QG rfl Tryz.func95 rfl Tryz.ntmps95 rfl fun T hT=>?_;have K:Jk [(0,_)] T:=(.cons (hT 0) .nil);have M:=Mem.start hf;refine Qc 2 K M ?_;intro _ K;obtain⟨v8,st8,ev8,ks8,rfl,nr8,q8⟩:=KZ M.fresh l hB;refine o1 K (Qg rfl ev8) rfl fun _ K=>?_;obtain⟨A8,hA8,M⟩:=M.Ah q8 nr8;refine Qc 9 K M ?_;intro _ K;refine oB K (Qb rfl) rfl fun b14 _ e14 K=>?_;cases b14
 ·replace e14:=of_decide_eq_false e14;refine Qc 20 K M ?_;intro _ K;refine Qd ⟨.inr rfl,_,J7 K rfl,?_⟩;refine⟨?_,M.qt⟩
  simp_all [Yr,Qo]
 ·replace e14:=of_decide_eq_true e14;refine og K rfl rfl (Qb rfl) rfl fun _ K=>og K rfl rfl (QP Wr rfl rfl hA8.len) rfl fun _ K=>?_;refine Qc 2 K M ?_;intro _ K;refine oB K (Qb rfl) rfl fun b19 _ e19 K=>?_;cases b19
  ·replace e19:=of_decide_eq_false e19;refine Qc 15 K M ?_;intro _ K;refine Qd ⟨.inr rfl,_,J7 K rfl,?_⟩;refine⟨?_,M.qt⟩
   simp_all [Yr,Qo]
  ·replace e19:=of_decide_eq_true e19;refine og K rfl rfl (Qb rfl) rfl fun _ K=>?_;obtain⟨t21,ht21⟩: ∃t,(tokens (bytesOf l)).1[0]? =some t:=⟨_,List.getElem?_eq_getElem (by omega)⟩;obtain⟨x21,m21,f21,q21,_,la21,lo21,lp21⟩:=(Mem.Gj (L:=[]) (A:=A8) (B:=[]) M hA8).load (i:=0) (cs:=_) (by rw[List.getElem?_map,ht21];rfl);refine og K rfl rfl (Qn (j:=0) YB (congrArg some q21) rfl (by rw[List.length_map];omega)) rfl fun _ K=>?_;refine Qc 1 K M ?_;intro _ K;refine og K rfl rfl (Qq rfl (lo21 _ 0 _ QA rfl)) rfl fun _ K=>?_;refine Qc 2 K M ?_;intro _ K;refine oB K (Qb rfl) rfl fun b26 _ e26 K=>?_;cases b26
   ·replace e26:=of_decide_eq_false e26;refine Qc 8 K M ?_;intro _ K;refine Qd ⟨.inr rfl,_,J7 K rfl,?_⟩;refine⟨?_,M.qt⟩
    simp_all [Yr,Qo]
   ·replace e26:=of_decide_eq_true e26;refine og K rfl rfl (Qb rfl) rfl fun _ K=>?_;obtain⟨t28,ht28⟩: ∃t,(tokens (bytesOf l)).1[0]? =some t:=⟨_,List.getElem?_eq_getElem (by omega)⟩;obtain⟨x28,m28,f28,q28,_,la28,lo28,lp28⟩:=(Mem.Gj (L:=[]) (A:=A8) (B:=[]) M hA8).load (i:=0) (cs:=_) (by rw[List.getElem?_map,ht28];rfl);refine og K rfl rfl (Qn (j:=0) YB (congrArg some q28) rfl (by rw[List.length_map];omega)) rfl fun _ K=>?_;refine Qc 1 K M ?_;intro _ K;refine og K rfl rfl (Qq rfl (lo28 _ 1 _ Ji rfl)) rfl fun _ K=>?_;refine Qc 4 K M ?_;intro _ K;refine Qd ⟨.inr rfl,_,J7 K rfl,?_⟩;refine⟨?_,M.qt⟩
    simp_all [Yr,Qo]

theorem Wm{st:St}(hf:Q3 st)(l:List Nat): ∃v st',Ev Tryz.prog Jg 143 [.str l] st v st'∧v=.bool (Yr l)∧Qt st st':=by
 have htl:=FM (bytesOf l)
 have hml:((tokens (bytesOf l)).1.map Yq.cells).length=(tokens (bytesOf l)).1.length:=by simp
 refine QG rfl Tryz.func143 rfl Tryz.ntmps143 rfl fun T hT=>?_;have K:Jk [(0,_)] T:=(.cons (hT 0) .nil);have M:=Mem.start hf;refine Qc 2 K M ?_;intro _ K;obtain⟨v8,st8,ev8,ks8,rfl,nr8,q8⟩:=Pb M.fresh l (by omega);refine o1 K (Qg rfl ev8) rfl fun _ K=>?_;obtain⟨A8,hA8,M⟩:=M.Ah q8 nr8;refine Qc 9 K M ?_;intro _ K;refine oB K (Qb rfl) rfl fun b14 _ e14 K=>?_;cases b14
 ·replace e14:=of_decide_eq_false e14;refine Qc 20 K M ?_;intro _ K;refine Qd ⟨.inr rfl,_,J7 K rfl,?_⟩;refine⟨?_,M.qt⟩
  simp_all [Yr,Qo]
 ·replace e14:=of_decide_eq_true e14;refine og K rfl rfl (Qb rfl) rfl fun _ K=>og K rfl rfl (QP Wr rfl rfl hA8.len) rfl fun _ K=>?_;refine Qc 2 K M ?_;intro _ K;refine oB K (Qb rfl) rfl fun b19 _ e19 K=>?_;cases b19
  ·replace e19:=of_decide_eq_false e19;refine Qc 15 K M ?_;intro _ K;refine Qd ⟨.inr rfl,_,J7 K rfl,?_⟩;refine⟨?_,M.qt⟩
   simp_all [Yr,Qo]
  ·replace e19:=of_decide_eq_true e19;refine og K rfl rfl (Qb rfl) rfl fun _ K=>?_;obtain⟨t21,ht21⟩: ∃t,(tokens (bytesOf l)).1[0]? =some t:=⟨_,List.getElem?_eq_getElem (by omega)⟩;obtain⟨x21,m21,f21,q21,_,la21,lo21,lp21⟩:=(Mem.Gj (L:=[]) (A:=A8) (B:=[]) M hA8).load (i:=0) (cs:=_) (by rw[List.getElem?_map,ht21];rfl);refine og K rfl rfl (Qn (j:=0) YB (congrArg some q21) rfl (by rw[List.length_map];omega)) rfl fun _ K=>?_;refine Qc 1 K M ?_;intro _ K;refine og K rfl rfl (Qq rfl (lo21 _ 0 _ QA rfl)) rfl fun _ K=>?_;refine Qc 2 K M ?_;intro _ K;refine oB K (Qb rfl) rfl fun b26 _ e26 K=>?_;cases b26
   ·replace e26:=of_decide_eq_false e26;refine Qc 8 K M ?_;intro _ K;refine Qd ⟨.inr rfl,_,J7 K rfl,?_⟩;refine⟨?_,M.qt⟩
    simp_all [Yr,Qo]
   ·replace e26:=of_decide_eq_true e26;refine og K rfl rfl (Qb rfl) rfl fun _ K=>?_;obtain⟨t28,ht28⟩: ∃t,(tokens (bytesOf l)).1[0]? =some t:=⟨_,List.getElem?_eq_getElem (by omega)⟩;obtain⟨x28,m28,f28,q28,_,la28,lo28,lp28⟩:=(Mem.Gj (L:=[]) (A:=A8) (B:=[]) M hA8).load (i:=0) (cs:=_) (by rw[List.getElem?_map,ht28];rfl);refine og K rfl rfl (Qn (j:=0) YB (congrArg some q28) rfl (by rw[List.length_map];omega)) rfl fun _ K=>?_;refine Qc 1 K M ?_;intro _ K;refine og K rfl rfl (Qq rfl (lo28 _ 1 _ Ji rfl)) rfl fun _ K=>?_;refine Qc 4 K M ?_;intro _ K;refine Qd ⟨.inr rfl,_,J7 K rfl,?_⟩;refine⟨?_,M.qt⟩
    simp_all [Yr,Qo]
end Go.Proofs.YtadjjadimlkkgaaGreatDoor
end
section
namespace Go.Proofs.YtadjjadimlkkgaaGreatDoor
open Go Go.RowKit
set_option maxRecDepth 100000

structure EF(h:Hp)(kids:List Nd)(kk:AV)(ls:List (List AV)):Prop where
 r:J8 h [] 5 ls kk
 ln:ls.length=kids.length
 at_: ∀(i:Nat) (k:Nd),kids[i]? =some k→ ∃cs,ls[i]? =some cs∧YW h k cs
theorem EF.len{h:Hp}{kids:List Nd}{kk:AV}{ls:List (List AV)}(H:EF h kids kk ls):V5 kk=some kids.length:=by rw[←H.ln];exact H.r.len
theorem EF.cell{h:Hp}{kids:List Nd}{kk:AV}{ls:List (List AV)}(H:EF h kids kk ls):JD kk=true:=H.r.cell
theorem EF.Yx{h:Hp}{kids:List Nd}{kk:AV}{ls:List (List AV)}(H:EF h kids kk ls):(kids.length:Int)≤9223372036854775807:=by rw[←H.ln];exact H.r.Yx
theorem YW.Ju{h:Hp}{op name:List Nat}{n at_:Int}{kids:List Nd}{cs:List AV}(r:YW h (.mk op name n at_ kids) cs):
  ∃kk ls,cs=[.str op,.str name,.int .i64 n,.int .i64 at_,kk]∧EF h kids kk ls∧Bytes op∧Bytes name:=by
 cases r with
 |leaf hs ha hb=>
  rename_i ks;refine⟨ks,[],rfl,⟨⟨hs,by simp,KU hs,fun i cs hi=>by simp at hi,fun c m off n z e=>by subst e;cases ha⟩,rfl,fun i k hi=>by simp at hi⟩,hb⟩
 |node hr hn hl hk hb=>
  rename_i c m off cells
  have hlen:((List.range kids.length).map fun i=>(cells.drop (off+i *5)).take 5).length=kids.length:=by simp
  have hat: ∀(i:Nat) (cs:List AV),((List.range kids.length).map fun i=>(cells.drop (off+i *5)).take 5)[i]? =some cs→i<kids.length∧cs=(cells.drop (off+i *5)).take 5:=by
   intro i cs hi;rw[List.getElem?_map]at hi
   have hlt:i<kids.length:=by
    by_cases h:i<kids.length
    ·exact h
    ·rw[List.getElem?_eq_none (by simp;omega)]at hi;cases hi
   rw[List.getElem?_range hlt]at hi
   injection hi with hi
   exact⟨hlt,hi.symm⟩
  refine⟨_,(List.range kids.length).map fun i=>(cells.drop (off+i *5)).take 5,rfl,⟨⟨by rw[hlen];rfl,by rw[hlen];exact hn,rfl,fun i cs hi=>?_,fun c' m' off' n' z e=>?_⟩,hlen,fun i k hi=>?_⟩,hb⟩
  ·obtain⟨h1,rfl⟩:=hat i cs hi;refine⟨c,m,off,cells,by rw[hlen],by simp,hr,?_,rfl⟩;rw[List.length_take,List.length_drop];omega
  ·injection e with e1 e2 e3 e4 e5
   subst e1 e2 e3 e4 e5;exact⟨by simp,cells,hr,hl⟩
  ·have hlt:=(List.getElem?_eq_some_iff.1 hi).1;refine⟨_,?_,hk i k hi⟩;rw[List.getElem?_map,List.getElem?_range hlt];rfl
theorem YW.qt{st st':St}(hf:Q3 st)(q:Qt st st'){k:Nd}{cs:List AV}(r:YW st.h.get k cs):YW st'.h.get k cs:=r.mono (q.rows hf)
def Nd.op:Nd→List Nat
 |.mk op _ _ _ _=>op
theorem Ub{kids:List Nd}{i:Nat}{k:Nd}(h:kids[i]? =some k):k∈kids:=List.mem_of_getElem? h

mutual
def Nz:Nd→Nat
 |.mk _ _ _ _ kids=>Rm kids+1
def Rm:List Nd→Nat
 |[]=>0
 |a::l=>max (Nz a) (Rm l)
end
theorem Dn(k:Nd):1≤Fe k:=by cases k;rw[Fe];omega
theorem DG(k:Nd):1≤Nz k:=by cases k;rw[Nz];omega
theorem Gx{kids:List Nd}{i:Nat}{k:Nd}(h:kids[i]? =some k):Dp (kids.drop i)=Fe k+Dp (kids.drop (i+1)):=by
 obtain⟨h1,h2⟩:=List.getElem?_eq_some_iff.1 h;rw[List.drop_eq_getElem_cons h1,Dp,h2]
theorem Bu{kids:List Nd}{i:Nat}{k:Nd}(h:kids[i]? =some k):Rm (kids.drop i)=max (Nz k) (Rm (kids.drop (i+1))):=by
 obtain⟨h1,h2⟩:=List.getElem?_eq_some_iff.1 h;rw[List.drop_eq_getElem_cons h1,Rm,h2]
theorem Ip{kids:List Nd}{i:Nat}{k:Nd}{p:Nd→Bool}(h:kids[i]? =some k):(kids.drop i).all p=(p k&&(kids.drop (i+1)).all p):=by
 obtain⟨h1,h2⟩:=List.getElem?_eq_some_iff.1 h;rw[List.drop_eq_getElem_cons h1,List.all_cons,h2]
theorem Jh{α:Type}{l:List α}{i:Nat}(h:l.length≤i):l.drop i=[]:=List.drop_eq_nil_of_le h

def YK:List Nat:=[118,97,114]
def Zd:List Nat:=[110,117,109]
def U9:List Nat:=[112,108,117,115]
def Uv:List Nat:=[115,101,116]
def Jv(op:List Nat):Bool:=decide (op=[117,110,105,111,110])||(decide (op=[105,110,116,101,114])||decide (op=[109,105,110,117,115]))
def Jc(name:List Nat)(n:Int)(kids:List Nd)(m:Int):Bool:=decide (name=[])&&(decide (n=0)&&decide (((kids.length:Nat):Int)=m))
def QL(x:Nd):Bool:=match x with
 |.mk op name n _ kids=>
  if op=YK then Yr name&&(decide (n=0)&&decide (((kids.length:Nat):Int)=0))
  else if op=Zd then decide (name=[])&&(decide (0≤n)&&(decide (n≤99)&&decide (((kids.length:Nat):Int)=0)))
  else if op=U9 then decide (name=[])&&(decide (1≤n)&&(decide (n≤99)&&(decide (((kids.length:Nat):Int)=1)&&kids.attach.all fun k=>decide (k.1.op=YK)&&QL k.1)))
  else if op=Uv then decide (name=[])&&(decide (n=0)&&(decide (((kids.length:Nat):Int)≤6)&&kids.attach.all fun k=>QL k.1&&(!Jv k.1.op&& !decide (k.1.op=Uv))))
  else if Jv op then Jc name n kids 2&&((kids.attach.all fun k=>QL k.1)&&(match kids[1]? with|some k=> !Jv k.op|none=>true))
  else false
termination_by Fe x
decreasing_by
 all_goals
  simp_wf
  have:=Hw k.2;rw[Fe];omega
theorem Ai{α:Type}(l:List α)(p:α→Bool):(l.attach.all fun x=>p x.1)=l.all p:=by
 rw[List.all_eq,List.all_eq];simp
def YI(k:Nd):Bool:=QL k&&(!Jv k.op&& !decide (k.op=Uv))
theorem Jy(op name:List Nat)(n at_:Int)(kids:List Nd):QL (.mk op name n at_ kids)=
  if op=YK then Yr name&&(decide (n=0)&&decide (((kids.length:Nat):Int)=0))
  else if op=Zd then decide (name=[])&&(decide (0≤n)&&(decide (n≤99)&&decide (((kids.length:Nat):Int)=0)))
  else if op=U9 then decide (name=[])&&(decide (1≤n)&&(decide (n≤99)&&(decide (((kids.length:Nat):Int)=1)&&kids.all fun k=>decide (k.op=YK)&&QL k)))
  else if op=Uv then decide (name=[])&&(decide (n=0)&&(decide (((kids.length:Nat):Int)≤6)&&kids.all YI))
  else if Jv op then Jc name n kids 2&&((kids.all QL)&&(match kids[1]? with|some k=> !Jv k.op|none=>true))
  else false:=by
 rw[QL];rw[Ai kids fun k=>decide (k.op=YK)&&QL k,Ai kids fun k=>QL k&&(!Jv k.op&& !decide (k.op=Uv)),Ai kids QL];rfl
def oneOf(op:List Nat)(l:List (List Nat)):Bool:=l.any fun x=>decide (op=x)
def Jm(x:Nd):Bool:=match x with
 |.mk op name n _ kids=>
  if oneOf op [[116,114,117,101],[102,97,108,115,101]]then Jc name n kids 0
  else if op=[110,111,116]then Jc name n kids 1&&kids.attach.all fun k=>Jm k.1
  else if oneOf op [[97,110,100],[111,114],[105,109,112],[105,102,102]]then Jc name n kids 2&&kids.attach.all fun k=>Jm k.1
  else if oneOf op [[101,120],[97,108,108]]then Yr name&&(decide (0≤n)&&(decide (n<3)&&(decide (((kids.length:Nat):Int)=1)&&kids.attach.all fun k=>Jm k.1)))
  else if op=[105,115]then Yr name&&(decide (n=0)&&decide (((kids.length:Nat):Int)=0))
  else if oneOf op [[101,113],[110,101],[108,116],[108,101],[105,110],[110,111,116,105,110],[115,117,98]]then Jc name n kids 2&&kids.all QL
  else if op=[99,97,108,108]then Yr name&&(decide (n=0)&&(decide (((kids.length:Nat):Int)≤6)&&kids.all QL))
  else false
termination_by Fe x
decreasing_by
 all_goals
  simp_wf
  have:=Hw k.2;rw[Fe];omega
theorem J0(op name:List Nat)(n at_:Int)(kids:List Nd):Jm (.mk op name n at_ kids)=
  if oneOf op [[116,114,117,101],[102,97,108,115,101]]then Jc name n kids 0
  else if op=[110,111,116]then Jc name n kids 1&&kids.all Jm
  else if oneOf op [[97,110,100],[111,114],[105,109,112],[105,102,102]]then Jc name n kids 2&&kids.all Jm
  else if oneOf op [[101,120],[97,108,108]]then Yr name&&(decide (0≤n)&&(decide (n<3)&&(decide (((kids.length:Nat):Int)=1)&&kids.all Jm)))
  else if op=[105,115]then Yr name&&(decide (n=0)&&decide (((kids.length:Nat):Int)=0))
  else if oneOf op [[101,113],[110,101],[108,116],[108,101],[105,110],[110,111,116,105,110],[115,117,98]]then Jc name n kids 2&&kids.all QL
  else if op=[99,97,108,108]then Yr name&&(decide (n=0)&&(decide (((kids.length:Nat):Int)≤6)&&kids.all QL))
  else false:=by
 rw[Jm];rw[Ai kids Jm]
end Go.Proofs.YtadjjadimlkkgaaGreatDoor
end
