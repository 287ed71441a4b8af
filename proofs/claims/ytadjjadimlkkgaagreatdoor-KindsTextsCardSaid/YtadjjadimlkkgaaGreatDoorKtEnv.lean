/-
  The reader of 'sibylref2': its state in memory; plain laws of what it reads.
-/
import Derived.Test.YtadjjadimlkkgaaGreatDoorKtLexU
set_option linter.unusedVariables false
section
namespace Go.Proofs.YtadjjadimlkkgaaGreatDoor
open Go Go.RowKit

def Hb(L:List (Nat×Nat))(n:Nat)(c:Int):Bool:=match L[n]? with
 |some x=>decide ((x.1:Int)=c)
 |none=>false
theorem Eh{L:List (Nat×Nat)}{n:Nat}{x:Nat×Nat}{c:Int}(h:L[n]? =some x):Hb L n c=decide ((x.1:Int)=c):=by simp[Hb,h]
theorem CA{L:List (Nat×Nat)}{n:Nat}{c:Int}(h:L.length≤n):Hb L n c=false:=by simp[Hb,List.getElem?_eq_none h]
theorem ZS{L:List (Nat×Nat)}{n:Nat}{x:Nat×Nat}(h:L[n]? =some x):Js L n=QX x.1:=by simp[Js,h]
theorem LU{L:List (Nat×Nat)}{n:Nat}(h:L.length≤n):Js L n= -1:=by simp[Js,List.getElem?_eq_none h]
theorem FT{fin:Nat}{L:List (Nat×Nat)}{n:Nat}{x:Nat×Nat}(h:L[n]? =some x):QJ fin L n=x.2:=by simp[QJ,h]
theorem YY{fin:Nat}{L:List (Nat×Nat)}{n:Nat}(h:L.length≤n):QJ fin L n=fin:=by simp[QJ,List.getElem?_eq_none h]
theorem OR{L:List (Nat×Nat)}{n:Nat}{c:Int}(h:Hb L n c=true):n<L.length:=by
 refine Nat.lt_of_not_le fun hge=>?_;rw[CA hge]at h;cases h
theorem AR{L:List (Nat×Nat)}{n:Nat}(h:0≤Js L n):n<L.length:=by
 refine Nat.lt_of_not_le fun hge=>?_;rw[LU hge]at h;exact absurd h (by decide)
theorem ZD{L:List (Nat×Nat)}{n:Nat}(h:n<L.length): ∃c a,L[n]? =some (c,a)∧L.drop n=(c,a)::L.drop (n+1):=⟨_,_,List.getElem?_eq_getElem h,Vb L n h⟩
def cG(b:Bool)(r:List (Nat×Nat)):Nat:=if b then JE r else 0
theorem Ge{b:Bool}{L:List (Nat×Nat)}{j:Nat}(h:b=false∨ ¬j<L.length∨Hb L j 10=true):cG b (L.drop j)=0:=by
 rcases h with rfl|h|h
 ·rfl
 ·rw[List.drop_eq_nil_of_le (by omega)];cases b<;>rfl
 ·obtain⟨c,a,h1,h2⟩:=ZD (OR h);rw[Eh h1]at h;have h:=of_decide_eq_true h
  have h:c=10:=by simpa using Int.ofNat_inj.1 h
  rw[h2];cases b
  ·rfl
  ·show JE _=0;rw[JE,if_pos h]
theorem uH{L:List (Nat×Nat)}{j:Nat}(h1:j<L.length)(h2:Hb L j 10=false):cG true (L.drop j)=cG true (L.drop (j+1))+1:=by
 obtain⟨c,a,h3,h4⟩:=ZD h1;rw[Eh h3]at h2;have h:=of_decide_eq_false h2;rw[h4];show JE _=_;rw[JE,if_neg (fun e=>h (by subst e;rfl))];rfl
theorem Pk{c:Nat}(h:QX (c:Int)=3):Xe (c:Int)=true:=V1.1 h
theorem Hl{L:List (Nat×Nat)}{k:Nat}(h:Js L k=3∨Hb L k 35=true):Jn false (L.drop k)=1+cG (Hb L k 35) (L.drop (k+1))+Jn false (L.drop (k+1+cG (Hb L k 35) (L.drop (k+1)))):=by
 have hk:k<L.length:=by
  rcases h with h|h
  ·exact AR (by omega)
  ·exact OR h
 obtain⟨c,a,h3,h4⟩:=ZD hk;rw[Eh h3];rw[ZS h3,Eh h3]at h;rw[h4,Jn]
 by_cases h35:(c:Int)=35
 ·have hc:c=35:=by simpa using Int.ofNat_inj.1 h35
  subst hc;have hd:decide ((((35,a):Nat×Nat).1:Int)=35)=true:=rfl;rw[if_neg (by decide+kernel),if_pos rfl,FI,hd,List.drop_drop];show JE _+_+1=1+JE _+Jn false (L.drop (k+1+JE (L.drop (k+1))));omega
 ·have hd:decide ((((c,a):Nat×Nat).1:Int)=35)=false:=decide_eq_false h35;rw[hd];rcases h with h|h
  ·have hs:=Pk h;have e:(if Xe c=true then Jn false (L.drop (k+1))+1 else if c=35 then Jn true (L.drop (k+1))+1 else 0)=Jn false (L.drop (k+1))+1:=if_pos hs;rw[e];show _=1+0+Jn false (L.drop (k+1+0));rw[Nat.add_zero,Nat.add_zero,Nat.add_comm]
  ·rw[hd]at h;cases h
theorem TS{L:List (Nat×Nat)}{k:Nat}(h1:Js L k≠3)(h2:Hb L k 35=false):Jn false (L.drop k)=0:=by
 by_cases hk:k<L.length
 ·obtain⟨c,a,h3,h4⟩:=ZD hk;rw[ZS h3]at h1;rw[Eh h3]at h2;have h2:=of_decide_eq_false h2;rw[h4,Jn];have hs: ¬Xe (c:Int)=true:=fun h=>h1 (V1.2 h)
  have e:(if Xe c=true then Jn false (L.drop (k+1))+1 else if c=35 then Jn true (L.drop (k+1))+1 else 0)=if c=35 then Jn true (L.drop (k+1))+1 else 0:=if_neg hs
  rw[e,if_neg fun e=>h2 (by subst e;rfl)]
 ·rw[List.drop_eq_nil_of_le (by omega)];rfl

theorem IE{L:List (Nat×Nat)}{j:Nat}(h:Js L j=1∨Js L j=2∨Hb L j 39=true):j<L.length∧Us (L.drop j)=Us (L.drop (j+1))+1:=by
 have hj:j<L.length:=by
  rcases h with h|h|h
  ·exact AR (by omega)
  ·exact AR (by omega)
  ·exact OR h
 refine⟨hj,?_⟩;obtain⟨c,a,h3,h4⟩:=ZD hj;rw[ZS h3,Eh h3]at h;rw[h4,Us,if_pos];rcases h with h|h|h
 ·simp[W0,AS.1 h]
 ·simp[W0,Zo.1 h]
 ·have:=of_decide_eq_true h;simp[W0,this]
theorem GQ{L:List (Nat×Nat)}{j:Nat}(h1:Js L j≠1)(h2:Js L j≠2)(h3:Hb L j 39=false):Us (L.drop j)=0:=by
 by_cases hj:j<L.length
 ·obtain⟨c,a,h4,h5⟩:=ZD hj;rw[ZS h4]at h1 h2;rw[Eh h4]at h3;have h3:=of_decide_eq_false h3;rw[h5,Us,if_neg];intro hm;unfold W0 at hm;simp only[Bool.or_eq_true,decide_eq_true_iff]at hm;rcases hm with(h|h)|h
  ·exact h1 (AS.2 h)
  ·exact h2 (Zo.2 h)
  ·exact h3 h
 ·rw[List.drop_eq_nil_of_le (by omega)];rfl

structure Nl(h:Hp)(g:Nat)(l:List Nat)(ks:AV)(L:List (Nat×Nat))(bad:Option Nat)(n:Nat):Prop where
 row:JS h g 0 [.str l,ks,.int .i64 (JH bad),.int .i64 ((n:Nat):Int)]
 run:J8 h [g] 2 (L.map XP) ks
 few:L.length≤100000
 le:n≤L.length
 size:l.length≤100000
 mono: ∀i j,i≤j→QJ (J1 (bytesOf l) bad) L i≤QJ (J1 (bytesOf l) bad) L j∧QJ (J1 (bytesOf l) bad) L j≤l.length
theorem Nl.next{h0 h:Hp}{g:Nat}{l:List Nat}{ks:AV}{L:List (Nat×Nat)}{bad:Option Nat}{n n':Nat}(H:Nl h0 g l ks L bad n)(hr:JS h g 0 [.str l,ks,.int .i64 (JH bad),.int .i64 ((n':Nat):Int)])(hk:J8 h [g] 2 (L.map XP) ks)(hn:n'≤L.length):Nl h g l ks L bad n':=⟨hr,hk,H.few,hn,H.size,H.mono⟩
theorem Il{bad:Option Nat}(h:0≤JH bad): ∃q,bad=some q:=by
 cases bad with
 |none=>exact absurd h (by decide)
 |some q=>exact⟨q,rfl⟩
theorem Im{bad:Option Nat}(h: ¬0≤JH bad):bad=none:=by
 cases bad with
 |none=>rfl
 |some q=>exact absurd (Int.natCast_nonneg q) h
theorem Wb{L:List (Nat×Nat)}:(L.map XP).length=L.length:=by simp
theorem OA{L:List (Nat×Nat)}{n:Nat}{c a:Nat}(h:L[n]? =some (c,a)):(L.map XP)[n]? =some [.int .i32 (c:Int),.int .i64 (a:Int)]:=by rw[List.getElem?_map,h];rfl

def VE:List (List Nat):=[[116,114,117,101],[102,97,108,115,101],[101,120,48],[101,120,49],[101,120,50],[97,108,108,48],[97,108,108,49],[97,108,108,50],[118,97,114,48],[118,97,114,49],[118,97,114,50],[112,114,101,100],[105,110],[110,111,116,105,110],[115,117,98],[117,110,105,111,110],[105,110,116,101,114]]
def Xf:List (List Nat):=[[60,61,62],[61,62],[60,61],[126,61],[61],[126],[60],[38],[124],[40],[41],[123],[125],[44],[59],[58],[43],[92]]
theorem DY:EG.map Yu=VE:=by decide+kernel
theorem Po:Xv.map Yu=Xf:=by decide+kernel
theorem Ch{a b:ByteArray}(h:Yu a=Yu b):a=b:=by rw[←Zl a,h,Zl]
theorem DW(s:ByteArray):VN EG s=VE.contains (Yu s):=by
 rw[←DY,Bool.eq_iff_iff,CD,List.contains_iff_mem,List.mem_map];exact⟨fun h=>⟨s,h,rfl⟩,fun⟨a,h,e⟩=>Ch e▸h⟩
def Vj:List (Nat×Nat)→List Nat→Bool
 |_,[]=>true
 |[],_::_=>false
 |(c,_)::r,b::l=>decide (c=b)&&Vj r l
theorem Tv(l:List UInt8): ∀r,Vj r (l.map UInt8.toNat)=WZ r l:=by
 induction l with
 |nil=>intro r;cases r<;>rfl
 |cons b l ih=>
  intro r
  cases r with
  |nil=>rfl
  |cons x r=>obtain⟨c,a⟩:=x;rw[List.map_cons,Vj,WZ,ih]
def NH(r:List (Nat×Nat)):Option (List Nat):=Xf.find? fun w=>Vj r w
theorem Sc(r:List (Nat×Nat)):NH r=(Wt r).map Yu:=by
 unfold NH Wt;rw[←Po,List.find?_map]
 congr 1
 congr 1
 funext sg
 exact Tv _ r
end Go.Proofs.YtadjjadimlkkgaaGreatDoor
end
section
namespace Go.Proofs.YtadjjadimlkkgaaGreatDoor
open Go

noncomputable section

def DA(l:List (FuncId×TypeId×TypeId))(f:FuncId):Option (TypeId×TypeId):=List.rec none (fun q _ ih=>Qo (Nat.beq f q.1) (some q.2) ih) l
theorem Of{l:List (FuncId×TypeId×TypeId)}{f:FuncId}{q:TypeId×TypeId}(h:DA l f=some q):(f,q)∈l:=by
 induction l with
 |nil=>cases h
 |cons x l ih=>
  have h:Qo (Nat.beq f x.1) (some x.2) (DA l f)=some q:=h
  cases hb:Nat.beq f x.1 with
  |true=>
   rw[hb]at h
   injection h with h
   subst h;rw[Nat.eq_of_beq_eq_true hb];exact List.mem_cons_self ..
  |false=>rw[hb]at h;exact List.mem_cons_of_mem _ (ih h)
def DP:List (FuncId×TypeId×TypeId):=
 (195,22,102)::
 (210,41,9)::
 (218,190,198)::
 []
theorem BH: ∀x∈DP,Db Tryz.prog x.2 x.1:=by
 intro x hx;unfold DP at hx;rcases List.mem_cons.1 hx with rfl|hx
 ·exact⟨3,4,207,0,_,Tryz.func195,rfl,rfl,rfl,by decide+kernel⟩
 rcases List.mem_cons.1 hx with rfl|hx
 ·exact⟨3,4,216,0,_,Tryz.func210,rfl,rfl,rfl,by decide+kernel⟩
 rcases List.mem_cons.1 hx with rfl|hx
 ·exact⟨3,4,220,0,_,Tryz.func218,rfl,rfl,rfl,by decide+kernel⟩
 cases hx
def uF:Env:=⟨fun _=>false,DA DP,fun _=>none,fun _=>True⟩
theorem qa:Kq Tryz.prog uF:=⟨fun f q h=>BH (f,q) (Of h),fun f sm h=>(nomatch h)⟩
end
theorem mixed:Tryz.prog.follows .mixedOrders=true:=by decide+kernel

end Go.Proofs.YtadjjadimlkkgaaGreatDoor
end
