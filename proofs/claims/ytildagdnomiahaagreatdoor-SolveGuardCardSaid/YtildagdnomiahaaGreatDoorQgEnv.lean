/-
  Rows that lie there.
-/
import Derived.Test.YtildagdnomiahaaGreatDoorQgSy2
import Derived.Test.YtildagdnomiahaaGreatDoorProg
import Derived.ChangeShapes
import Derived.ChangeOld
import Derived.Below
import Derived.Carry
set_option maxRecDepth 100000
set_option linter.unusedSectionVars false
set_option linter.unusedSimpArgs false
set_option linter.unusedVariables false
namespace Go.Proofs.YtildagdnomiahaaGreatDoor
section
open Go Go.RowKit

def uR:AV→Bool
 |.sl _ _ _ _ _=>false
 |_=>true
theorem Ka{ks:AV}{n:Nat}(h:JU ks=some n):Qu ks=true:=by
 cases ks<;>first|rfl|cases h
abbrev Vl:=Nat→Nat→List AV→Prop
abbrev VL:=List (Nat×Nat×List AV)
def ZL(R:Vl)(h:Hp):Prop:= ∀c m l,R c m l→UU h c m l
def Un(R:Vl)(A:VL):Vl:=fun c m l=>R c m l∨(c,m,l)∈A
theorem PL{R:Vl}{A:VL}{c m:Nat}{l:List AV}(h:R c m l):Un R A c m l:=.inl h
theorem QH{R R':Vl}{A A':VL}(h: ∀c m l,R c m l→R' c m l)(hA: ∀x∈A,x∈A'): ∀c m l,Un R A c m l→Un R' A' c m l:=fun c m l h'=>h'.elim (fun x=>.inl (h _ _ _ x)) fun x=>.inr (hA _ x)
theorem Mem.ZL{h0:Hp}{n0:Nat}{st:St}{M:VL}(h:Mem h0 n0 [] st M){R:Vl}(hR:Proofs.YtildagdnomiahaaGreatDoor.ZL R h0):Proofs.YtildagdnomiahaaGreatDoor.ZL R st.h.get:=fun c m l hr=>h.QY Qx (hR c m l hr)
end
section
open Go Go.RowKit
variable {a b c n:Int} {cs:List AV} {i:Nat} {o:List Nat}

inductive Cr where
 |mk (op:List Nat) (a b c n:Int) (kids:List Cr)
def Cr.op:Cr→List Nat
 |.mk o _ _ _ _ _=>o
def Cr.kids:Cr→List Cr
 |.mk _ _ _ _ _ l=>l
inductive Uy(R:Vl):Cr→List AV→Prop
 |leaf {o:List Nat} {a b c n:Int} {ks:AV} (hs:JU ks=some 0) (ha:uR ks=true):Uy R (.mk o a b c n []) [.str o,.int .i64 a,.int .i64 b,.int .i64 c,.int .i64 n,ks]
 |node {o:List Nat} {a b c n:Int} {kids:List Cr} {x m off:Nat} {cells:List AV} (hr:R x m cells) (hn:(kids.length:Int)≤9223372036854775807) (hl:off+kids.length *6≤cells.length)
  (hk: ∀(i:Nat) (k:Cr),kids[i]? =some k→Uy R k ((cells.drop (off+i *6)).take 6)):Uy R (.mk o a b c n kids) [.str o,.int .i64 a,.int .i64 b,.int .i64 c,.int .i64 n,.sl x m off kids.length 6]
theorem Uy.mono{R R':Vl}(hl: ∀c m l,R c m l→R' c m l){t:Cr}(r:Uy R t cs):Uy R' t cs:=by
 induction r with
 |leaf hs ha=>exact .leaf hs ha
 |node hr hn hl' hk ih=>exact .node (hl _ _ _ hr) hn hl' ih
inductive Ym(R:Vl):List Cr→AV→List (List AV)→Prop
 |none {kk:AV} (hs:JU kk=some 0) (ha:uR kk=true):Ym R [] kk []
 |row {kids:List Cr} {ls:List (List AV)} {c m off:Nat} {cells:List AV} (hr:R c m cells) (hn:(kids.length:Int)≤9223372036854775807) (hl:off+kids.length *6≤cells.length) (hls:ls.length=kids.length)
  (hcs: ∀(i:Nat) (cs:List AV),ls[i]? =some cs→cs=(cells.drop (off+i *6)).take 6) (hk: ∀(i:Nat) (k:Cr) (cs:List AV),kids[i]? =some k→ls[i]? =some cs→Uy R k cs):Ym R kids (.sl c m off kids.length 6) ls
section
variable {R:Vl} {kids:List Cr} {kk:AV} {ls:List (List AV)}
theorem Ym.ln(K:Ym R kids kk ls):ls.length=kids.length:=by
 cases K with
 |none=>rfl
 |row _ _ _ h=>exact h
theorem Ym.len(K:Ym R kids kk ls):JU kk=some kids.length:=by
 cases K with
 |none hs ha=>exact hs
 |row=>rfl
theorem Ym.cell(K:Ym R kids kk ls):Qu kk=true:=Ka K.len
theorem Ym.EA(K:Ym R kids kk ls):(kids.length:Int)≤9223372036854775807:=by
 cases K with
 |none=>simp
 |row _ h=>exact h
theorem Ym.get(K:Ym R kids kk ls){k:Cr}(hi:kids[i]? =some k): ∃cs,ls[i]? =some cs∧Uy R k cs:=by
 have hlt:i<ls.length:=by rw[K.ln];exact(List.getElem?_eq_some_iff.1 hi).1
 refine⟨_,List.getElem?_eq_getElem hlt,?_⟩
 cases K with
 |none=>simp at hi
 |row _ _ _ _ _ hk=>exact hk i k _ hi (List.getElem?_eq_getElem hlt)
theorem Ym.r(K:Ym R kids kk ls){h:Hp}(hi:ZL R h):Je h [] 6 ls kk:=by
 cases K with
 |none hs ha=>exact⟨hs,by simp,Ka hs,fun i cs hi=>by simp at hi,fun c m off n z e=>by subst e;cases ha⟩
 |row hr hn hl hls hcs hk=>
  rename_i c m off cells;refine⟨by rw[hls];rfl,by rw[hls];exact hn,rfl,fun i cs he=>?_,fun c' m' off' n' z e=>?_⟩
  ·have hlt:=(List.getElem?_eq_some_iff.1 he).1;have:=hcs i cs he;refine⟨c,m,off,cells,by rw[hls],by simp,hi _ _ _ hr,?_,this.symm⟩;rw[this,List.length_take,List.length_drop];omega
  ·injection e with e1 e2 e3 e4 e5
   subst e1 e2 e3 e4 e5;exact⟨by simp,cells,hi _ _ _ hr,hl⟩
end
theorem Uy.MP{R:Vl}{k:Cr}(r:Uy R k cs):cs.length=6:=by cases r<;>rfl
theorem Uy.YN{R:Vl}{kids:List Cr}(r:Uy R (.mk o a b c n kids) cs):
  ∃kk ls,cs=[.str o,.int .i64 a,.int .i64 b,.int .i64 c,.int .i64 n,kk]∧Ym R kids kk ls:=by
 cases r with
 |leaf hs ha=>exact⟨_,[],rfl,.none hs ha⟩
 |node hr hn hl hk=>
  rename_i x m off cells
  have hlen:((List.range kids.length).map fun i=>(cells.drop (off+i *6)).take 6).length=kids.length:=by simp
  have hat: ∀(i:Nat) (cs:List AV),((List.range kids.length).map fun i=>(cells.drop (off+i *6)).take 6)[i]? =some cs→i<kids.length∧cs=(cells.drop (off+i *6)).take 6:=by
   intro i cs hi;rw[List.getElem?_map]at hi
   have hlt:i<kids.length:=by
    by_cases h:i<kids.length
    ·exact h
    ·rw[List.getElem?_eq_none (by simp;omega)]at hi;cases hi
   rw[List.getElem?_range hlt]at hi
   injection hi with hi
   exact⟨hlt,hi.symm⟩
  refine⟨_,(List.range kids.length).map fun i=>(cells.drop (off+i *6)).take 6,rfl,.row hr hn hl hlen (fun i cs hi=>(hat i cs hi).2) fun i k cs h1 h2=>?_⟩;rw[(hat i cs h2).2];exact hk i k h1
theorem Uy.zb{R:Vl}{k:Cr}(r:Uy R k cs): ∃o a b c n l kk ls,k=.mk o a b c n l∧cs=[.str o,.int .i64 a,.int .i64 b,.int .i64 c,.int .i64 n,kk]∧Ym R l kk ls:=by
 obtain⟨o,a,b,c,n,l⟩:=k;obtain⟨kk,ls,e,K⟩:=r.YN;exact⟨o,a,b,c,n,l,kk,ls,rfl,e,K⟩
theorem Uy.shape{R:Vl}{k:Cr}{kk:AV}(r:Uy R k [.str o,.int .i64 a,.int .i64 b,.int .i64 c,.int .i64 n,kk]): ∃l ls,k=.mk o a b c n l∧Ym R l kk ls:=by
 obtain⟨o1,a1,b1,c1,n1,l,kk',ls,e1,e,K⟩:=r.zb
 injection e with x1 e;injection e with x2 e;injection e with x3 e;injection e with x4 e;injection e with x5 e;injection e with x6 e
 injection x1 with x1;injection x2 with _ x2;injection x3 with _ x3;injection x4 with _ x4;injection x5 with _ x5
 subst x1 x2 x3 x4 x5 x6;exact⟨l,ls,e1,K⟩
theorem Uy.Ze{R:Vl}{k:Cr}{a b c d e kk:AV}(r:Uy R k [a,b,c,d,e,kk]):Qu kk=true:=by
 obtain⟨o1,a1,b1,c1,n1,l,kk',ls,e1,e,K⟩:=r.zb
 injection e with x1 e;injection e with x2 e;injection e with x3 e;injection e with x4 e;injection e with x5 e;injection e with x6 e
 subst x6;exact K.cell
theorem Uy.en{R:Vl}{k:Cr}{a b c d e kk:AV}(r:Uy R k [a,b,c,d,e,kk]):JU kk=some k.kids.length:=by
 obtain⟨o1,a1,b1,c1,n1,l,kk',ls,e1,e,K⟩:=r.zb
 injection e with x1 e;injection e with x2 e;injection e with x3 e;injection e with x4 e;injection e with x5 e;injection e with x6 e
 subst x6 e1;exact K.len
theorem WL{R:Vl}:Uy R (.mk o a b c n []) [.str o,.int .i64 a,.int .i64 b,.int .i64 c,.int .i64 n,.nils]:=.leaf rfl rfl
mutual
def VN:Cr→Nat
 |.mk _ _ _ _ _ l=>ZU l+1
def ZU:List Cr→Nat
 |[]=>0
 |k::l=>VN k+ZU l
end
theorem ud(k:Cr):1≤VN k:=by cases k;rw[VN];omega
theorem TF{k:Cr}{l:List Cr}(h:k∈l):VN k≤ZU l:=by
 induction l with
 |nil=>cases h
 |cons x l ih=>
  rw[ZU];rcases List.mem_cons.1 h with rfl|h
  ·omega
  ·have:=ih h;omega
theorem RJ{l:List Cr}{k:Cr}(h:l[i]? =some k):ZU (l.drop i)=VN k+ZU (l.drop (i+1)):=by
 obtain⟨h1,h2⟩:=List.getElem?_eq_some_iff.1 h;rw[List.drop_eq_getElem_cons h1,ZU,h2]
theorem Le{M:Cr→Prop}(h: ∀o a b g n kids,(∀k,k∈kids→M k)→M (.mk o a b g n kids))(k:Cr):M k:=by
 have: ∀n k,VN k≤n→M k:=by
  intro n
  induction n with
  |zero=>intro k hk;cases k;rw[VN]at hk;omega
  |succ n ih=>
   intro k hk
   cases k with
   |mk o a b g z kids=>
    rw[VN]at hk;exact h _ _ _ _ _ _ fun k hm=>ih k (by have:=TF hm;omega)
 exact this _ k (Nat.le_refl _)
theorem Pe{l:List Cr}{k:Cr}(h:l[i]? =some k):k∈l:=List.mem_of_getElem? h
theorem Hm{l:List Cr}(h:l.length≤i):l.drop i=[]:=List.drop_eq_nil_of_le h
def Zw(o:List Nat):List Nat×Int×Bool:=
 if [116,114,117,101]=o then([],0,true)else if [115,117,98]=o then([65,66],0,true)else if [115,105,110,103]=o then([65],0,true)else if [102,108,97,103]=o then([65],0,true)
 else if [110,111,110,101]=o then([65],0,true)else if [108,101,115,115]=o then([65,66],0,true)else if [112,108,117,115]=o then([65,66,78],0,true)else if [110,117,109]=o then([65,78],0,true)
 else if [117,110,105,111,110]=o then([65,66,67],0,true)else if [105,110,116,101,114]=o then([65,66,67],0,true)else if [109,105,110,117,115]=o then([65,66,67],0,true)
 else if [110,111,116]=o then([],1,true)else if [97,110,100]=o then([],2,true)else if [101,120]=o then([65],1,true)else([],0,false)
def UT(h:List Nat)(k:Nat)(v n:Int):Bool:=if k∈h then decide (0≤v)&&decide (v<n)else decide (v=0)
mutual
def J1 : Cr → Int → Bool
  | .mk o a b g n l, m => (Zw o).2.2 && (decide (((l.length : Nat) : Int) = (Zw o).2.1) && (UT (Zw o).1 78 n 21 && (if o = [101, 120] then decide (a = m) && (decide (m < 6) && (decide (b = 0) && (decide (g = 0) && F0 l (m + 1))))
    else UT (Zw o).1 65 a m && (UT (Zw o).1 66 b m && (UT (Zw o).1 67 g m && F0 l m)))))
def F0 : List Cr → Int → Bool
  | [], _ => true
  | k :: l, m => J1 k m && F0 l m
end
theorem NT{l:List Cr}{m:Int}(h:F0 l m=true){k:Cr}(hk:k∈l):J1 k m=true:=by
 induction l with
 |nil=>cases hk
 |cons x l ih=>
  rw[F0,Bool.and_eq_true]at h;rcases List.mem_cons.1 hk with rfl|hk
  ·exact h.1
  ·exact ih h.2 hk
end
section
open Go Go.RowKit
variable {R:Vl} {a b c n:Int} {k:Cr} {o:List Nat}

structure wM(n0:Nat)(st':St)(A:VL):Prop where
 row: ∀c m l,(c,m,l)∈A→Qw st'.h.get c m l
 own: ∀c m l,(c,m,l)∈A→n0≤c
 nodup:(A.map Prod.fst).Nodup
section
variable {h0:Hp} {n0:Nat} {st st':St} {M L A B:VL}
theorem Mem.Z5(h:Mem h0 n0 [] st M)(q:Qt st st')(s:wM st.n st' A):Mem h0 n0 [] st' (M++(A++[])):=by
 rw[List.append_nil];refine h.qT (q.Lm []) (fun c hc=>by simp at hc) ?_ fun c m l hm=>?_
 ·rw[List.map_append];refine List.nodup_append.2 ⟨h.nodup,s.nodup,fun x hx y hy e=>?_⟩;subst e;obtain⟨⟨c1,m1,l1⟩,h1,rfl⟩:=List.mem_map.1 hx;obtain⟨⟨c2,m2,l2⟩,h2,e⟩:=List.mem_map.1 hy;have e:c2=c1:=e;subst e;have:=h.lt _ _ _ h1;have:=s.own _ _ _ h2;omega
 ·rcases List.mem_append.1 hm with hm|hm
  ·exact .inl ⟨hm,by simp⟩
  ·exact .inr ⟨s.row _ _ _ hm,.inr (s.own _ _ _ hm)⟩
theorem Mem.vq{st0:St}(h:Mem st0.h.get st0.n [] st' M)(hs:A.Sublist M):wM st0.n st' A:=
 ⟨fun c m l hm=>h.row c m l (hs.subset hm),fun c m l hm=>(h.own c m l (hs.subset hm)).resolve_right Qx,h.nodup.sublist (hs.map _)⟩
end
theorem M4{A:VL}{kc:List AV}{x:Nat}(hr:(x,0,kc)∈A)(hk:Uy (Un R A) k kc):Uy (Un R A) (.mk o a b c n [k]) [.str o,.int .i64 a,.int .i64 b,.int .i64 c,.int .i64 n,.sl x 0 0 1 6]:=by
 have h6:=hk.MP;refine .node (kids:=[k]) (.inr hr) Qx (by simp;omega) fun i k' h1=>?_
 match i,h1 with
 |0,h1=>
  injection h1 with h1
  subst h1;rw[show(kc.drop (0+0 *6)).take 6=kc from List.take_of_length_le (by simp;omega)];exact hk
theorem M3{A:VL}{j:Cr}{kc jc:List AV}{x:Nat}(hr:(x,0,kc++jc)∈A)(hk:Uy (Un R A) k kc)(hj:Uy (Un R A) j jc):Uy (Un R A) (.mk o a b c n [k,j]) [.str o,.int .i64 a,.int .i64 b,.int .i64 c,.int .i64 n,.sl x 0 0 2 6]:=by
 have h6:=hk.MP;have h7:=hj.MP;refine .node (kids:=[k,j]) (.inr hr) Qx (by simp;omega) fun i k' h1=>?_
 match i,h1 with
 |0,h1=>
  injection h1 with h1
  subst h1;rw[show((kc++jc).drop (0+0 *6)).take 6=kc by rw[Nat.zero_mul,Nat.zero_add,List.drop_zero,List.take_append_of_le_length Qe,List.take_of_length_le Qe]];exact hk
 |1,h1=>
  injection h1 with h1
  subst h1;rw[show((kc++jc).drop (0+1 *6)).take 6=jc by rw[Nat.one_mul,Nat.zero_add,List.drop_append_of_le_length Qe,List.drop_of_length_le Qe,List.nil_append,List.take_of_length_le Qe]];exact hj
def FC(R:Vl)(st st':St)(k:Cr)(v:AV):Prop:= ∃o a b c n kk A,v=.agg [.str o,.int .i64 a,.int .i64 b,.int .i64 c,.int .i64 n,kk]∧wM st.n st' A∧Uy (Un R A) k [.str o,.int .i64 a,.int .i64 b,.int .i64 c,.int .i64 n,kk]
theorem FC.of{st st':St}{A:VL}{kk:AV}(r:Uy (Un R A) k [.str o,.int .i64 a,.int .i64 b,.int .i64 c,.int .i64 n,kk])(h:wM st.n st' A):FC R st st' k (.agg [.str o,.int .i64 a,.int .i64 b,.int .i64 c,.int .i64 n,kk]):=⟨_,_,_,_,_,_,A,rfl,h,r⟩
end
section
open Go

theorem Qq:tk Tryz.prog 3=.one:=by kernel_rfl
theorem Oz:UH Tryz.prog 3=some 1:=by kernel_rfl
theorem FI:zeroOf Tryz.prog 3=some [.int .i64 0]:=by kernel_rfl
theorem Wz:Tryz.prog.underlying 3=some (.int .i64):=by kernel_rfl
theorem XJ:tk Tryz.prog 4=.one:=by kernel_rfl
theorem El:UH Tryz.prog 4=some 1:=by kernel_rfl
theorem Eh:zeroOf Tryz.prog 4=some [.bool false]:=by kernel_rfl
theorem UX:Tryz.prog.underlying 4=some (.bool):=by kernel_rfl
theorem FM:tk Tryz.prog 9=.one:=by kernel_rfl
theorem FK:Tryz.prog.underlying 9=some (.string):=by kernel_rfl
theorem QS:Tryz.prog.underlying 22=some (.slice 40):=by kernel_rfl
theorem Z4:JK Tryz.prog 22=some 3:=by kernel_rfl
theorem H4:tk Tryz.prog 40=.agg 3:=by kernel_rfl
theorem GO:UH Tryz.prog 40=some 3:=by kernel_rfl
theorem G9:zeroOf Tryz.prog 40=some [.str [],.int .i64 0,.int .i64 0]:=by kernel_rfl
theorem Nb:Q6 Tryz.prog 40 1=some 1:=by kernel_rfl
end
section
open Go

theorem L9:tk Tryz.prog 42=.one:=by kernel_rfl
theorem Ji:Tryz.prog.underlying 42=some (.slice 44):=by kernel_rfl
theorem JV:JK Tryz.prog 42=some 6:=by kernel_rfl
theorem QZ:tk Tryz.prog 44=.agg 6:=by kernel_rfl
theorem Jm:UH Tryz.prog 44=some 6:=by kernel_rfl
theorem U9:zeroOf Tryz.prog 44=some [.str [],.int .i64 0,.int .i64 0,.int .i64 0,.int .i64 0,.nils]:=by kernel_rfl
theorem Ni:Q6 Tryz.prog 44 0=some 0:=by kernel_rfl
theorem Nh:Q6 Tryz.prog 44 1=some 1:=by kernel_rfl
theorem Ng:Q6 Tryz.prog 44 2=some 2:=by kernel_rfl
theorem Nf:Q6 Tryz.prog 44 3=some 3:=by kernel_rfl
theorem Nd:Q6 Tryz.prog 44 4=some 4:=by kernel_rfl
theorem Nc:Q6 Tryz.prog 44 5=some 5:=by kernel_rfl
theorem GW:Py Tryz.prog 44 [(0,1),(1,1),(2,1),(3,1),(4,1),(5,1)] [.str [],.int .i64 0,.int .i64 0,.int .i64 0,.int .i64 0,.nils]:=⟨⟨_,Tryz.underlying44,by kernel_rfl,by kernel_rfl⟩,U9⟩
theorem Ny:tk Tryz.prog 222=.agg 2:=by kernel_rfl
theorem RI:UH Tryz.prog 222=some 2:=by kernel_rfl
theorem YL:zeroOf Tryz.prog 222=some [.int .i64 0,.int .i64 0]:=by kernel_rfl
theorem Jg:tk Tryz.prog 48=.one:=by kernel_rfl
theorem IP:UH Tryz.prog 48=some 1:=by kernel_rfl
theorem YT:zeroOf Tryz.prog 48=some [.nils]:=by kernel_rfl
theorem Js:Tryz.prog.underlying 48=some (.slice 3):=by kernel_rfl
theorem QG:JK Tryz.prog 48=some 1:=by kernel_rfl
theorem UN:AA Tryz.prog 42 44 6:=⟨Ji,by kernel_rfl,⟨_,U9,rfl⟩,by kernel_rfl,by decide,by decide+kernel⟩
theorem QT:AA Tryz.prog 48 3 1:=⟨Js,by kernel_rfl,⟨_,FI,rfl⟩,by kernel_rfl,by decide,by decide+kernel⟩
end
section
open Go Go.RowKit

structure ZQ{K:Type}(h:Hp)(z:Nat)(R:K→List AV→Prop)(l:List K)(kk:AV)(ls:List (List AV)):Prop where
 r:Je h [] z ls kk
 ln:ls.length=l.length
 at_: ∀(i:Nat) (k:K),l[i]? =some k→ ∃cs,ls[i]? =some cs∧R k cs
theorem TW{K:Type}{h:Hp}{z:Nat}{R:K→List AV→Prop}{H:Type}{P:Program}{t e:TypeId}(k0:K)(hu:P.underlying t=some (.slice e))(hz:P.cellsOf e=z)(hR: ∀(cs:List AV) (d:DataW H),Rd P h e cs d→ ∃k,R k cs){xs:List AV}{d:DataW H}(r:Rd P h t xs d):
  ∃ks l ls,xs=[ks]∧ZQ h z R l ks ls:=by
 cases r with
 |bool ht=>rw[hu]at ht;cases ht
 |int ht hw=>rw[hu]at ht;cases ht
 |str ht hs=>rw[hu]at ht;cases ht
 |nil ht=>exact⟨_,[],[],rfl,⟨.nil _ _ _,rfl,fun i k hi=>by simp at hi⟩⟩
 |none ht=>exact⟨_,[],[],rfl,⟨⟨rfl,by simp,rfl,fun i cs hi=>by simp at hi,fun _ _ _ _ _ e=>by cases e⟩,rfl,fun i k hi=>by simp at hi⟩⟩
 |row ht hz' hr hl he hm hd=>
  rename_i e' c m len cells elems rest;rw[hu]at ht
  injection ht with ht
  injection ht with ht
  subst ht;subst hz
  have hk: ∀i,∃k,i<len→R k ((cells.drop (i *P.cellsOf e)).take (P.cellsOf e)):=fun i=>by
   by_cases hi:i<len
   ·obtain⟨k,hk⟩:=hR _ _ (hd i elems[i] (List.getElem?_eq_getElem (he▸hi)));exact⟨k,fun _=>hk⟩
   ·exact⟨k0,fun h=>absurd h hi⟩
  obtain⟨f,hf⟩:=Classical.axiomOfChoice hk
  have hmx:(len:Int)≤9223372036854775807:=by
   have h1:(maxLen:Int)≤9223372036854775807:=by decide
   omega
  have hlen:((List.range len).map fun i=>(cells.drop (i *P.cellsOf e)).take (P.cellsOf e)).length=len:=by simp
  have hfit: ∀i,i<len→i *P.cellsOf e+P.cellsOf e≤cells.length:=fun i hi=>by
   have:=Nat.mul_le_mul_right (P.cellsOf e) (show i+1≤len from hi);rw[Nat.succ_mul]at this;omega
  refine⟨_,(List.range len).map f,(List.range len).map fun i=>(cells.drop (i *P.cellsOf e)).take (P.cellsOf e),rfl,⟨⟨by rw[hlen];rfl,by rw[hlen];exact hmx,rfl,fun i cs hi=>?_,fun c' m' off' n' z' e'=>?_⟩,by simp,fun i k hi=>?_⟩⟩
  ·rw[List.getElem?_map]at hi
   have hlt:i<len:=by
    by_cases hi':i<len
    ·exact hi'
    ·rw[List.getElem?_eq_none (by simp;omega)]at hi;cases hi
   rw[List.getElem?_range hlt]at hi
   injection hi with hi
   refine⟨c,m,0,cells,by rw[hlen],by simp,hr,?_,by rw[Nat.zero_add];exact hi⟩;rw[←hi,List.length_take,List.length_drop];have:=hfit i hlt;omega
  ·injection e' with e1 e2 e3 e4 e5
   subst e1 e2 e3 e4 e5;exact⟨by simp,cells,hr,by omega⟩
  ·rw[List.getElem?_map]at hi
   have hlt:i<len:=by
    by_cases hi':i<len
    ·exact hi'
    ·rw[List.getElem?_eq_none (by simp;omega)]at hi;cases hi
   rw[List.getElem?_range hlt]at hi
   injection hi with hi
   refine⟨_,?_,by rw[←hi];exact hf i hlt⟩;rw[List.getElem?_map,List.getElem?_range hlt];rfl
 |agg ht hl hp hd=>rw[hu]at ht;cases ht
def zC(l:List Int):List (List AV):=l.map fun z=>[AV.int .i64 z]
theorem Q0(l:List Int):(zC l).length=l.length:=by simp[zC]
theorem JA{l:List Int}{i:Nat}{z:Int}(h:l[i]? =some z):(zC l)[i]? =some [AV.int .i64 z]:=by rw[zC,List.getElem?_map,h];rfl
theorem Us(a b:List Int):zC (a++b)=zC a++zC b:=by simp[zC]
theorem Om(l:List Int): ∀cs∈zC l,cs.length=1:=by
 intro cs h;obtain⟨s,_,rfl⟩:=List.mem_map.1 h;rfl
def FE(l:List Int):Prop:= ∀z∈l,-9223372036854775808≤z∧z≤9223372036854775807
def eA(z:Int)(cs:List AV):Prop:=cs=[.int .i64 z]∧ -9223372036854775808≤z∧z≤9223372036854775807
theorem PI{H:Type}{h:Hp}{xs:List AV}{d:DataW H}(r:Rd Tryz.prog h 3 xs d): ∃z:Int,eA z xs:=by
 cases r with
 |bool ht=>rw[Wz]at ht;cases ht
 |int ht hw=>
  rw[Wz]at ht
  injection ht with ht
  injection ht with ht
  subst ht;simp only[Lit.wf,Bool.and_eq_true,decide_eq_true_eq]at hw;refine⟨_,rfl,?_⟩
  first
   |exact hw
   |(have h1:IntKind.i64.wrap _=_:=hw;have:=IntWalk.i64_bounds h1;exact this)
   |skip
 |str ht hs=>rw[Wz]at ht;cases ht
 |nil ht=>rw[Wz]at ht;cases ht
 |none ht=>rw[Wz]at ht;cases ht
 |row ht hz' hr hl he hm hd=>rw[Wz]at ht;cases ht
 |agg ht hl hp hd=>rw[Wz]at ht;cases ht
end
section
open Go

noncomputable section

def BY(l:List (FuncId×TypeId×TypeId))(f:FuncId):Option (TypeId×TypeId):=List.rec none (fun q _ ih=>Ql (Nat.beq f q.1) (some q.2) ih) l
theorem Hh{l:List (FuncId×TypeId×TypeId)}{f:FuncId}{q:TypeId×TypeId}(h:BY l f=some q):(f,q)∈l:=by
 induction l with
 |nil=>cases h
 |cons x l ih=>
  have h:Ql (Nat.beq f x.1) (some x.2) (BY l f)=some q:=h
  cases hb:Nat.beq f x.1 with
  |true=>
   rw[hb]at h
   injection h with h
   subst h;rw[Nat.eq_of_beq_eq_true hb];exact List.mem_cons_self ..
  |false=>rw[hb]at h;exact List.mem_cons_of_mem _ (ih h)
def CA:List (FuncId×TypeId×TypeId):=
 (228,22,40)::
 (232,47,9)::
 (240,230,238)::
 []
theorem Lv: ∀x∈CA,P3 Tryz.prog x.2 x.1:=by
 intro x hx;unfold CA at hx;rcases List.mem_cons.1 hx with rfl|hx
 ·exact⟨3,4,269,0,_,Tryz.func228,rfl,rfl,rfl,by decide+kernel⟩
 rcases List.mem_cons.1 hx with rfl|hx
 ·exact⟨3,4,272,0,_,Tryz.func232,rfl,rfl,rfl,by decide+kernel⟩
 rcases List.mem_cons.1 hx with rfl|hx
 ·exact⟨3,4,276,0,_,Tryz.func240,rfl,rfl,rfl,by decide+kernel⟩
 cases hx
end
theorem mixed:Tryz.prog.follows .mixedOrders=true:=by decide+kernel

end
end Go.Proofs.YtildagdnomiahaaGreatDoor
