/-
  What is shown of a program is parsed to one that is the same, or it is too long, or too deep: plain law.
-/
import Derived.Test.YthjgndgnmkiaiaaGreatDoorZpSwb
import Derived.Shelf.Strings.BuilderK
set_option maxRecDepth 100000
set_option linter.unusedVariables false
namespace Go.Proofs.YthjgndgnmkiaiaaGreatDoor
section
open Go Go.RowKit

theorem fO{g:Pg}(h:Vd g=true):((tokens (bytesOf (QQ (Xk g)))).2.2=0→XC (ZZ (QQ (Xk g))))∧((Y2 (QQ (Xk g))).2.2=3∨(Y2 (QQ (Xk g))).2.2=4∨((Y2 (QQ (Xk g))).2.2=0∧NP g (Y2 (QQ (Xk g))).1=true)):=by
 by_cases hs:(QQ (Xk g)).length≤2000
 ·have e:=Gz (Nl h) hs
  have ht:(tokens (bytesOf (QQ (Xk g)))).2.2=0:=by rw[Lq (Nl h) hs]
  refine⟨fun _=>by rw[e];exact Bz _ _ _ (Nl h) (show(4:Int)≠2 by decide),?_⟩;rw[Y2,if_neg (by rw[ht];decide)];rcases yZ h e with he|⟨he,hg⟩
  ·rw[if_pos (by rw[he];decide)];exact .inr (.inl he)
  ·rw[if_neg (by rw[he];decide)];exact .inr (.inr ⟨rfl,hg⟩)
 ·have ht:(tokens (bytesOf (QQ (Xk g)))).2.2=3:=by rw[Iu (by rw[JD];omega)]
  refine⟨fun h0=>absurd (ht.symm.trans h0) Qo,.inl ?_⟩;rw[Y2,if_pos (by rw[ht];decide)];exact ht
theorem FI{d:Dc}(h:Ya d=true):(QQ (Jc d)).length≤2010:=by
 obtain⟨h1,k,hk,_,e⟩:=Ko h;have:=Zp h1;rw[Jc,e,Qz,Qz,Qz];simp only[List.length_append,Pc.tx,WB,QQ,List.flatMap_nil,List.length_cons,List.length_nil];omega
theorem Ib: ∀l:List Dc,l.all Ya=true→(QQ (JU l)).length≤2012 *l.length
 |[],_=>Nat.zero_le _
 |d::l,h=>by
  simp only[List.all_cons,Bool.and_eq_true]at h;have h1:=FI h.1;have h2:=Ib l h.2;rw[JU,JR,Qz,Qz];simp only[List.length_append,Pc.tx,List.length_cons,List.length_nil];omega
theorem Pr{C:Nat}: ∀ps:List (List Pc),(∀p∈ps,(QQ p).length≤C)→(QQ (UF ps)).length≤(C+2) *ps.length
 |[],_=>Nat.zero_le _
 |[p],h=>by
  have:=h p Q1;rw[UF,List.length_singleton];omega
 |p::q::ps,h=>by
  have h1:=h p Q1;have h2:=Pr (q::ps) fun x hx=>h x (List.mem_cons_of_mem _ hx);rw[UF,JR,Qz,Qz];simp only[List.length_append,Pc.tx,List.length_cons,List.length_nil]at h2 ⊢;have h3:(C+2) *(ps.length+1+1)=(C+2) *(ps.length+1)+(C+2):=Nat.mul_succ _ _;omega
theorem L7{qs:List Dc}(h:qs.all Ya=true)(h6:qs.length≤6):(QQ (UF (qs.map Jc))).length≤12072:=by
 have:=Pr (C:=2010) (qs.map Jc) fun p hp=>by
  obtain⟨d,hd,rfl⟩:=List.mem_map.1 hp;exact FI (List.all_eq_true.1 h d hd)
 rw[List.length_map]at this;omega
theorem Gb{l:List Dc}{i:Nat}{d:Dc}(h:l[i]? =some d):QQ (JU (l.take (i+1)))=QQ (JU (l.take i))++(QQ (Jc d)++[59,10]):=by
 have e: ∀(a:List Dc) (d:Dc),QQ (JU (a++[d]))=QQ (JU a)++(QQ (Jc d)++[59,10]):=fun a d=>by
  induction a with
  |nil=>
   rw[List.nil_append,show JU [d]=Jc d++[.g [59],.l]from rfl,JR];rfl
  |cons x a ih=>
   rw[List.cons_append,JU,JU,JR,JR,Qz,Qz,Qz,Qz,ih];simp only[List.append_assoc]
 rw[List.take_add_one,h,Option.toList_some,e]
def IE(p:Pd):List Nat:=[112,114,101,100,32]++p.name++[40]++Ze [44,32] (p.params.map fun d=>QQ (Jc d))++[41,32,61,32]++QQ (Q8 p.body)++[59,10]
theorem Bx(p:Pd):QQ (IF p)=IE p:=by
 rw[IF,IE,show(p.params.map fun d=>QQ (Jc d))=(p.params.map Jc).map QQ by rw[List.map_map];rfl,IW _ _ rfl];simp only[Qz,JR,Pc.tx,DC,List.append_assoc,List.cons_append,List.nil_append];simp[QQ]
theorem Oa{l:List Pd}{i:Nat}{p:Pd}(h:l[i]? =some p):QQ (JP (l.take (i+1)))=QQ (JP (l.take i))++IE p:=by
 have e: ∀(a:List Pd) (p:Pd),QQ (JP (a++[p]))=QQ (JP a)++IE p:=fun a p=>by
  induction a with
  |nil=>
   rw[List.nil_append,show JP [p]=IF p++[]from rfl,List.append_nil,Bx];rfl
  |cons x a ih=>
   rw[List.cons_append,JP,JP,JR,JR,ih,List.append_assoc]
 rw[List.take_add_one,h,Option.toList_some,e]
theorem Bu(g:Pg):QQ (Xk g)=QQ (JU g.decls)++QQ (JP g.preds)++QQ (Q8 g.main)++[59,10]:=by
 rw[Xk,JR,JR,JR];simp only[List.append_assoc];rfl
theorem jr{p:Pd}(h:XN p=true)(hz:YT p.body≤1000):(IE p).length≤2060000:=by
 obtain⟨h1,h2,h3,h4⟩:=ID h;have k1:=Zp h1;have k2:=L7 h3 h2;have k3:=UJ h4 hz;rw[←IW [44,32] _ rfl,List.map_map]at k2;rw[IE];simp only[List.length_append,List.length_cons,List.length_nil];have k2:(Ze [44,32] (p.params.map fun d=>QQ (Jc d))).length≤12072:=k2;omega
theorem Hw: ∀l:List Pd,l.all XN=true→(∀p∈l,YT p.body≤1000)→(QQ (JP l)).length≤2060000 *l.length
 |[],_,_=>Nat.zero_le _
 |p::l,h,hz=>by
  simp only[List.all_cons,Bool.and_eq_true]at h;have h1:=jr h.1 (hz p Q1);have h2:=Hw l h.2 fun q hq=>hz q (List.mem_cons_of_mem _ hq);rw[JP,JR,Bx,List.length_append,List.length_cons];omega
end
section
open Go Go.RowKit Go.Shelf
variable {B:Nat} {l:List Nat} {w:World}
attribute [local go_sem] ZM YL

def aj(w:World)(v:Value)(z:Nat)(rows:List (List Value)):Prop:= ∃A cap,v=.slice A rows.length cap∧(0<rows.length→ ∃b o,A=some ⟨b,o,none⟩∧b<w.heap.size∧ ∀i cs,rows[i]? =some cs→ ∀j u,cs[j]? =some u→w.cell? ⟨b,o+i *z+j,none⟩=some u)
theorem Ja.wm{w0:World}{p:Jy}{h:Hp}{z:Nat}{ls:List (List AV)}{ks:AV}(H:HR w0 p h w)(hw:WF h ks)(r:Ja h [] z ls ks):aj w (Qe p ks) z (ls.map (Qn p)):=by
 have hcov:Ci p h:=H.Ed
 cases hls:ls with
 |nil=>
  have hl:=r.len;rw[hls]at hl
  cases ks<;>simp only[VN]at hl<;>first|(cases hl;done)|skip
  ·exact⟨none,0,by simp[Qe],fun h=>absurd h Q1⟩
  ·rename_i c m off len esz;obtain⟨C,e,h1,h2,h3,h4⟩:=hw;obtain⟨x,hx⟩:=hcov c C h1 m (List.getElem?_eq_some_iff.1 h2).1
   injection hl with hl
   exact⟨_,_,by simp only[Qe,hx];rw[hl];rfl,fun h=>absurd h Q1⟩
  ·rename_i c m off a esz;obtain⟨C,h1,h2⟩:=hw;obtain⟨x,hx⟩:=hcov c C h1 m h2;exact⟨_,_,by simp only[Qe,hx];rfl,fun h=>absurd h Q1⟩
  ·exact⟨_,_,by simp only[Qe];rfl,fun h=>absurd h Q1⟩
 |cons l0 lr=>
  have h0:ls[0]? =some l0:=by rw[hls];rfl
  obtain⟨c,m,off,cells,e,_,⟨ro,en,vs,ms,hc,hm⟩,_,_⟩:=r.at_ 0 l0 h0;have hR:VD w0.heap.size p h w c ro ms:=H.cls c _ hc;obtain⟨q,arr,el,g1,⟨fr,g2,_⟩,_,_,_,g6⟩:=hR.mem m en vs (some cells) hm;obtain⟨k1,k2⟩:=g6 cells rfl;rw[←hls];refine⟨some ⟨q.b,q.d+off,none⟩,(q.e-off)/z,by rw[e];simp only[Qe,g1,List.length_map],fun _=>⟨q.b,q.d+off,rfl,(Array.getElem?_eq_some_iff.1 g2).1,fun i cs hi j u hj=>?_⟩⟩;rw[List.getElem?_map]at hi
  cases hli:ls[i]? with
  |none=>rw[hli]at hi;cases hi
  |some av=>
   rw[hli]at hi
   injection hi with hi
   subst hi;obtain⟨c',m',off',cells',e',_,⟨ro',en',vs',ms',hc',hm'⟩,hlen,hpart⟩:=r.at_ i av hli;rw[e]at e'
   injection e' with e1 e2 e3
   subst e1 e2 e3;rw[hc]at hc'
   injection hc' with hc'
   injection hc' with _ hc'
   subst hc';rw[hm]at hm'
   injection hm' with hm'
   injection hm' with _ hm'
   injection hm' with _ hm'
   injection hm' with hm'
   subst hm';rw[JH,List.getElem?_map]at hj
   cases haj:av[j]? with
   |none=>rw[haj]at hj;cases hj
   |some v=>
    rw[haj]at hj
    injection hj with hj
    subst hj
    have hjz:j<z:=by rw[←hlen];exact(List.getElem?_eq_some_iff.1 haj).1
    rw[←hpart,List.getElem?_take_of_lt hjz,List.getElem?_drop]at haj;have h5:=(k2 _ v haj).1;simp only[World.cell?,g2];simp only[Option.isSome_none,Bool.false_eq_true,if_false];rw[←h5,show q.d+off+i *z+j=q.d+(off+i *z+j) by omega]
def kv(d:Dc):List Value:=[.string (bytesOf d.name),.int .i64 d.order,.int .i64 d.at_]
def Ch(w:World)(d:Dc):Prop:= ∀w1,Below w.heap.size w w1→Calls Tryz.prog 17 #[.agg (kv d).toArray] w1 fun e w'=>e=.returned (.string (bytesOf (QQ (Jc d))))∧Below w1.heap.size w1 w'
def qv(w:World)(x:Nd)(vs:Array Value):Prop:= ∀w1,Below w.heap.size w w1→Calls Tryz.prog 19 #[.agg vs] w1 fun e w'=>e=.returned (.string (bytesOf (QQ (Q8 x))))∧Below w1.heap.size w1 w'
def vI(w:World)(p:Pd)(vs:List Value):Prop:= ∃kp o s n a A l c,vs=[.string (bytesOf p.name),kp,.string o,.string s,.int .i64 n,.int .i64 a,.slice A l c,.int .i64 p.at_]∧aj w kp 3 (p.params.map kv)∧qv w p.body #[.string o,.string s,.int .i64 n,.int .i64 a,.slice A l c]
def uF(w:World)(B:Nat)(l:List Nat):Prop:=Lib.IsBuilderF 53 5 B B (Lib.strCells (bytesOf l)) w
theorem Ma{s:List Nat}(h:uF w B l)(hl:l.length+s.length≤100000000)(hB:B≤w.heap.size):Calls Tryz.prog 16 #[.pointer (some ⟨B,0,none⟩),.string (bytesOf s)] w fun e w'=>e=.returned (.tuple #[.int .i64 s.length,.nilIface])∧uF w' B (l++s)∧Below B w w'∧Lib.OthersKept 5 (some B) w w':=by
 refine(Any.Builder_WriteString_k xc EE B B _ (bytesOf s) w h (by rw[Lib.strCells_length,JD,JD];omega) hB).mono fun e w' he=>?_;obtain⟨rfl,h1,h2,h3⟩:=he;refine⟨by rw[JD],.inr ?_,h2,h3⟩
 have e:Lib.strCells (bytesOf (l++s))=Lib.strCells (bytesOf l)++Lib.strCells (bytesOf s):=by
  rw[Lib.strCells_eq,Lib.strCells_eq,Lib.strCells_eq,←Lib.byteCells_append];unfold bytesOf;simp
 rw[e];exact h1
theorem uF.kept{w':World}(h:uF w B l)(hb:Below w.heap.size w w'):uF w' B l:=by
 have hs: ∀{p:Value},Lib.BuilderAtF 53 5 B B p (Lib.strCells (bytesOf l)) w→Lib.BuilderAtF 53 5 B B p (Lib.strCells (bytesOf l)) w':=fun h=>by
  have hlt:=h.lt;obtain⟨hB,v,hbk,hown,hne⟩:=h;refine⟨hB,v,(hb.block B hlt).trans hbk,⟨hown.1,?_⟩,hne⟩;rcases hown.2 with h|⟨g,cap,cur,fz,rfl,h1,h2,h3⟩
  ·exact .inl h
  ·exact .inr ⟨g,cap,cur,fz,rfl,h1,(hb.block g (Array.getElem?_eq_some_iff.1 h2).1).trans h2,h3⟩
 exact h.imp hs hs
theorem yl(h:uF w B l)(hB:B≤w.heap.size):Calls Tryz.prog 20 #[.pointer (some ⟨B,0,none⟩)] w fun e w'=>e=.returned (.string (bytesOf l))∧Below B w w':=by
 unfold uF at h;rw[Lib.strCells_eq]at h;refine(Any.Builder_String_any_k xb EE B B _ w h hB).mono fun e w' he=>?_;obtain⟨rfl,_,h2,_⟩:=he;exact⟨rfl,h2⟩
end
end Go.Proofs.YthjgndgnmkiaiaaGreatDoor
