/-
  Small laws on worlds, rows of cells and endings: of no program.
-/
import Derived.WalkKit
import Derived.Outline
import Derived.LoopTactic
import Derived.Deep.DeepCutAuto
import Derived.Lib.Hide
import Derived.WalkSpells
import Derived.Below
import Derived.OwnWalk
import Derived.Lib.OthersKept
import Derived.Deep.LoopGhost
import Derived.WalkSmall
import Derived.Deep.QuietTactic
import Derived.BigQuiet
import Derived.StillTailTactics
import Derived.Lib.DecodeN
import Derived.Laws.RangeAny
namespace Go.Proofs.YthjgndgnmkiaiaaGreatDoor
section
open Go Go.RowKit
set_option linter.unusedVariables false
theorem Qk{p:Prop}(h:p:=by omega):p:=h
theorem Qo{p:Prop}(h:p:=by decide):p:=h
theorem Q1{p:Prop}(h:p:=by simp):p:=h
theorem nwy{p:Prop}(h:False:=by first|omega|(simp_all;done)|(simp_all;omega)):p:=h.elim
theorem FL{p:Prop}(h:p:=by first|(simp only[List.append_assoc,List.cons_append,List.nil_append,List.append_nil,List.set_cons_zero,List.set_cons_succ];done)|(simp only[List.append_assoc,List.cons_append,List.nil_append,List.append_nil,List.set_cons_zero,List.set_cons_succ];rfl)):p:=h
theorem oJ:(∀{α:Type} (a b c:List α),a++b++c=a++(b++c))∧(∀{α:Type} (a:α) (b c:List α),a::b++c=a::(b++c))∧(∀{α:Type} (a:List α),[]++a=a)∧(∀{α:Type} (a b:α) (l:List α),(a::l).set 0 b=b::l)∧(∀{α:Type} (a b:α) (l:List α) (n:Nat),(a::l).set (n+1) b=a::l.set n b):=⟨fun a b c=>List.append_assoc a b c,fun _ _ _=>rfl,fun _=>rfl,fun _ _ _=>rfl,fun _ _ _ _=>rfl⟩
theorem gEt{α:Type}(l:List α)(i:Nat)(h:i<l.length): ∃x,l[i]? =some x:=⟨_,List.getElem?_eq_getElem h⟩
variable {B g:Nat} {P:Program} {a b c:World}

theorem Ep{a b:Bool}(h:a=b):Ending.returned (.bool a)=.returned (.bool b):=by rw[h]
theorem EW{k:IntKind}{a b:Int}(h:a=b):Ending.returned (.int k a)=.returned (.int k b):=by rw[h]

theorem ji{f:FuncId}{args:Array Value}{w:World}{a n:Nat}{v:Value}
  (h:Calls P f args (w.drewN (a+n)) fun e w'=>e=.returned v∧ ∃m,w'=(w.drewN (a+n)).drewN m):
  Calls P f args (w.drewN (a+n)) fun e w''=>e=.returned v∧ ∃m,w''=w.drewN (a+m):=
 h.mono fun _ _ ⟨he,m,hm⟩=>⟨he,n+m,by rw[hm,World.drewN_drewN,Nat.add_assoc]⟩
theorem EX{f:FuncId}{args:Array Value}{w:World}{v:Value}
  (h:Calls P f args w fun e w'=>e=.returned v∧w=w'):Calls P f args w fun e w'=>e=.returned v∧ ∃m,w'=w.drewN m:=
 h.mono fun _ _ ⟨he,hm⟩=>⟨he,0,hm.symm⟩
theorem ZM(w:World)(n:Nat)(o:Obj):(w.drewN n).alloc o=(w.alloc o).drewN n:=rfl
theorem YL(w:World)(n:Nat)(a:Addr)(v:Value):(w.drewN n).setCell a v=(w.setCell a v).drewN n:=rfl
theorem N3{id:Nat}{Q:Exit→Act→World→Prop}{a:Act}{w:World}{l:List Oper}(n:Nat)(hm:P.follows .mixedOrders=true)(hB:Region.lexTailB .any l.toArray n=true)
  (h:wpStill P l.toArray w.drew (fun a'=>wpList P l.toArray Q (l.drop n) a' w.drew) (l.take n) a):(Code.region id l.toArray true).wp P Q a w:=
 wp_region_still_tail n hm hB h
theorem Yp(b o j:Nat):(⟨b,o,none⟩:Addr).add j=⟨b,o+j,none⟩:=by
 unfold Addr.add;split<;>simp_all

theorem Yf(w:World)(o:Obj){k:Nat}(h:k<w.heap.size):(w.alloc o).heap[k]? =w.heap[k]? :=Below.heap_alloc w o k h
theorem We(w:World)(cs:Array Value)(t:TypeId)(l:List Value)(hl:cs.toList=l):
  ∀j u,l[j]? =some u→(w.alloc (.cells cs t)).cell? ((⟨w.heap.size,0,none⟩:Addr).add j)=some u:=by
 intro j u hu;subst hl;rw[Yp,cell_of_row (w.alloc (.cells cs t)) w.heap.size (0+j) cs t (0,0) (heap_alloc_new w _)]
 simpa using hu

theorem RT{w:World}(h:Below B a w):Below B a w.drew:=h.trans ⟨rfl,rfl,rfl,Nat.le_refl _,fun _ _=>rfl⟩

theorem Ws{row:Option Nat}(h:a.grownBy b row)(k:b.grownBy c row):a.grownBy c row:=
 ⟨k.os.trans h.os,k.tape.trans h.tape,k.output.trans h.output,Nat.le_trans h.size k.size,fun i hi hne=>(k.block i (Nat.lt_of_lt_of_le hi h.size) hne).trans (h.block i hi hne)⟩
theorem JC{w:World}{row:Option Nat}(h:a.grownBy w row)(n:Nat):a.grownBy (w.drewN n) row:=⟨h.os,h.tape,h.output,h.size,h.block⟩
theorem Kc{row:Option Nat}(h:a.grownBy b row)(k:Below b.heap.size b c):a.grownBy c row:=
 ⟨k.os.trans h.os,k.tape.trans h.tape,k.output.trans h.output,Nat.le_trans h.size k.size,fun i hi hne=>(k.block i (Nat.lt_of_lt_of_le hi h.size)).trans (h.block i hi hne)⟩
theorem YW{w:World}{row:Option Nat}(h:a.grownBy w row)(o:Obj):a.grownBy (w.alloc o) row:=
 Kc h ((Below.refl _ _).alloc (Nat.le_refl _) _)
theorem ZI{w:World}(h:a.grownBy w (some g))(o:Nat)(u:Value):a.grownBy (w.setCell ⟨g,o,none⟩ u) (some g):=
 Ws h ⟨rfl,rfl,rfl,by simp[World.setCell],fun i hi hne=>Below.heap_setCell w ⟨g,o,none⟩ u i (by rintro rfl;exact hne rfl)⟩
theorem UI{w:World}{row:Option Nat}(h:a.grownBy w row){p:Addr}(hp:a.heap.size≤p.block)(u:Value):a.grownBy (w.setCell p u) row:=
 ⟨h.os,h.tape,h.output,by simpa [World.setCell]using h.size,fun i hi hne=>(Below.heap_setCell w p u i (by rintro rfl;omega)).trans (h.block i hi hne)⟩
theorem Ku(h:Below B a b)(k:b.grownBy c (some g))(hg:B≤g)(hs:B≤b.heap.size):Below B a c:=
 h.trans ⟨k.os,k.tape,k.output,k.size,fun i hi=>k.block i Qk (by intro e;cases e;omega)⟩
theorem Wi{w:World}{b:Nat}{t:TypeId}{c0 c1 c2 c3:Value}(h:w.heap[b]? =some (.cells #[c0,c1,c2,c3] t (0,0)))(x0 x1 x2 x3:Value):
  ((((w.setCell ⟨b,0,none⟩ x0).setCell ⟨b,1,none⟩ x1).setCell ⟨b,2,none⟩ x2).setCell ⟨b,3,none⟩ x3).cell? ⟨b,0,none⟩=some x0∧
  ((((w.setCell ⟨b,0,none⟩ x0).setCell ⟨b,1,none⟩ x1).setCell ⟨b,2,none⟩ x2).setCell ⟨b,3,none⟩ x3).cell? ⟨b,1,none⟩=some x1∧
  ((((w.setCell ⟨b,0,none⟩ x0).setCell ⟨b,1,none⟩ x1).setCell ⟨b,2,none⟩ x2).setCell ⟨b,3,none⟩ x3).cell? ⟨b,2,none⟩=some x2∧
  ((((w.setCell ⟨b,0,none⟩ x0).setCell ⟨b,1,none⟩ x1).setCell ⟨b,2,none⟩ x2).setCell ⟨b,3,none⟩ x3).cell? ⟨b,3,none⟩=some x3:=by
 have hF:((((w.setCell ⟨b,0,none⟩ x0).setCell ⟨b,1,none⟩ x1).setCell ⟨b,2,none⟩ x2).setCell ⟨b,3,none⟩ x3).heap[b]? =some (.cells #[x0,x1,x2,x3] t (0,0)):=by
  simp[World.setCell,Array.getElem?_modify,h]
 exact⟨cell_of_row _ b 0 _ _ _ hF,cell_of_row _ b 1 _ _ _ hF,cell_of_row _ b 2 _ _ _ hF,cell_of_row _ b 3 _ _ _ hF⟩
theorem Dg{w:World}{row:Option Nat}{b:Nat}(h:a.grownBy w row)(hb:a.heap.size≤b)(x0 x1 x2 x3:Value):
  a.grownBy ((((w.setCell ⟨b,0,none⟩ x0).setCell ⟨b,1,none⟩ x1).setCell ⟨b,2,none⟩ x2).setCell ⟨b,3,none⟩ x3) row:=
 UI (UI (UI (UI h (p:=⟨b,0,none⟩) hb x0) (p:=⟨b,1,none⟩) hb x1) (p:=⟨b,2,none⟩) hb x2) (p:=⟨b,3,none⟩) hb x3
theorem E2{w:World}{b:Nat}(h:g≠b)(x0 x1 x2 x3:Value):
  ((((w.setCell ⟨b,0,none⟩ x0).setCell ⟨b,1,none⟩ x1).setCell ⟨b,2,none⟩ x2).setCell ⟨b,3,none⟩ x3).heap[g]? =w.heap[g]? :=by
 rw[Below.heap_setCell _ _ _ _ h,Below.heap_setCell _ _ _ _ h,Below.heap_setCell _ _ _ _ h,Below.heap_setCell _ _ _ _ h]
theorem YV{w:World}{t:TypeId}{cs:Array Value}(h:w.heap[g]? =some (.cells cs t (0,0)))(i:Nat)(u:Value):
  (w.setCell ⟨g,i,none⟩ u).heap[g]? =some (.cells (cs.setIfInBounds i u) t (0,0)):=by
 simp[World.setCell,Array.getElem?_modify,h]

section
variable {w w':World} {base base':Nat} {e:TypeId} {size:Nat} {v:Value} {n:Nat} {xs:List Value}
theorem H3(h:w.ownsRow base e size v n xs)(hb:base'≤base):w.ownsRow base' e size v n xs:=by
 refine⟨h.1,?_⟩;rcases h.2 with h|⟨g,cap,cur,a,b,r⟩
 ·exact .inl h
 ·exact .inr ⟨g,cap,cur,a,by omega,r⟩
theorem Oi(h:w.ownsRow base e size v n xs)(hg:v.ownBlock=some g):base≤g∧g<w.heap.size:=by
 rcases h.2 with⟨rfl,_⟩|⟨g',cap,cur,rfl,hb,hh,_⟩
 ·simp[Value.ownBlock]at hg
 ·simp[Value.ownBlock]at hg;subst hg;exact⟨hb,(Array.getElem?_eq_some_iff.1 hh).1⟩
theorem ju(h:w.ownsRow base e size v n xs)(hb:Below B w w')(hB: ∀g,v.ownBlock=some g→g<B):w'.ownsRow base e size v n xs:=by
 refine⟨h.1,?_⟩;rcases h.2 with h|⟨g,cap,cur,rfl,b,hh,r⟩
 ·exact .inl h
 ·exact .inr ⟨g,cap,cur,rfl,b,(hb.block g (hB g rfl)).trans hh,r⟩
theorem XO(h:w.ownsRow base e size v n xs)(hb:Below w.heap.size w w'):w'.ownsRow base e size v n xs:=
 ju h hb fun _ hg=>(Oi h hg).2
theorem Li{w0:World}(hb:Below B w0 w)(h:w.ownsRow base e size v n xs)(hg:w.grownBy w' v.ownBlock)(hB:B≤base)(hs:B≤w.heap.size):Below B w0 w':=
 hb.trans ⟨hg.os,hg.tape,hg.output,hg.size,fun k hk=>hg.block k Qk (by
  intro hk2;have:=(Oi h hk2.symm).1
  omega)⟩
theorem LB(h:w.ownsRow base e size v n xs)(hg:w.grownBy w' v.ownBlock){k:Nat}(hk:k<base)(hs:k<w.heap.size):w'.heap[k]? =w.heap[k]? :=
 hg.block k hs (by
  intro hk2;have:=(Oi h hk2.symm).1
  omega)
theorem KQ(h:w.ownsRow base e size v n xs):
  ∃A cap,v=.slice A n cap∧n≤cap∧cap≤maxLen∧(0<n→ ∃g,A=some ⟨g,0,none⟩∧base≤g∧g<w.heap.size∧ ∀j,j<n *size→w.cell? ⟨g,j,none⟩=xs[j]?):=by
 have h':=h;rcases h.2 with⟨rfl,rfl⟩|⟨g,cap,cur,rfl,hb,hh,hn,hm,_⟩
 ·exact⟨none,0,rfl,Nat.le_refl _,by unfold maxLen;omega,fun h=>absurd h Qk⟩
 ·exact⟨_,cap,rfl,hn,hm,fun _=>⟨g,rfl,hb,(Array.getElem?_eq_some_iff.1 hh).1,fun j hj=>h'.cellAt j hj⟩⟩
end

end
section
open Go

def Ec(s p:ByteArray):Bool:=List.isPrefixOf p.data.toList s.data.toList
def ZU(s:ByteArray)(pos:Nat):Bool:=Ec (s.extract pos s.size) ⟨#[239,191,189]⟩

theorem Dd(s:ByteArray)(i:Nat):(s.get! i).toNat<256:=(s.get! i).toNat_lt

theorem Zx(s:ByteArray)(pos:Nat)(h:pos<s.size):1≤(Utf8.decode s pos).2∧pos+(Utf8.decode s pos).2≤s.size:=by
 simp only[Utf8.decode]
 repeat' split
 all_goals simp_all
 all_goals try omega

theorem get_eq(s:ByteArray)(i:Nat)(h:i<s.size):s.get! i=s.data.toList[i]'(by simpa using h):=by
 simp[ByteArray.get!,getElem!_pos,h]

theorem KH(u:UInt8)(n:Nat)(hn:n<256):u=UInt8.ofNat n↔u.toNat=n:=by
 constructor
 ·rintro rfl
  simp;omega
 ·rintro rfl
  simp

theorem GM(s:ByteArray)(pos:Nat)(h:pos<s.size):ZU s pos=true↔pos+3≤s.size∧(s.get! pos).toNat=239∧(s.get! (pos+1)).toNat=191∧(s.get! (pos+2)).toNat=189:=by
 unfold ZU Ec
 have hl:(s.extract pos s.size).data.toList=s.data.toList.drop pos:=by
  rw[ByteArray.data_extract,Array.toList_extract];simp only[List.extract];exact List.take_of_length_le Q1
 show List.isPrefixOf [239,191,189] _=true↔_;rw[hl,List.isPrefixOf_iff_prefix,List.prefix_iff_eq_take]
 have hs:s.data.toList.length=s.size:=by simp
 by_cases h3:pos+3≤s.size
 ·rw[List.drop_eq_getElem_cons Qk,List.drop_eq_getElem_cons Qk,List.drop_eq_getElem_cons Qk];rw[get_eq s pos Qk,get_eq s (pos+1) Qk,get_eq s (pos+2) Qk];have e0:=KH (s.data.toList[pos]'Qk) 239 Qk;have e1:=KH (s.data.toList[pos+1]'Qk) 191 Qk;have e2:=KH (s.data.toList[pos+2]'Qk) 189 Qk;rw[←e0,←e1,←e2];simp only[List.length_cons,List.length_nil,List.take_succ_cons,List.take_zero,List.cons.injEq,and_true,h3,true_and];constructor
  ·rintro⟨a,b,c⟩;exact⟨a.symm,b.symm,c.symm⟩
  ·rintro⟨a,b,c⟩;exact⟨a.symm,b.symm,c.symm⟩
 ·constructor
  ·intro he;have:=congrArg List.length he;simp at this;omega
  ·intro he;omega

theorem eQ(s:ByteArray)(pos:Nat)(h:pos<s.size)(he:(Utf8.decode s pos).1=65533):
  ((Utf8.decode s pos).2=1∧ZU s pos=false)∨((Utf8.decode s pos).2=3∧ZU s pos=true):=by
 have h0:=Dd s pos;have h1:=Dd s (pos+1);have h2:=Dd s (pos+2);have h3:=Dd s (pos+3);have hp:=GM s pos h;rw[Lib.decode_at]at he ⊢
 generalize (s.get! pos).toNat=b0 at *
 generalize (s.get! (pos+1)).toNat=b1 at *
 generalize (s.get! (pos+2)).toNat=b2 at *
 generalize (s.get! (pos+3)).toNat=b3 at *
 have hf: ¬(pos+3≤s.size∧b0=239∧b1=191∧b2=189)→ZU s pos=false:=by
  intro hn;rw[←hp]at hn
  simpa using hn
 have ht:(pos+3≤s.size∧b0=239∧b1=191∧b2=189)→ZU s pos=true:=hp.2;clear hp;unfold Lib.decodeN at he ⊢
 split at he
 ·simp at he;omega
 ·rename_i c0;rw[if_neg c0]
  split at he
  ·rename_i c1;rw[if_pos c1]
   split at he
   ·simp at he;omega
   ·rename_i c2;rw[if_neg c2];exact .inl ⟨rfl,hf Qk⟩
  ·rename_i c1;rw[if_neg c1]
   split at he
   ·rename_i c2;rw[if_pos c2]
    split at he
    ·rename_i c3;rw[if_pos c3];simp at he;exact .inr ⟨rfl,ht Qk⟩
    ·rename_i c3;rw[if_neg c3];exact .inl ⟨rfl,hf Qk⟩
   ·rename_i c2;rw[if_neg c2]
    split at he
    ·rename_i c3;rw[if_pos c3]
     split at he
     ·simp at he;omega
     ·rename_i c4;rw[if_neg c4];exact .inl ⟨rfl,hf Qk⟩
    ·rename_i c3;rw[if_neg c3];exact .inl ⟨rfl,hf Qk⟩

theorem wR(s:ByteArray)(pos:Nat)(h:pos<s.size):
  (decide ((Utf8.decode s pos).1=65533)&& !(ZU s pos))=decide ((Utf8.decode s pos).1=65533∧(Utf8.decode s pos).2=1):=by
 by_cases he:(Utf8.decode s pos).1=65533
 ·rcases eQ s pos h he with⟨h1,h2⟩|⟨h1,h2⟩
  ·simp[he,h1,h2]
  ·simp[he,h1,h2]
 ·simp[he]

def JA(s:ByteArray):Nat→Nat→List (Nat×Nat)×Option Nat
 |0,_=>([],none)
 |f+1,p=>
  if p<s.size then
   if(Utf8.decode s p).1=65533∧(Utf8.decode s p).2=1 then([],some p)
   else(((Utf8.decode s p).1,p)::(JA s f (p+(Utf8.decode s p).2)).1,(JA s f (p+(Utf8.decode s p).2)).2)
  else([],none)
def each(s:ByteArray):List (Nat×Nat)×Option Nat:=JA s s.size 0
def Jx:Option Nat→Int
 |none=> -1
 |some p=>p
def runeCells(l:List (Nat×Nat)):List Value:=l.flatMap fun x=>[.int .i32 x.1,.int .i64 x.2]

theorem UK(s:ByteArray)(f p:Nat)(h: ¬p<s.size):JA s f p=([],none):=by
 cases f<;>simp[JA,h]
theorem Zl(s:ByteArray)(f p:Nat)(h:p<s.size)(ho:(Utf8.decode s p).1=65533∧(Utf8.decode s p).2=1):JA s (f+1) p=([],some p):=by
 rw[JA,if_pos h,if_pos ho]
theorem Ux(s:ByteArray)(f p:Nat)(h:p<s.size)(ho: ¬((Utf8.decode s p).1=65533∧(Utf8.decode s p).2=1)):
  JA s (f+1) p=(((Utf8.decode s p).1,p)::(JA s f (p+(Utf8.decode s p).2)).1,(JA s f (p+(Utf8.decode s p).2)).2):=by
 rw[JA,if_pos h,if_neg ho]
theorem AI(l:List (Nat×Nat))(c p:Nat):runeCells l++[.int .i32 c,.int .i64 p]=runeCells (l++[(c,p)]):=by
 simp[runeCells]
end
end Go.Proofs.YthjgndgnmkiaiaaGreatDoor
