/-
  The lexer, the runes' classes, the reference's runes: as rules of the reckoner.
-/
import Derived.Test.YtadjjadimlkkgaaGreatDoorLiSy2
import Derived.Test.YtadjjadimlkkgaaGreatDoorLiLexT
import Derived.Test.YtadjjadimlkkgaaGreatDoorLiRefEach
set_option linter.unusedVariables false
section
namespace Go.Proofs.YtadjjadimlkkgaaGreatDoor
open Go Go.RowKit
set_option maxRecDepth 100000

def Y7.cells(t:Y7):List AV:=[.int .i64 t.kind,.str (Xe t.text),.int .i64 t.num,.int .i64 t.at']
def Fs(x:Nat×Nat):List AV:=[.int .i32 x.1,.int .i64 x.2]
theorem R2(p:Ja)(l:List Y7):Qp p (l.flatMap Y7.cells)=Zl l:=by
 rw[JB,Zl,List.map_flatMap]
 congr 1
 funext t
 simp[Y7.cells,Qd,XM]
theorem DE(p:Ja)(l:List (Nat×Nat)):Qp p (l.flatMap Fs)=runeCells l:=by
 rw[JB,runeCells,List.map_flatMap]
 congr 1
theorem R1(h:Hp)(l:List Y7):Yc h (l.flatMap Y7.cells)∧ ∀a∈l.flatMap Y7.cells,QE a=true:=by
 refine⟨(J9 _ _).2 fun v hv=>?_,fun a ha=>?_⟩
 ·obtain⟨t,_,ht⟩:=List.mem_flatMap.1 hv;simp[Y7.cells]at ht;rcases ht with rfl|rfl|rfl|rfl
  ·trivial
  ·exact Xu _
  ·trivial
  ·trivial
 ·obtain⟨t,_,ht⟩:=List.mem_flatMap.1 ha;simp[Y7.cells]at ht
  rcases ht with rfl|rfl|rfl|rfl<;>rfl
theorem CR(h:Hp)(l:List (Nat×Nat)):Yc h (l.flatMap Fs)∧ ∀a∈l.flatMap Fs,QE a=true:=by
 refine⟨(J9 _ _).2 fun v hv=>?_,fun a ha=>?_⟩
 ·obtain⟨t,_,ht⟩:=List.mem_flatMap.1 hv;simp[Fs]at ht
  rcases ht with rfl|rfl<;>trivial
 ·obtain⟨t,_,ht⟩:=List.mem_flatMap.1 ha;simp[Fs]at ht
  rcases ht with rfl|rfl<;>rfl

noncomputable section
def Aw:List AV→Option (List AV×Nat×List AV):=fun args=>match args with
 |[.str l]=>some ((tokens (bytesOf l)).1.flatMap Y7.cells,(tokens (bytesOf l)).1.length,[.int .i64 (tokens (bytesOf l)).2.1,.int .i64 (tokens (bytesOf l)).2.2])
 |_=>none
def RO:List AV→Option (List AV×Nat×List AV):=fun args=>match args with
 |[.str l]=>Qi (Nat.ble l.length 100000) (some ((each (bytesOf l)).1.flatMap Fs,(each (bytesOf l)).1.length,[.int .i64 (Yx (each (bytesOf l)).2)])) none
 |_=>none
def Bw:List AV→Option AV:=fun args=>match args with
 |[.int .i32 r]=>some (.int .i64 (QK r))
 |_=>none
end
theorem Bo{G:Env}:EG Tryz.prog G 72 (VN 4 Aw):=by
 refine Lh (I:=fun _=>True) (el:=75) ⟨_,Tryz.func72,rfl,by decide⟩ (by decide) (fun _ _ _ _=>trivial) fun h args ls n rest hF hw=>?_;unfold Aw at hF
 split at hF
 ·rename_i l
  injection hF with hF
  injection hF with e1 hF
  injection hF with e2 e3
  subst e1 e2 e3;refine⟨(R1 h _).1,⟨trivial,trivial,trivial⟩,(R1 h _).2,fun p w _=>(Bp (bytesOf l) w).mono fun e w' he=>?_⟩;obtain⟨v,h1,h2,h3,h4⟩:=he;refine⟨v,h1,?_,h3,fun e=>h4 (List.length_eq_zero_iff.1 e)⟩;rw[R2];exact h2
 ·cases hF
theorem Tp{G:Env}(hI:G.i=Hs):EG Tryz.prog G 76 (VN 2 RO):=by
 refine Lh (I:=Hs) (el:=154) ⟨_,Tryz.func76,rfl,by decide⟩ (by decide) (fun w0 w h hb=>by rw[hI]at h;exact h.below hb) fun h args ls n rest hF hw=>?_;unfold RO at hF
 split at hF
 ·rename_i l
  cases hl:Nat.ble l.length 100000 with
  |false=>rw[hl]at hF;cases hF
  |true=>
   rw[hl]at hF;have hl:=Nat.le_of_ble_eq_true hl
   injection hF with hF
   injection hF with e1 hF
   injection hF with e2 e3
   subst e1 e2 e3;refine⟨(CR h _).1,⟨trivial,trivial⟩,(CR h _).2,fun p w hT=>(OR (bytesOf l) w (by rw[Ux];exact hl) hT).mono fun e w' he=>?_⟩;obtain⟨v,h1,h2,h3,h4⟩:=he;refine⟨v,h1,?_,h3,fun e=>h4 (List.length_eq_zero_iff.1 e)⟩;rw[DE];exact h2
 ·cases hF
theorem PR{G:Env}:EG Tryz.prog G 191 (jI Bw):=by
 refine Mw (I:=fun _=>True) ⟨_,Tryz.func191,rfl,by decide⟩ (fun _ _ _ _=>trivial) fun h args v hF hw=>?_;unfold Bw at hF
 split at hF
 ·rename_i r
  injection hF with hF
  subst hF;refine⟨trivial,fun p w _=>(DF r w).mono fun e w' he=>?_⟩;obtain⟨rfl,rfl⟩:=he;exact⟨rfl,Below.refl _ _⟩
 ·cases hF
end Go.Proofs.YtadjjadimlkkgaaGreatDoor
end
section
namespace Go.Proofs.YtadjjadimlkkgaaGreatDoor
open Go

noncomputable section

def Dh(l:List (FuncId×TypeId×TypeId))(f:FuncId):Option (TypeId×TypeId):=List.rec none (fun q _ ih=>Qi (Nat.beq f q.1) (some q.2) ih) l
theorem LK{l:List (FuncId×TypeId×TypeId)}{f:FuncId}{q:TypeId×TypeId}(h:Dh l f=some q):(f,q)∈l:=by
 induction l with
 |nil=>cases h
 |cons x l ih=>
  have h:Qi (Nat.beq f x.1) (some x.2) (Dh l f)=some q:=h
  cases hb:Nat.beq f x.1 with
  |true=>
   rw[hb]at h
   injection h with h
   subst h;rw[Nat.eq_of_beq_eq_true hb];exact List.mem_cons_self ..
  |false=>rw[hb]at h;exact List.mem_cons_of_mem _ (ih h)
def Dw:List (FuncId×TypeId×TypeId):=
 (195,22,102)::
 (210,41,9)::
 (218,190,198)::
 []
theorem GU: ∀x∈Dw,C7 Tryz.prog x.2 x.1:=by
 intro x hx;unfold Dw at hx;rcases List.mem_cons.1 hx with rfl|hx
 ·exact⟨3,4,207,0,_,Tryz.func195,rfl,rfl,rfl,by decide+kernel⟩
 rcases List.mem_cons.1 hx with rfl|hx
 ·exact⟨3,4,216,0,_,Tryz.func210,rfl,rfl,rfl,by decide+kernel⟩
 rcases List.mem_cons.1 hx with rfl|hx
 ·exact⟨3,4,220,0,_,Tryz.func218,rfl,rfl,rfl,by decide+kernel⟩
 cases hx
def ym:Env:=⟨fun _=>false,Dh Dw,fun _=>none,fun _=>True⟩
theorem qd:Hi Tryz.prog ym:=⟨fun f q h=>GU (f,q) (LK h),fun f sm h=>(nomatch h)⟩
end
theorem mixed:Tryz.prog.follows .mixedOrders=true:=by decide+kernel

end Go.Proofs.YtadjjadimlkkgaaGreatDoor
end
