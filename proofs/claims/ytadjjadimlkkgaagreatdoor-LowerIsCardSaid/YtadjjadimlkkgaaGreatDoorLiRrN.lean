/-
  The reader of 'sibylref2': 'Tokens', 'IsName'; the program's 'isName'.
-/
import Derived.Test.YtadjjadimlkkgaaGreatDoorLiAu
set_option linter.unusedSimpArgs false
set_option linter.unusedVariables false
section
namespace Go.Proofs.YtadjjadimlkkgaaGreatDoor
open Go Go.RowKit
set_option maxHeartbeats 8000000
set_option maxRecDepth 100000

theorem D4{st:St}(hf:Qx st)(l:List Nat)(hb:(tokens (bytesOf l)).1.length≤1000000): ∃v st',Ev Tryz.prog QT 72 [.str l] st v st'∧ ∃ks,v=.tup [ks,.int .i64 (tokens (bytesOf l)).2.1,.int .i64 (tokens (bytesOf l)).2.2]∧Mc st st' 4 ks ((tokens (bytesOf l)).1.map Y7.cells)∧Qt st st':=by
 obtain⟨ks,st',h1,h2,h3⟩:=PD (P:=Tryz.prog) (G:=QT) (f:=72) (F:=Aw) (z:=4) (ls:=(tokens (bytesOf l)).1.map Y7.cells) (rest:=[.int .i64 (tokens (bytesOf l)).2.1,.int .i64 (tokens (bytesOf l)).2.2]) rfl hf (args:=[.str l]) (fun cs hc=>by
  obtain⟨x,_,rfl⟩:=List.mem_map.1 hc;rfl) (by simpa using hb) (by
  unfold Aw;simp only[List.length_map]
  rfl)
 exact⟨_,st',h1,ks,rfl,h2,h3⟩
theorem S9(s:ByteArray)(fin:Nat): ∀(f:Nat) (r:List (Nat×Nat)) (l:List Y7),(WL s fin f r).1=some l→l.length≤r.length:=by
 intro f
 induction f with
 |zero=>intro r l h;injection h with h;subst h;simp
 |succ f ih=>
  intro r l h
  cases r with
  |nil=>injection h with h;subst h;simp
  |cons x r=>
   rw[WL]at h
   split at h
   ·rename_i hok;have hp:=O7 s fin (x::r) hok;simp only at h
    cases hx:(WL s fin f (((x::r).drop (Vc s fin (x::r)).len).drop (J2 false ((x::r).drop (Vc s fin (x::r)).len)))).1 with
    |none=>rw[hx]at h;cases h
    |some l'=>
     rw[hx]at h
     injection h with h
     subst h;have:=ih _ _ hx;simp only[List.length_drop,List.length_cons]at this ⊢;omega
   ·cases h
theorem Bq(s:ByteArray):(tokens s).1.length≤2001:=by
 unfold tokens
 split
 ·simp
 ·rename_i hs;have hlen:=LN s s.size 0;have hlen:(each s).1.length≤s.size:=hlen
  split
  ·simp
  ·rename_i l x h
   split
   ·simp
   ·have:=S9 _ _ _ _ l (by rw[h]);simp only[List.length_drop,List.length_append,List.length_cons,List.length_nil]at this ⊢;omega
end Go.Proofs.YtadjjadimlkkgaaGreatDoor
end
section
namespace Go.Proofs.YtadjjadimlkkgaaGreatDoor
open Go Go.RowKit
set_option maxHeartbeats 8000000
set_option maxRecDepth 100000

def ZT(l:List Nat):Bool:=decide ((tokens (bytesOf l)).2.2=0)&&(decide ((((tokens (bytesOf l)).1.length:Nat):Int)=2)&&(match(tokens (bytesOf l)).1[0]? with
 |some t=>decide (t.kind=1)&&decide (Xe t.text=l)
 |none=>false))

theorem X0{st:St}(hf:Qx st)(l:List Nat): ∃v st',Ev Tryz.prog QT 143 [.str l] st v st'∧v=.bool (ZT l)∧Qt st st':=by
 have htl:=Bq (bytesOf l)
 have hml:((tokens (bytesOf l)).1.map Y7.cells).length=(tokens (bytesOf l)).1.length:=by simp
 refine Q6 rfl Tryz.func143 rfl Tryz.ntmps143 rfl fun T hT=>?_;have K:Jf [(0,_)] T:=(.cons (hT 0) .nil);have M:=Mem.start hf;refine Qg 2 K M ?_;intro _ K;obtain⟨v8,st8,ev8,ks8,rfl,nr8,q8⟩:=D4 M.fresh l (by omega);refine o1 K (Ql rfl ev8) rfl fun _ K=>?_;obtain⟨A8,hA8,M⟩:=M.Oi q8 nr8;refine Qg 9 K M ?_;intro _ K;refine oB K (Qc rfl) rfl fun b14 _ e14 K=>?_;cases b14
 ·replace e14:=of_decide_eq_false e14;refine Qg 20 K M ?_;intro _ K;refine Qf ⟨.inr rfl,_,J4 K rfl,?_⟩;refine⟨?_,M.qt⟩
  simp_all [ZT,Qi]
 ·replace e14:=of_decide_eq_true e14;refine og K rfl rfl (Qc rfl) rfl fun _ K=>og K rfl rfl (QF HY rfl rfl hA8.len) rfl fun _ K=>?_;refine Qg 2 K M ?_;intro _ K;refine oB K (Qc rfl) rfl fun b19 _ e19 K=>?_;cases b19
  ·replace e19:=of_decide_eq_false e19;refine Qg 15 K M ?_;intro _ K;refine Qf ⟨.inr rfl,_,J4 K rfl,?_⟩;refine⟨?_,M.qt⟩
   simp_all [ZT,Qi]
  ·replace e19:=of_decide_eq_true e19;refine og K rfl rfl (Qc rfl) rfl fun _ K=>?_;obtain⟨t21,ht21⟩: ∃t,(tokens (bytesOf l)).1[0]? =some t:=⟨_,List.getElem?_eq_getElem (by omega)⟩;obtain⟨x21,m21,f21,q21,_,la21,lo21,lp21⟩:=(Mem.KT (L:=[]) (A:=A8) (B:=[]) M hA8).load (i:=0) (cs:=_) (by rw[List.getElem?_map,ht21];rfl);refine og K rfl rfl (Qe (j:=0) WU (congrArg some q21) rfl (by rw[List.length_map];omega)) rfl fun _ K=>?_;refine Qg 1 K M ?_;intro _ K;refine og K rfl rfl (Qr rfl (lo21 _ 0 _ JP rfl)) rfl fun _ K=>?_;refine Qg 2 K M ?_;intro _ K;refine oB K (Qc rfl) rfl fun b26 _ e26 K=>?_;cases b26
   ·replace e26:=of_decide_eq_false e26;refine Qg 8 K M ?_;intro _ K;refine Qf ⟨.inr rfl,_,J4 K rfl,?_⟩;refine⟨?_,M.qt⟩
    simp_all [ZT,Qi]
   ·replace e26:=of_decide_eq_true e26;refine og K rfl rfl (Qc rfl) rfl fun _ K=>?_;obtain⟨t28,ht28⟩: ∃t,(tokens (bytesOf l)).1[0]? =some t:=⟨_,List.getElem?_eq_getElem (by omega)⟩;obtain⟨x28,m28,f28,q28,_,la28,lo28,lp28⟩:=(Mem.KT (L:=[]) (A:=A8) (B:=[]) M hA8).load (i:=0) (cs:=_) (by rw[List.getElem?_map,ht28];rfl);refine og K rfl rfl (Qe (j:=0) WU (congrArg some q28) rfl (by rw[List.length_map];omega)) rfl fun _ K=>?_;refine Qg 1 K M ?_;intro _ K;refine og K rfl rfl (Qr rfl (lo28 _ 1 _ QY rfl)) rfl fun _ K=>?_;refine Qg 4 K M ?_;intro _ K;refine Qf ⟨.inr rfl,_,J4 K rfl,?_⟩;refine⟨?_,M.qt⟩
    simp_all [ZT,Qi]
end Go.Proofs.YtadjjadimlkkgaaGreatDoor
end
