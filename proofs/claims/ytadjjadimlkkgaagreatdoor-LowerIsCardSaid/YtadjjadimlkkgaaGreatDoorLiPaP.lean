/-
  Programs that a call is handed, by rows; names are of bytes.
-/
import Derived.Test.YtadjjadimlkkgaaGreatDoorLiRdG
import Derived.Test.YtadjjadimlkkgaaGreatDoorLiTree
set_option linter.unusedVariables false
section
namespace Go.Proofs.YtadjjadimlkkgaaGreatDoor
open Go Go.RowKit
set_option maxRecDepth 100000

structure Z8{K:Type}(h:Hp)(z:Nat)(R:K→List AV→Prop)(l:List K)(kk:AV)(ls:List (List AV)):Prop where
 r:VK h [] z ls kk
 ln:ls.length=l.length
 at_: ∀(i:Nat) (k:K),l[i]? =some k→ ∃cs,ls[i]? =some cs∧R k cs
section
variable {K:Type} {h h':Hp} {z:Nat} {R R':K→List AV→Prop} {l:List K} {kk:AV} {ls:List (List AV)}
theorem Z8.len(H:Z8 h z R l kk ls):Yj kk=some l.length:=by rw[←H.ln];exact H.r.len
theorem Z8.cell(H:Z8 h z R l kk ls):QE kk=true:=H.r.cell
theorem Z8.UK(H:Z8 h z R l kk ls):(l.length:Int)≤9223372036854775807:=by rw[←H.ln];exact H.r.UK
theorem VK.mono(hl:VH h h')(r:VK h [] z ls kk):VK h' [] z ls kk:=
 ⟨r.len,r.UK,r.cell,fun i cs hi=>by
  obtain⟨c,m,off,cells,h1,h2,h3,h4⟩:=r.at_ i cs hi
  exact⟨c,m,off,cells,h1,h2,hl _ _ _ h3,h4⟩,fun c m off n z' e=>by
  obtain⟨h1,cells,h2,h3⟩:=r.alive c m off n z' e
  exact⟨h1,cells,hl _ _ _ h2,h3⟩⟩
theorem Z8.mono(hl:VH h h')(hR: ∀k cs,R k cs→R' k cs)(H:Z8 h z R l kk ls):Z8 h' z R' l kk ls:=
 ⟨H.r.mono hl,H.ln,fun i k hi=>by
  obtain⟨cs,h1,h2⟩:=H.at_ i k hi
  exact⟨cs,h1,hR _ _ h2⟩⟩
theorem M1{H:Type}{P:Program}{t e:TypeId}(k0:K)(hu:P.underlying t=some (.slice e))(hz:P.cellsOf e=z)(hR: ∀(cs:List AV) (d:DataW H),Rd P h e cs d→ ∃k,R k cs){xs:List AV}{d:DataW H}(r:Rd P h t xs d):
  ∃ks l ls,xs=[ks]∧Z8 h z R l ks ls:=by
 cases r with
 |bool ht=>rw[hu]at ht;cases ht
 |int ht hw=>rw[hu]at ht;cases ht
 |str ht hs=>rw[hu]at ht;cases ht
 |nil ht=>exact⟨_,[],[],rfl,⟨.nil _ _ _,rfl,fun i k hi=>by simp at hi⟩⟩
 |none ht=>exact⟨_,[],[],rfl,⟨⟨rfl,by simp,rfl,fun i cs hi=>by simp at hi,fun _ _ _ _ _ e=>by cases e⟩,rfl,fun i k hi=>by simp at hi⟩⟩
 |row ht hz' hr hl he hm hd=>
  rename_i e' c m len cells elems rest;rw[hu]at ht
  injection ht with ht
  injection ht with ht
  subst ht;subst hz
  have hk: ∀i,∃k,i<len→R k ((cells.drop (i *P.cellsOf e)).take (P.cellsOf e)):=fun i=>by
   by_cases hi:i<len
   ·obtain⟨k,hk⟩:=hR _ _ (hd i elems[i] (List.getElem?_eq_getElem (he▸hi)));exact⟨k,fun _=>hk⟩
   ·exact⟨k0,fun h=>absurd h hi⟩
  obtain⟨f,hf⟩:=Classical.axiomOfChoice hk
  have hmx:(len:Int)≤9223372036854775807:=by
   have h1:(maxLen:Int)≤9223372036854775807:=by decide
   omega
  have hlen:((List.range len).map fun i=>(cells.drop (i *P.cellsOf e)).take (P.cellsOf e)).length=len:=by simp
  have hfit: ∀i,i<len→i *P.cellsOf e+P.cellsOf e≤cells.length:=fun i hi=>by
   have:=Nat.mul_le_mul_right (P.cellsOf e) (show i+1≤len from hi);rw[Nat.succ_mul]at this;omega
  refine⟨_,(List.range len).map f,(List.range len).map fun i=>(cells.drop (i *P.cellsOf e)).take (P.cellsOf e),rfl,⟨⟨by rw[hlen];rfl,by rw[hlen];exact hmx,rfl,fun i cs hi=>?_,fun c' m' off' n' z' e'=>?_⟩,by simp,fun i k hi=>?_⟩⟩
  ·rw[List.getElem?_map]at hi
   have hlt:i<len:=by
    by_cases hi':i<len
    ·exact hi'
    ·rw[List.getElem?_eq_none (by simp;omega)]at hi;cases hi
   rw[List.getElem?_range hlt]at hi
   injection hi with hi
   refine⟨c,m,0,cells,by rw[hlen],by simp,hr,?_,by rw[Nat.zero_add];exact hi⟩;rw[←hi,List.length_take,List.length_drop];have:=hfit i hlt;omega
  ·injection e' with e1 e2 e3 e4 e5
   subst e1 e2 e3 e4 e5;exact⟨by simp,cells,hr,by omega⟩
  ·rw[List.getElem?_map]at hi
   have hlt:i<len:=by
    by_cases hi':i<len
    ·exact hi'
    ·rw[List.getElem?_eq_none (by simp;omega)]at hi;cases hi
   rw[List.getElem?_range hlt]at hi
   injection hi with hi
   refine⟨_,?_,by rw[←hi];exact hf i hlt⟩;rw[List.getElem?_map,List.getElem?_range hlt];rfl
 |agg ht hl hp hd=>rw[hu]at ht;cases ht
end
def yC(d:Dc)(cs:List AV):Prop:=cs=[.str d.name,.int .i64 d.order,.int .i64 d.at_]∧Bytes d.name
def Y8(h:Hp)(l:List Dc)(kk:AV)(ls:List (List AV)):Prop:=Z8 h 3 yC l kk ls
def Mb(h:Hp)(p:Pd)(cs:List AV):Prop:= ∃kp lp op nm n a kk,cs=[.str p.name,kp,.str op,.str nm,.int .i64 n,.int .i64 a,kk,.int .i64 p.at_]∧Y8 h p.params kp lp∧Yq h p.body [.str op,.str nm,.int .i64 n,.int .i64 a,kk]∧Bytes p.name
def Fe(h:Hp)(l:List Pd)(kk:AV)(ls:List (List AV)):Prop:=Z8 h 8 (Mb h) l kk ls
def yA(h:Hp)(p:Pg)(cs:List AV):Prop:= ∃kd ld kp lp op nm n a kk,cs=[kd,kp,.str op,.str nm,.int .i64 n,.int .i64 a,kk]∧Y8 h p.decls kd ld∧Fe h p.preds kp lp∧Yq h p.main [.str op,.str nm,.int .i64 n,.int .i64 a,kk]
theorem Y8.mono{h h':Hp}(hl:VH h h'){l:List Dc}{kk:AV}{ls:List (List AV)}(H:Y8 h l kk ls):Y8 h' l kk ls:=Z8.mono hl (fun _ _ h=>h) H
theorem Mb.mono{h h':Hp}(hl:VH h h'){p:Pd}{cs:List AV}(H:Mb h p cs):Mb h' p cs:=by
 obtain⟨kp,lp,op,nm,n,a,kk,e,h1,h2,h3⟩:=H;exact⟨kp,lp,op,nm,n,a,kk,e,h1.mono hl,h2.mono hl,h3⟩
theorem Fe.mono{h h':Hp}(hl:VH h h'){l:List Pd}{kk:AV}{ls:List (List AV)}(H:Fe h l kk ls):Fe h' l kk ls:=Z8.mono hl (fun _ _ h=>h.mono hl) H
theorem yA.mono{h h':Hp}(hl:VH h h'){p:Pg}{cs:List AV}(H:yA h p cs):yA h' p cs:=by
 obtain⟨kd,ld,kp,lp,op,nm,n,a,kk,e,h1,h2,h3⟩:=H;exact⟨kd,ld,kp,lp,op,nm,n,a,kk,e,h1.mono hl,h2.mono hl,h3.mono hl⟩
theorem RR{H:Type}{h:Hp}{xs:List AV}{d:DataW H}(r:Rd Tryz.prog h 102 xs d): ∃k:Dc,yC k xs:=by
 obtain⟨f0,f1,f2,u,⟨t0,o0⟩,⟨t1,o1⟩,⟨t2,o2⟩⟩:=uR;obtain⟨hl,hd⟩:=jS u r;rw[yv.1]at hl
 obtain⟨a0,a1,a2,rfl⟩: ∃a0 a1 a2,xs=[a0,a1,a2]:=by
  match xs,hl with
  |[a0,a1,a2],_=>exact⟨_,_,_,rfl⟩
 obtain⟨cs,ci,ck⟩:=c1;obtain⟨d0,r0⟩:=hd 0 f0 rfl;obtain⟨d1,r1⟩:=hd 1 f1 rfl;obtain⟨d2,r2⟩:=hd 2 f2 rfl;rw[t0,o0,cs]at r0;rw[t1,o1,ci]at r1;rw[t2,o2,ci]at r2;obtain⟨s0,e0,b0⟩:=By r0;obtain⟨s1,e1⟩:=N3 r1;obtain⟨s2,e2⟩:=N3 r2
 injection e0 with e0;injection e1 with e1;injection e2 with e2
 subst e0 e1 e2;exact⟨⟨s0,s1,s2⟩,rfl,b0⟩
theorem DG{H:Type}{h:Hp}{xs:List AV}{d:DataW H}(r:Rd Tryz.prog h 22 xs d): ∃ks l ls,xs=[ks]∧Y8 h l ks ls:=M1 ⟨[],0,0⟩ yK yv.1 (fun cs d r=>RR r) r
end Go.Proofs.YtadjjadimlkkgaaGreatDoor
end
section
namespace Go.Proofs.YtadjjadimlkkgaaGreatDoor
open Go Go.RowKit

structure Tk where
 k:Int
 s:List Nat
 n:Int
 a:Int
def y7(L:List Tk):Prop:= ∀j t,L[j]? =some t→t.k≠4→j+1<L.length
section
variable {L:List Tk} (hL:y7 L)
include hL
end
end Go.Proofs.YtadjjadimlkkgaaGreatDoor
end
