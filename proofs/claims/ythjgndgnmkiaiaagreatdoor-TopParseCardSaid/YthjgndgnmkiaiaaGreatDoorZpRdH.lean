/-
  Formulas and terms that a call is handed.
-/
import Derived.ChangeShapes
import Derived.ChangeOld
import Derived.Below
import Derived.Carry
import Derived.Test.YthjgndgnmkiaiaaGreatDoorZpTrB
set_option maxRecDepth 100000
set_option linter.unusedVariables false
namespace Go.Proofs.YthjgndgnmkiaiaaGreatDoor
open Go Go.RowKit
section
variable {h:Hp} {xs:List AV}

theorem nB:Tryz.prog.underlying 9=some .string:=by kernel_rfl
theorem nD:Tryz.prog.underlying 3=some (.int .i64):=by kernel_rfl
theorem qg:Tryz.prog.cellsOf 26=5:=by kernel_rfl
theorem CE{H:Type}{d:DataW H}(r:Rd Tryz.prog h 9 xs d): ∃s,xs=[.str s]∧Bytes s:=by
 have u:=nB
 cases r with
 |bool ht=>rw[u]at ht;cases ht
 |int ht hw=>rw[u]at ht;cases ht
 |str ht hs=>exact⟨_,rfl,ZW _⟩
 |nil ht=>rw[u]at ht;cases ht
 |none ht=>rw[u]at ht;cases ht
 |row ht hz hr hl' he hm hd=>rw[u]at ht;cases ht
 |agg ht hl' hp hd=>rw[u]at ht;cases ht
theorem NU{H:Type}{d:DataW H}(r:Rd Tryz.prog h 3 xs d): ∃s,xs=[.int .i64 s]:=by
 have u:=nD
 cases r with
 |bool ht=>rw[u]at ht;cases ht
 |int ht hw=>rw[u]at ht;injection ht with ht;injection ht with ht;subst ht;exact⟨_,rfl⟩
 |str ht hs=>rw[u]at ht;cases ht
 |nil ht=>rw[u]at ht;cases ht
 |none ht=>rw[u]at ht;cases ht
 |row ht hz hr hl' he hm hd=>rw[u]at ht;cases ht
 |agg ht hl' hp hd=>rw[u]at ht;cases ht
theorem kG: ∃f0 f1 f2 f3 f4:Field,Tryz.prog.underlying 26=some (.struct #[f0,f1,f2,f3,f4])∧(f0.type=9∧f0.offset=0)∧(f1.type=9∧f1.offset=1)∧(f2.type=3∧f2.offset=2)∧(f3.type=3∧f3.offset=3)∧(f4.type=24∧f4.offset=4):=
 ⟨_,_,_,_,_,Tryz.underlying26,⟨rfl,rfl⟩,⟨rfl,rfl⟩,⟨rfl,rfl⟩,⟨rfl,rfl⟩,⟨rfl,rfl⟩⟩
theorem c1:Tryz.prog.cellsOf 9=1∧Tryz.prog.cellsOf 3=1∧Tryz.prog.cellsOf 24=1:=⟨by kernel_rfl,by kernel_rfl,by kernel_rfl⟩
theorem wv{H:Type}{t:TypeId}{d:DataW H}(r:Rd Tryz.prog h t xs d):
  (t=26→ ∃k,XW h k xs)∧(t=24→ ∃ks,xs=[ks]∧ ∀op name n a,Bytes op→Bytes name→ ∃kids,XW h (.mk op name n a kids) [.str op,.str name,.int .i64 n,.int .i64 a,ks]):=by
 obtain⟨f0,f1,f2,f3,f4,uN,⟨t0,o0⟩,⟨t1,o1⟩,⟨t2,o2⟩,⟨t3,o3⟩,⟨t4,o4⟩⟩:=kG;have uK:=kH
 induction r with
 |bool ht=>exact⟨fun e=>(by subst e;rw[uN]at ht;cases ht),fun e=>(by subst e;rw[uK]at ht;cases ht)⟩
 |int ht hw=>exact⟨fun e=>(by subst e;rw[uN]at ht;cases ht),fun e=>(by subst e;rw[uK]at ht;cases ht)⟩
 |str ht hs=>exact⟨fun e=>(by subst e;rw[uN]at ht;cases ht),fun e=>(by subst e;rw[uK]at ht;cases ht)⟩
 |nil ht=>exact⟨fun e=>(by subst e;rw[uN]at ht;cases ht),fun _=>⟨_,rfl,fun op name n a h1 h2=>⟨[],.leaf rfl rfl ⟨h1,h2⟩⟩⟩⟩
 |none ht=>exact⟨fun e=>(by subst e;rw[uN]at ht;cases ht),fun _=>⟨_,rfl,fun op name n a h1 h2=>⟨[],.leaf rfl rfl ⟨h1,h2⟩⟩⟩⟩
 |row ht hz hr hl he hm hd ih=>
  rename_i t e c m len cells elems rest;refine⟨fun e=>(by subst e;rw[uN]at ht;cases ht),fun e2=>⟨_,rfl,fun op name n a h1 h2=>?_⟩⟩;subst e2;rw[uK]at ht
  injection ht with ht
  injection ht with ht
  subst ht;rw[qg]at hl ih ⊢
  have hk: ∀i,∃k,i<len→XW h k ((cells.drop (i *5)).take 5):=fun i=>by
   by_cases hi:i<len
   ·obtain⟨k,hk⟩:=(ih i elems[i] (List.getElem?_eq_getElem (he▸hi))).1 rfl;exact⟨k,fun _=>hk⟩
   ·exact⟨.mk [] [] 0 0 [],fun h=>absurd h hi⟩
  obtain⟨f,hf⟩:=Classical.axiomOfChoice hk
  have hlen:((List.range len).map f).length=len:=by simp
  have hmx:(len:Int)≤9223372036854775807:=by
   have h1:(maxLen:Int)≤9223372036854775807:=by decide
   omega
  refine⟨(List.range len).map f,?_⟩
  have:=XW.node (op:=op) (name:=name) (n:=n) (at_:=a) (kids:=(List.range len).map f) (off:=0) hr (by rw[hlen];exact hmx) (by rw[hlen];omega) (fun i k hi=>by
   rw[List.getElem?_map]at hi
   have hlt:i<len:=by
    by_cases hi':i<len
    ·exact hi'
    ·rw[List.getElem?_eq_none (by simp;omega)]at hi;cases hi
   rw[List.getElem?_range hlt]at hi
   injection hi with hi
   rw[←hi,Nat.zero_add]
   exact hf i hlt) ⟨h1,h2⟩
  rw[hlen]at this;exact this
 |agg ht hl hp hd ih=>
  rename_i t fs xs parts;refine⟨fun e=>?_,fun e=>(by subst e;rw[uK]at ht;cases ht)⟩;subst e;rw[uN]at ht
  injection ht with ht
  injection ht with ht
  subst ht;rw[qg]at hl
  obtain⟨a0,a1,a2,a3,a4,rfl⟩: ∃a0 a1 a2 a3 a4,xs=[a0,a1,a2,a3,a4]:=by
   match xs,hl with
   |[a0,a1,a2,a3,a4],_=>exact⟨_,_,_,_,_,rfl⟩
  obtain⟨d0,d1,d2,d3,d4,rfl⟩: ∃a0 a1 a2 a3 a4,parts=[a0,a1,a2,a3,a4]:=by
   match parts,hp with
   |[a0,a1,a2,a3,a4],_=>exact⟨_,_,_,_,_,rfl⟩
  obtain⟨cs,ci,ck⟩:=c1;have r0:=hd 0 f0 d0 rfl rfl;have r1:=hd 1 f1 d1 rfl rfl;have r2:=hd 2 f2 d2 rfl rfl;have r3:=hd 3 f3 d3 rfl rfl;have r4:=(ih 4 f4 d4 rfl rfl).2 t4;rw[t0,o0,cs]at r0;rw[t1,o1,cs]at r1;rw[t2,o2,ci]at r2;rw[t3,o3,ci]at r3;rw[o4,t4,ck]at r4;obtain⟨s0,e0,b0⟩:=CE r0;obtain⟨s1,e1,b1⟩:=CE r1;obtain⟨s2,e2⟩:=NU r2;obtain⟨s3,e3⟩:=NU r3;obtain⟨ks,e4,hk⟩:=r4
  injection e0 with e0;injection e1 with e1;injection e2 with e2;injection e3 with e3;injection e4 with e4
  subst e0 e1 e2 e3 e4;obtain⟨kids,hk⟩:=hk s0 s1 s2 s3 b0 b1;exact⟨_,hk⟩
theorem M0{H:Type}{d:DataW H}(r:Rd Tryz.prog h 26 xs d): ∃k,XW h k xs:=(wv r).1 rfl
end
section

theorem SJ{H:Type}{P:Program}{h:Hp}{t:TypeId}{fs:Array Field}(hu:P.underlying t=some (.struct fs)){xs:List AV}{d:DataW H}(r:Rd P h t xs d):
  xs.length=P.cellsOf t∧ ∀(i:Nat) (f:Field),fs[i]? =some f→ ∃d:DataW H,Rd P h f.type ((xs.drop f.offset).take (P.cellsOf f.type)) d:=by
 cases r with
 |bool ht=>rw[hu]at ht;cases ht
 |int ht hw=>rw[hu]at ht;cases ht
 |str ht hs=>rw[hu]at ht;cases ht
 |nil ht=>rw[hu]at ht;cases ht
 |none ht=>rw[hu]at ht;cases ht
 |row ht hz' hr hl he hm hd=>rw[hu]at ht;cases ht
 |agg ht hl hp hd=>
  rename_i fs' parts;rw[hu]at ht
  injection ht with ht
  injection ht with ht
  subst ht;refine⟨hl,fun i f hf=>?_⟩
  have hi:i<parts.length:=by
   rw[hp];exact(Array.getElem?_eq_some_iff.1 hf).1
  exact⟨parts[i],hd i f _ hf (List.getElem?_eq_getElem hi)⟩
theorem RL:Tryz.prog.cellsOf 55=3∧Tryz.prog.cellsOf 31=8∧Tryz.prog.cellsOf 28=7∧Tryz.prog.cellsOf 22=1∧Tryz.prog.cellsOf 23=1:=⟨by kernel_rfl,by kernel_rfl,by kernel_rfl,by kernel_rfl,by kernel_rfl⟩
theorem kI: ∃f0 f1 f2:Field,Tryz.prog.underlying 55=some (.struct #[f0,f1,f2])∧(f0.type=9∧f0.offset=0)∧(f1.type=3∧f1.offset=1)∧(f2.type=3∧f2.offset=2):=
 ⟨_,_,_,Tryz.underlying55,⟨rfl,rfl⟩,⟨rfl,rfl⟩,⟨rfl,rfl⟩⟩
theorem kF: ∃f0 f1 f2 f3:Field,Tryz.prog.underlying 31=some (.struct #[f0,f1,f2,f3])∧(f0.type=9∧f0.offset=0)∧(f1.type=22∧f1.offset=1)∧(f2.type=26∧f2.offset=2)∧(f3.type=3∧f3.offset=7):=
 ⟨_,_,_,_,Tryz.underlying31,⟨rfl,rfl⟩,⟨rfl,rfl⟩,⟨rfl,rfl⟩,⟨rfl,rfl⟩⟩
theorem kE: ∃f0 f1 f2:Field,Tryz.prog.underlying 28=some (.struct #[f0,f1,f2])∧(f0.type=22∧f0.offset=0)∧(f1.type=23∧f1.offset=1)∧(f2.type=26∧f2.offset=2):=
 ⟨_,_,_,Tryz.underlying28,⟨rfl,rfl⟩,⟨rfl,rfl⟩,⟨rfl,rfl⟩⟩
theorem SQ:P7 Tryz.prog [28,22,55,23,31,26,24,9,3]=true:=by kernel_rfl
end
section
variable {xs:List AV}

structure WS{K:Type}(h:Hp)(z:Nat)(R:K→List AV→Prop)(l:List K)(kk:AV)(ls:List (List AV)):Prop where
 r:Ja h [] z ls kk
 ln:ls.length=l.length
 at_: ∀(i:Nat) (k:K),l[i]? =some k→ ∃cs,ls[i]? =some cs∧R k cs
section
variable {K:Type} {h h':Hp} {z:Nat} {R R':K→List AV→Prop} {l:List K} {kk:AV} {ls:List (List AV)}
theorem WS.len(H:WS h z R l kk ls):VN kk=some l.length:=by rw[←H.ln];exact H.r.len
theorem WS.cell(H:WS h z R l kk ls):QI kk=true:=H.r.cell
theorem WS.W9(H:WS h z R l kk ls):(l.length:Int)≤9223372036854775807:=by rw[←H.ln];exact H.r.W9
theorem Ja.mono(hl:Hk h h')(r:Ja h [] z ls kk):Ja h' [] z ls kk:=
 ⟨r.len,r.W9,r.cell,fun i cs hi=>by
  obtain⟨c,m,off,cells,h1,h2,h3,h4⟩:=r.at_ i cs hi
  exact⟨c,m,off,cells,h1,h2,hl _ _ _ h3,h4⟩,fun c m off n z' e=>by
  obtain⟨h1,cells,h2,h3⟩:=r.alive c m off n z' e
  exact⟨h1,cells,hl _ _ _ h2,h3⟩⟩
theorem WS.mono(hl:Hk h h')(hR: ∀k cs,R k cs→R' k cs)(H:WS h z R l kk ls):WS h' z R' l kk ls:=
 ⟨H.r.mono hl,H.ln,fun i k hi=>by
  obtain⟨cs,h1,h2⟩:=H.at_ i k hi
  exact⟨cs,h1,hR _ _ h2⟩⟩
theorem Mz{H:Type}{P:Program}{t e:TypeId}(k0:K)(hu:P.underlying t=some (.slice e))(hz:P.cellsOf e=z)(hR: ∀(cs:List AV) (d:DataW H),Rd P h e cs d→ ∃k,R k cs){d:DataW H}(r:Rd P h t xs d):
  ∃ks l ls,xs=[ks]∧WS h z R l ks ls:=by
 cases r with
 |bool ht=>rw[hu]at ht;cases ht
 |int ht hw=>rw[hu]at ht;cases ht
 |str ht hs=>rw[hu]at ht;cases ht
 |nil ht=>exact⟨_,[],[],rfl,⟨.nil _ _ _,rfl,fun i k hi=>by simp at hi⟩⟩
 |none ht=>exact⟨_,[],[],rfl,⟨⟨rfl,by simp,rfl,fun i cs hi=>by simp at hi,fun _ _ _ _ _ e=>by cases e⟩,rfl,fun i k hi=>by simp at hi⟩⟩
 |row ht hz' hr hl he hm hd=>
  rename_i e' c m len cells elems rest;rw[hu]at ht
  injection ht with ht
  injection ht with ht
  subst ht;subst hz
  have hk: ∀i,∃k,i<len→R k ((cells.drop (i *P.cellsOf e)).take (P.cellsOf e)):=fun i=>by
   by_cases hi:i<len
   ·obtain⟨k,hk⟩:=hR _ _ (hd i elems[i] (List.getElem?_eq_getElem (he▸hi)));exact⟨k,fun _=>hk⟩
   ·exact⟨k0,fun h=>absurd h hi⟩
  obtain⟨f,hf⟩:=Classical.axiomOfChoice hk
  have hmx:(len:Int)≤9223372036854775807:=by
   have h1:(maxLen:Int)≤9223372036854775807:=by decide
   omega
  have hlen:((List.range len).map fun i=>(cells.drop (i *P.cellsOf e)).take (P.cellsOf e)).length=len:=by simp
  have hfit: ∀i,i<len→i *P.cellsOf e+P.cellsOf e≤cells.length:=fun i hi=>by
   have:=Nat.mul_le_mul_right (P.cellsOf e) (show i+1≤len from hi);rw[Nat.succ_mul]at this;omega
  refine⟨_,(List.range len).map f,(List.range len).map fun i=>(cells.drop (i *P.cellsOf e)).take (P.cellsOf e),rfl,⟨⟨by rw[hlen];rfl,by rw[hlen];exact hmx,rfl,fun i cs hi=>?_,fun c' m' off' n' z' e'=>?_⟩,by simp,fun i k hi=>?_⟩⟩
  ·rw[List.getElem?_map]at hi
   have hlt:i<len:=by
    by_cases hi':i<len
    ·exact hi'
    ·rw[List.getElem?_eq_none (by simp;omega)]at hi;cases hi
   rw[List.getElem?_range hlt]at hi
   injection hi with hi
   refine⟨c,m,0,cells,by rw[hlen],by simp,hr,?_,by rw[Nat.zero_add];exact hi⟩;rw[←hi,List.length_take,List.length_drop];have:=hfit i hlt;omega
  ·injection e' with e1 e2 e3 e4 e5
   subst e1 e2 e3 e4 e5;exact⟨by simp,cells,hr,by omega⟩
  ·rw[List.getElem?_map]at hi
   have hlt:i<len:=by
    by_cases hi':i<len
    ·exact hi'
    ·rw[List.getElem?_eq_none (by simp;omega)]at hi;cases hi
   rw[List.getElem?_range hlt]at hi
   injection hi with hi
   refine⟨_,?_,by rw[←hi];exact hf i hlt⟩;rw[List.getElem?_map,List.getElem?_range hlt];rfl
 |agg ht hl hp hd=>rw[hu]at ht;cases ht
end
def oK(d:Dc)(cs:List AV):Prop:=cs=[.str d.name,.int .i64 d.order,.int .i64 d.at_]∧Bytes d.name
def LV(h:Hp)(l:List Dc)(kk:AV)(ls:List (List AV)):Prop:=WS h 3 oK l kk ls
def kj(h:Hp)(p:Pd)(cs:List AV):Prop:= ∃kp lp op nm n a kk,cs=[.str p.name,kp,.str op,.str nm,.int .i64 n,.int .i64 a,kk,.int .i64 p.at_]∧LV h p.params kp lp∧XW h p.body [.str op,.str nm,.int .i64 n,.int .i64 a,kk]∧Bytes p.name
def ak(h:Hp)(l:List Pd)(kk:AV)(ls:List (List AV)):Prop:=WS h 8 (kj h) l kk ls
def u5(h:Hp)(p:Pg)(cs:List AV):Prop:= ∃kd ld kp lp op nm n a kk,cs=[kd,kp,.str op,.str nm,.int .i64 n,.int .i64 a,kk]∧LV h p.decls kd ld∧ak h p.preds kp lp∧XW h p.main [.str op,.str nm,.int .i64 n,.int .i64 a,kk]
theorem LV.mono{h h':Hp}(hl:Hk h h'){l:List Dc}{kk:AV}{ls:List (List AV)}(H:LV h l kk ls):LV h' l kk ls:=WS.mono hl (fun _ _ h=>h) H
theorem kj.mono{h h':Hp}(hl:Hk h h'){p:Pd}{cs:List AV}(H:kj h p cs):kj h' p cs:=by
 obtain⟨kp,lp,op,nm,n,a,kk,e,h1,h2,h3⟩:=H;exact⟨kp,lp,op,nm,n,a,kk,e,h1.mono hl,h2.mono hl,h3⟩
theorem ak.mono{h h':Hp}(hl:Hk h h'){l:List Pd}{kk:AV}{ls:List (List AV)}(H:ak h l kk ls):ak h' l kk ls:=WS.mono hl (fun _ _ h=>h.mono hl) H
theorem u5.mono{h h':Hp}(hl:Hk h h'){p:Pg}{cs:List AV}(H:u5 h p cs):u5 h' p cs:=by
 obtain⟨kd,ld,kp,lp,op,nm,n,a,kk,e,h1,h2,h3⟩:=H;exact⟨kd,ld,kp,lp,op,nm,n,a,kk,e,h1.mono hl,h2.mono hl,h3.mono hl⟩
theorem yO{H:Type}{h:Hp}{d:DataW H}(r:Rd Tryz.prog h 55 xs d): ∃k:Dc,oK k xs:=by
 obtain⟨f0,f1,f2,u,⟨t0,o0⟩,⟨t1,o1⟩,⟨t2,o2⟩⟩:=kI;obtain⟨hl,hd⟩:=SJ u r;rw[RL.1]at hl
 obtain⟨a0,a1,a2,rfl⟩: ∃a0 a1 a2,xs=[a0,a1,a2]:=by
  match xs,hl with
  |[a0,a1,a2],_=>exact⟨_,_,_,rfl⟩
 obtain⟨cs,ci,ck⟩:=c1;obtain⟨d0,r0⟩:=hd 0 f0 rfl;obtain⟨d1,r1⟩:=hd 1 f1 rfl;obtain⟨d2,r2⟩:=hd 2 f2 rfl;rw[t0,o0,cs]at r0;rw[t1,o1,ci]at r1;rw[t2,o2,ci]at r2;obtain⟨s0,e0,b0⟩:=CE r0;obtain⟨s1,e1⟩:=NU r1;obtain⟨s2,e2⟩:=NU r2
 injection e0 with e0;injection e1 with e1;injection e2 with e2
 subst e0 e1 e2;exact⟨⟨s0,s1,s2⟩,rfl,b0⟩
theorem Bp{H:Type}{h:Hp}{d:DataW H}(r:Rd Tryz.prog h 22 xs d): ∃ks l ls,xs=[ks]∧LV h l ks ls:=Mz ⟨[],0,0⟩ nE RL.1 (fun cs d r=>yO r) r
theorem yN{H:Type}{h:Hp}{d:DataW H}(r:Rd Tryz.prog h 31 xs d): ∃k:Pd,kj h k xs:=by
 obtain⟨f0,f1,f2,f3,u,⟨t0,o0⟩,⟨t1,o1⟩,⟨t2,o2⟩,⟨t3,o3⟩⟩:=kF;obtain⟨hl,hd⟩:=SJ u r;rw[RL.2.1]at hl
 obtain⟨a0,a1,a2,a3,a4,a5,a6,a7,rfl⟩: ∃a0 a1 a2 a3 a4 a5 a6 a7,xs=[a0,a1,a2,a3,a4,a5,a6,a7]:=by
  match xs,hl with
  |[a0,a1,a2,a3,a4,a5,a6,a7],_=>exact⟨_,_,_,_,_,_,_,_,rfl⟩
 obtain⟨cs,ci,ck⟩:=c1;obtain⟨d0,r0⟩:=hd 0 f0 rfl;obtain⟨d1,r1⟩:=hd 1 f1 rfl;obtain⟨d2,r2⟩:=hd 2 f2 rfl;obtain⟨d3,r3⟩:=hd 3 f3 rfl;rw[t0,o0,cs]at r0;rw[t1,o1,RL.2.2.2.1]at r1;rw[t2,o2,qg]at r2;rw[t3,o3,ci]at r3;obtain⟨s0,e0,b0⟩:=CE r0;obtain⟨ks,l,ls,e1,hll⟩:=Bp r1;obtain⟨⟨op,nm,n,a,kids⟩,hb⟩:=M0 r2;obtain⟨s3,e3⟩:=NU r3;have hb:XW h (.mk op nm n a kids) [a2,a3,a4,a5,a6]:=hb;have hb0:=hb;obtain⟨kk,e2,_⟩:=hb.open_ o6
 injection e0 with e0;injection e1 with e1;injection e3 with e3
 injection e2 with x2 e2;injection e2 with x3 e2;injection e2 with x4 e2;injection e2 with x5 e2;injection e2 with x6 e2
 subst e0 e1 e3 x2 x3 x4 x5 x6;exact⟨⟨s0,l,.mk op nm n a kids,s3⟩,_,_,_,_,_,_,_,rfl,hll,hb0,b0⟩
theorem jf{H:Type}{h:Hp}{d:DataW H}(r:Rd Tryz.prog h 23 xs d): ∃ks l ls,xs=[ks]∧ak h l ks ls:=Mz ⟨[],[],.mk [] [] 0 0 [],0⟩ nC RL.2.1 (fun cs d r=>yN r) r
theorem yM{H:Type}{h:Hp}{d:DataW H}(r:Rd Tryz.prog h 28 xs d): ∃k:Pg,u5 h k xs:=by
 obtain⟨f0,f1,f2,u,⟨t0,o0⟩,⟨t1,o1⟩,⟨t2,o2⟩⟩:=kE;obtain⟨hl,hd⟩:=SJ u r;rw[RL.2.2.1]at hl
 obtain⟨a0,a1,a2,a3,a4,a5,a6,rfl⟩: ∃a0 a1 a2 a3 a4 a5 a6,xs=[a0,a1,a2,a3,a4,a5,a6]:=by
  match xs,hl with
  |[a0,a1,a2,a3,a4,a5,a6],_=>exact⟨_,_,_,_,_,_,_,rfl⟩
 obtain⟨d0,r0⟩:=hd 0 f0 rfl;obtain⟨d1,r1⟩:=hd 1 f1 rfl;obtain⟨d2,r2⟩:=hd 2 f2 rfl;rw[t0,o0,RL.2.2.2.1]at r0;rw[t1,o1,RL.2.2.2.2]at r1;rw[t2,o2,qg]at r2;obtain⟨ks0,l0,ls0,e0,hl0⟩:=Bp r0;obtain⟨ks1,l1,ls1,e1,hl1⟩:=jf r1;obtain⟨⟨op,nm,n,a,kids⟩,hb⟩:=M0 r2;have hb:XW h (.mk op nm n a kids) [a2,a3,a4,a5,a6]:=hb;have hb0:=hb;obtain⟨kk,e2,_⟩:=hb.open_ o6
 injection e0 with e0;injection e1 with e1
 injection e2 with x2 e2;injection e2 with x3 e2;injection e2 with x4 e2;injection e2 with x5 e2;injection e2 with x6 e2
 subst e0 e1 x2 x3 x4 x5 x6;exact⟨⟨l0,l1,.mk op nm n a kids⟩,_,_,_,_,_,_,_,_,_,rfl,hl0,hl1,hb0⟩
theorem Ty{H:Type}{enc:TypeId×Value→H}{W:World}{ml:A9}(hM:Xn W ml){v:Value}{d:DataW H}{p:List MemPlace}(h:DataW.Trod enc Tryz.prog W 0 (fun _=>true) true 28 v d p):
  ∃ml' cs k,ml<+:ml'∧Xn W ml'∧u5 (Vq ml') k cs∧WF (Vq ml') (.agg cs)∧Qe (Oe ml') (.agg cs)=v:=by
 obtain⟨fuel,h⟩:=h;obtain⟨ml',cs,h1,h2,h3,h4,h5,h6⟩:=lift _ SQ fuel 28 _ d p ml Q1 h hM;obtain⟨k,hk⟩:=yM h6;refine⟨ml',cs,k,h1,h2,hk,h4,?_⟩;obtain⟨e1,e2⟩:=GN h3 h5
 by_cases hv: ∃cs,v=.agg cs
 ·exact e1 hv
 ·obtain⟨a,rfl,_⟩:=e2 fun cs e=>hv ⟨cs,e⟩;obtain⟨_,_,_,_,_,_,_,_,_,e,_⟩:=hk;cases e
end
end Go.Proofs.YthjgndgnmkiaiaaGreatDoor
