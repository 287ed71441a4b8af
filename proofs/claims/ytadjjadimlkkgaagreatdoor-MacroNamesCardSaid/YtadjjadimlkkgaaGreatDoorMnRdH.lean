/-
  Programs that a call is handed, by rows; names are of bytes.
-/
import Derived.Test.YtadjjadimlkkgaaGreatDoorMnRdG
namespace Go.Proofs.YtadjjadimlkkgaaGreatDoor
open Go Go.RowKit
set_option linter.unusedVariables false
set_option maxRecDepth 100000

structure Xf{K:Type}(h:Hp)(z:Nat)(R:K→List AV→Prop)(l:List K)(kk:AV)(ls:List (List AV)):Prop where
 r:Un h [] z ls kk
 ln:ls.length=l.length
 at_: ∀(i:Nat) (k:K),l[i]? =some k→ ∃cs,ls[i]? =some cs∧R k cs
section
variable {K:Type} {h h':Hp} {z:Nat} {R R':K→List AV→Prop} {l:List K} {kk:AV} {ls:List (List AV)}
theorem Xf.len(H:Xf h z R l kk ls):ZH kk=some l.length:=by rw[←H.ln];exact H.r.len
theorem Xf.cell(H:Xf h z R l kk ls):QI kk=true:=H.r.cell
theorem Xf.Uj(H:Xf h z R l kk ls):(l.length:Int)≤9223372036854775807:=by rw[←H.ln];exact H.r.Uj
theorem Un.mono(hl:Wx h h')(r:Un h [] z ls kk):Un h' [] z ls kk:=
 ⟨r.len,r.Uj,r.cell,fun i cs hi=>by
  obtain⟨c,m,off,cells,h1,h2,h3,h4⟩:=r.at_ i cs hi
  exact⟨c,m,off,cells,h1,h2,hl _ _ _ h3,h4⟩,fun c m off n z' e=>by
  obtain⟨h1,cells,h2,h3⟩:=r.alive c m off n z' e
  exact⟨h1,cells,hl _ _ _ h2,h3⟩⟩
theorem Xf.mono(hl:Wx h h')(hR: ∀k cs,R k cs→R' k cs)(H:Xf h z R l kk ls):Xf h' z R' l kk ls:=
 ⟨H.r.mono hl,H.ln,fun i k hi=>by
  obtain⟨cs,h1,h2⟩:=H.at_ i k hi
  exact⟨cs,h1,hR _ _ h2⟩⟩
theorem DM{H:Type}{P:Program}{t e:TypeId}(k0:K)(hu:P.underlying t=some (.slice e))(hz:P.cellsOf e=z)(hR: ∀(cs:List AV) (d:DataW H),Rd P h e cs d→ ∃k,R k cs){xs:List AV}{d:DataW H}(r:Rd P h t xs d):
  ∃ks l ls,xs=[ks]∧Xf h z R l ks ls:=by
 cases r with
 |bool ht=>rw[hu]at ht;cases ht
 |int ht hw=>rw[hu]at ht;cases ht
 |str ht hs=>rw[hu]at ht;cases ht
 |nil ht=>exact⟨_,[],[],rfl,⟨.nil _ _ _,rfl,fun i k hi=>by simp at hi⟩⟩
 |none ht=>exact⟨_,[],[],rfl,⟨⟨rfl,by simp,rfl,fun i cs hi=>by simp at hi,fun _ _ _ _ _ e=>by cases e⟩,rfl,fun i k hi=>by simp at hi⟩⟩
 |row ht hz' hr hl he hm hd=>
  rename_i e' c m len cells elems rest;rw[hu]at ht
  injection ht with ht
  injection ht with ht
  subst ht;subst hz
  have hk: ∀i,∃k,i<len→R k ((cells.drop (i *P.cellsOf e)).take (P.cellsOf e)):=fun i=>by
   by_cases hi:i<len
   ·obtain⟨k,hk⟩:=hR _ _ (hd i elems[i] (List.getElem?_eq_getElem (he▸hi)));exact⟨k,fun _=>hk⟩
   ·exact⟨k0,fun h=>absurd h hi⟩
  obtain⟨f,hf⟩:=Classical.axiomOfChoice hk
  have hmx:(len:Int)≤9223372036854775807:=by
   have h1:(maxLen:Int)≤9223372036854775807:=by decide
   omega
  have hlen:((List.range len).map fun i=>(cells.drop (i *P.cellsOf e)).take (P.cellsOf e)).length=len:=by simp
  have hfit: ∀i,i<len→i *P.cellsOf e+P.cellsOf e≤cells.length:=fun i hi=>by
   have:=Nat.mul_le_mul_right (P.cellsOf e) (show i+1≤len from hi);rw[Nat.succ_mul]at this;omega
  refine⟨_,(List.range len).map f,(List.range len).map fun i=>(cells.drop (i *P.cellsOf e)).take (P.cellsOf e),rfl,⟨⟨by rw[hlen];rfl,by rw[hlen];exact hmx,rfl,fun i cs hi=>?_,fun c' m' off' n' z' e'=>?_⟩,by simp,fun i k hi=>?_⟩⟩
  ·rw[List.getElem?_map]at hi
   have hlt:i<len:=by
    by_cases hi':i<len
    ·exact hi'
    ·rw[List.getElem?_eq_none (by simp;omega)]at hi;cases hi
   rw[List.getElem?_range hlt]at hi
   injection hi with hi
   refine⟨c,m,0,cells,by rw[hlen],by simp,hr,?_,by rw[Nat.zero_add];exact hi⟩;rw[←hi,List.length_take,List.length_drop];have:=hfit i hlt;omega
  ·injection e' with e1 e2 e3 e4 e5
   subst e1 e2 e3 e4 e5;exact⟨by simp,cells,hr,by omega⟩
  ·rw[List.getElem?_map]at hi
   have hlt:i<len:=by
    by_cases hi':i<len
    ·exact hi'
    ·rw[List.getElem?_eq_none (by simp;omega)]at hi;cases hi
   rw[List.getElem?_range hlt]at hi
   injection hi with hi
   refine⟨_,?_,by rw[←hi];exact hf i hlt⟩;rw[List.getElem?_map,List.getElem?_range hlt];rfl
 |agg ht hl hp hd=>rw[hu]at ht;cases ht
end
def xo(d:Dc)(cs:List AV):Prop:=cs=[.str d.name,.int .i64 d.order,.int .i64 d.at_]∧Bytes d.name
def Y1(h:Hp)(l:List Dc)(kk:AV)(ls:List (List AV)):Prop:=Xf h 3 xo l kk ls
def Cm(h:Hp)(p:Pd)(cs:List AV):Prop:= ∃kp lp op nm n a kk,cs=[.str p.name,kp,.str op,.str nm,.int .i64 n,.int .i64 a,kk,.int .i64 p.at_]∧Y1 h p.params kp lp∧UN h p.body [.str op,.str nm,.int .i64 n,.int .i64 a,kk]∧Bytes p.name
def ET(h:Hp)(l:List Pd)(kk:AV)(ls:List (List AV)):Prop:=Xf h 8 (Cm h) l kk ls
def Sg(h:Hp)(p:Pg)(cs:List AV):Prop:= ∃kd ld kp lp op nm n a kk,cs=[kd,kp,.str op,.str nm,.int .i64 n,.int .i64 a,kk]∧Y1 h p.decls kd ld∧ET h p.preds kp lp∧UN h p.main [.str op,.str nm,.int .i64 n,.int .i64 a,kk]
theorem Y1.mono{h h':Hp}(hl:Wx h h'){l:List Dc}{kk:AV}{ls:List (List AV)}(H:Y1 h l kk ls):Y1 h' l kk ls:=Xf.mono hl (fun _ _ h=>h) H
theorem Cm.mono{h h':Hp}(hl:Wx h h'){p:Pd}{cs:List AV}(H:Cm h p cs):Cm h' p cs:=by
 obtain⟨kp,lp,op,nm,n,a,kk,e,h1,h2,h3⟩:=H;exact⟨kp,lp,op,nm,n,a,kk,e,h1.mono hl,h2.mono hl,h3⟩
theorem ET.mono{h h':Hp}(hl:Wx h h'){l:List Pd}{kk:AV}{ls:List (List AV)}(H:ET h l kk ls):ET h' l kk ls:=Xf.mono hl (fun _ _ h=>h.mono hl) H
theorem Sg.mono{h h':Hp}(hl:Wx h h'){p:Pg}{cs:List AV}(H:Sg h p cs):Sg h' p cs:=by
 obtain⟨kd,ld,kp,lp,op,nm,n,a,kk,e,h1,h2,h3⟩:=H;exact⟨kd,ld,kp,lp,op,nm,n,a,kk,e,h1.mono hl,h2.mono hl,h3.mono hl⟩
theorem Ta{H:Type}{h:Hp}{xs:List AV}{d:DataW H}(r:Rd Tryz.prog h 102 xs d): ∃k:Dc,xo k xs:=by
 obtain⟨f0,f1,f2,u,⟨t0,o0⟩,⟨t1,o1⟩,⟨t2,o2⟩⟩:=zy;obtain⟨hl,hd⟩:=C7 u r;rw[BP.1]at hl
 obtain⟨a0,a1,a2,rfl⟩: ∃a0 a1 a2,xs=[a0,a1,a2]:=by
  match xs,hl with
  |[a0,a1,a2],_=>exact⟨_,_,_,rfl⟩
 obtain⟨cs,ci,ck⟩:=c1;obtain⟨d0,r0⟩:=hd 0 f0 rfl;obtain⟨d1,r1⟩:=hd 1 f1 rfl;obtain⟨d2,r2⟩:=hd 2 f2 rfl;rw[t0,o0,cs]at r0;rw[t1,o1,ci]at r1;rw[t2,o2,ci]at r2;obtain⟨s0,e0,b0⟩:=Ov r0;obtain⟨s1,e1⟩:=Ke r1;obtain⟨s2,e2⟩:=Ke r2
 injection e0 with e0;injection e1 with e1;injection e2 with e2
 subst e0 e1 e2;exact⟨⟨s0,s1,s2⟩,rfl,b0⟩
theorem Nc{H:Type}{h:Hp}{xs:List AV}{d:DataW H}(r:Rd Tryz.prog h 22 xs d): ∃ks l ls,xs=[ks]∧Y1 h l ks ls:=DM ⟨[],0,0⟩ xy BP.1 (fun cs d r=>Ta r) r
theorem SY{H:Type}{h:Hp}{xs:List AV}{d:DataW H}(r:Rd Tryz.prog h 69 xs d): ∃k:Pd,Cm h k xs:=by
 obtain⟨f0,f1,f2,f3,u,⟨t0,o0⟩,⟨t1,o1⟩,⟨t2,o2⟩,⟨t3,o3⟩⟩:=zu;obtain⟨hl,hd⟩:=C7 u r;rw[BP.2.1]at hl
 obtain⟨a0,a1,a2,a3,a4,a5,a6,a7,rfl⟩: ∃a0 a1 a2 a3 a4 a5 a6 a7,xs=[a0,a1,a2,a3,a4,a5,a6,a7]:=by
  match xs,hl with
  |[a0,a1,a2,a3,a4,a5,a6,a7],_=>exact⟨_,_,_,_,_,_,_,_,rfl⟩
 obtain⟨cs,ci,ck⟩:=c1;obtain⟨d0,r0⟩:=hd 0 f0 rfl;obtain⟨d1,r1⟩:=hd 1 f1 rfl;obtain⟨d2,r2⟩:=hd 2 f2 rfl;obtain⟨d3,r3⟩:=hd 3 f3 rfl;rw[t0,o0,cs]at r0;rw[t1,o1,BP.2.2.2.1]at r1;rw[t2,o2,Pr]at r2;rw[t3,o3,ci]at r3;obtain⟨s0,e0,b0⟩:=Ov r0;obtain⟨ks,l,ls,e1,hll⟩:=Nc r1;obtain⟨⟨op,nm,n,a,kids⟩,hb⟩:=DN r2;obtain⟨s3,e3⟩:=Ke r3;have hb:UN h (.mk op nm n a kids) [a2,a3,a4,a5,a6]:=hb;have hb0:=hb;obtain⟨kk,e2,_⟩:=hb.open_ va
 injection e0 with e0;injection e1 with e1;injection e3 with e3
 injection e2 with x2 e2;injection e2 with x3 e2;injection e2 with x4 e2;injection e2 with x5 e2;injection e2 with x6 e2
 subst e0 e1 e3 x2 x3 x4 x5 x6;exact⟨⟨s0,l,.mk op nm n a kids,s3⟩,_,_,_,_,_,_,_,rfl,hll,hb0,b0⟩
theorem PQ{H:Type}{h:Hp}{xs:List AV}{d:DataW H}(r:Rd Tryz.prog h 23 xs d): ∃ks l ls,xs=[ks]∧ET h l ks ls:=DM ⟨[],[],.mk [] [] 0 0 [],0⟩ xw BP.2.1 (fun cs d r=>SY r) r
theorem SX{H:Type}{h:Hp}{xs:List AV}{d:DataW H}(r:Rd Tryz.prog h 28 xs d): ∃k:Pg,Sg h k xs:=by
 obtain⟨f0,f1,f2,u,⟨t0,o0⟩,⟨t1,o1⟩,⟨t2,o2⟩⟩:=zt;obtain⟨hl,hd⟩:=C7 u r;rw[BP.2.2.1]at hl
 obtain⟨a0,a1,a2,a3,a4,a5,a6,rfl⟩: ∃a0 a1 a2 a3 a4 a5 a6,xs=[a0,a1,a2,a3,a4,a5,a6]:=by
  match xs,hl with
  |[a0,a1,a2,a3,a4,a5,a6],_=>exact⟨_,_,_,_,_,_,_,rfl⟩
 obtain⟨d0,r0⟩:=hd 0 f0 rfl;obtain⟨d1,r1⟩:=hd 1 f1 rfl;obtain⟨d2,r2⟩:=hd 2 f2 rfl;rw[t0,o0,BP.2.2.2.1]at r0;rw[t1,o1,BP.2.2.2.2]at r1;rw[t2,o2,Pr]at r2;obtain⟨ks0,l0,ls0,e0,hl0⟩:=Nc r0;obtain⟨ks1,l1,ls1,e1,hl1⟩:=PQ r1;obtain⟨⟨op,nm,n,a,kids⟩,hb⟩:=DN r2;have hb:UN h (.mk op nm n a kids) [a2,a3,a4,a5,a6]:=hb;have hb0:=hb;obtain⟨kk,e2,_⟩:=hb.open_ va
 injection e0 with e0;injection e1 with e1
 injection e2 with x2 e2;injection e2 with x3 e2;injection e2 with x4 e2;injection e2 with x5 e2;injection e2 with x6 e2
 subst e0 e1 x2 x3 x4 x5 x6;exact⟨⟨l0,l1,.mk op nm n a kids⟩,_,_,_,_,_,_,_,_,_,rfl,hl0,hl1,hb0⟩
theorem Db{H:Type}{enc:TypeId×Value→H}{W:World}{ml:Iu}(hM:X6 W ml){v:Value}{d:DataW H}{p:List MemPlace}(h:DataW.Trod enc Tryz.prog W 0 (fun _=>true) true 28 v d p):
  ∃ml' cs k,ml<+:ml'∧X6 W ml'∧Sg (Fm ml') k cs∧WF (Fm ml') (.agg cs)∧Qc (Lq ml') (.agg cs)=v:=by
 obtain⟨fuel,h⟩:=h;obtain⟨ml',cs,h1,h2,h3,h4,h5,h6⟩:=lift _ CE fuel 28 _ d p ml (by simp) h hM;obtain⟨k,hk⟩:=SX h6;refine⟨ml',cs,k,h1,h2,hk,h4,?_⟩;obtain⟨e1,e2⟩:=LG h3 h5
 by_cases hv: ∃cs,v=.agg cs
 ·exact e1 hv
 ·obtain⟨a,rfl,_⟩:=e2 fun cs e=>hv ⟨cs,e⟩;obtain⟨_,_,_,_,_,_,_,_,_,e,_⟩:=hk;cases e
end Go.Proofs.YtadjjadimlkkgaaGreatDoor
