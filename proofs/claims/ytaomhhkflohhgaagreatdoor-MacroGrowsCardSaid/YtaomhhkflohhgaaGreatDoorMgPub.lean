/-
  free.Put: terms put for names; what is put is new, or stands in rows that are said.
-/
import Derived.Test.YtaomhhkflohhgaaGreatDoorMgRun
set_option maxHeartbeats 8000000
set_option maxRecDepth 100000
set_option linter.unnecessarySimpa false
set_option linter.unusedSimpArgs false
set_option linter.unusedVariables false
namespace Go.Proofs.YtaomhhkflohhgaaGreatDoor
open Go Go.RowKit
section
variable {R:Xh} {a z:Int} {bl:List (List Nat)} {l:List Nd} {o s:List Nat} {st:St}

theorem MH{h0:Hp}{n0:Nat}{L A B:JJ}{ks:AV}{l:List (List Nat)}(hM:Mem h0 n0 [] st (L++(A++B)))(hA:Acc n0 1 A ks (Xq l)):
  ∃v st' A',Ev Tryz.prog QR 120 [ks] st v st'∧FL n0 A' v (AM l)∧Mem h0 n0 [] st' (L++(A'++B)):=by
 have hb:=hA.YZ;rw[J5]at hb;generalize hg:Xq l=ls at hA;have hcn:AM []=[]:=List.length_eq_zero_iff.1 (Nat.le_zero.1 (La []))
 cases hA with
 |none=>
  have hl:l=[]:=by
   have h:=congrArg List.length hg;rw[J5]at h;exact List.length_eq_zero_iff.1 h
  subst hl;exact⟨.nils,st,[],Oj (V0:=id) (F:=H4) (V:=L7) rfl hM.fresh,by rw[hcn];exact .none,hM⟩
 |own hc hz hb'=>
  rename_i c m;subst hg
  by_cases hl:l=[]
  ·subst hl;refine⟨.sl c m 0 0 1,st,_,Oi (V0:=id) (F:=H4) (V:=L7) rfl hM.fresh c m,?_,hM⟩;rw[hcn];exact .own (l:=[]) (rest:=[]) hc Q3
  ·have hrow:=hM.xg (c:=c) (m:=m) (l:=(Xq l).flatten) Q3
   have hs:E0 (Xq l).flatten=some (l.map OH):=by rw[Fe];exact HG l
   obtain⟨v,st',h1,rfl,h3,h4⟩:=Be (F:=H4) (V:=L7) (V0:=id) (G:=QR) (P:=Tryz.prog) (f:=120) rfl hM.fresh hrow hs (by simpa using hl) (by simpa using hb) (by have:=A6 (l.map OH);simp only[H4,List.length_append,List.length_replicate];omega);refine⟨L7 c m (l.map OH),st',[(c,m,(H4 (l.map OH)).map Pp)],?_,?_,Mem.uX (L:=L) (B:=B) hM h4 h3⟩
   ·rw[J5];rw[List.length_map]at h1;exact h1
   ·have e:(H4 (l.map OH)).map Pp=(Xq (AM l)).flatten++(List.replicate ((l.map OH).length-(Lib.compact (l.map OH)).length) []).map Pp:=by
     rw[H4,List.map_append,Fe,AM,List.map_map];rfl
    rw[e]
    have hn:(AM l).length=(Lib.compact (l.map OH)).length:=by simp[AM]
    have:=FL.own (n0:=n0) (c:=c) (m:=m) (l:=AM l) (rest:=(List.replicate ((l.map OH).length-(Lib.compact (l.map OH)).length) []).map Pp) hc (Nat.le_trans (La l) hb);rw[hn]at this;exact this
theorem XN(x:Nd):(Ud x).length≤Uj x:=by
 have h1:=La (AI (QE x []));have h2:=NI x [];rw[EH]at h1;exact Nat.le_trans h1 h2
theorem jD{α:Type} [DecidableEq α]: ∀(l1 l2:List α),l1.Nodup→(∀x∈l1,x∈l2)→l1.length≤l2.length:=by
 intro l1
 induction l1 with
 |nil=>intro l2 _ _;exact Nat.zero_le _
 |cons a l1 ih=>
  intro l2 hn hs;obtain⟨h1,h2⟩:=List.nodup_cons.1 hn;have ha:=hs a (List.mem_cons_self ..);have:=ih (l2.erase a) h2 fun x hx=>(List.mem_erase_of_ne (by intro e;subst e;exact h1 hx)).2 (hs x (List.mem_cons_of_mem _ hx));rw[List.length_erase_of_mem ha]at this;have:=List.length_pos_of_mem ha;simp only[List.length_cons];omega
def Z5(s:List Nat)(k:Nat):List Nat:=s++List.replicate k 39
theorem Ak(s:List Nat):Z5 s 0=s:=by simp[Z5]
theorem BD(s:List Nat)(k:Nat):Z5 s k++[39]=Z5 s (k+1):=by
 unfold Z5;rw[List.append_assoc,List.replicate_succ']
theorem Ek(s:List Nat)(k:Nat):(Z5 s k).length=s.length+k:=by simp[Z5]
theorem BE{k:Nat}(h: ∀j,j<k→F4 (Z5 s j) bl=true):k≤bl.length:=by
 have h1:=jD ((List.range k).map (Z5 s)) bl (by
  rw[List.nodup_iff_pairwise_ne,List.pairwise_map];refine List.Pairwise.imp (fun{a b} hab e=>?_) List.pairwise_lt_range;have:=congrArg List.length e;rw[Ek,Ek]at this
  omega) fun x hx=>by
   obtain⟨j,hj,rfl⟩:=List.mem_map.1 hx;exact Ka.1 (h j (List.mem_range.1 hj))
 simpa using h1
theorem By{f:Nat}(h:F4 s bl=true):Yz bl (f+1) s=Yz bl f (s++[39]):=by rw[Yz,if_pos h]
theorem Bx{f:Nat}(h:F4 s bl=false):Yz bl (f+1) s=s:=by rw[Yz,if_neg (by rw[h];decide)]
theorem Mc(s:List Nat): ∀(ns:List (List Nat)) (ts:List Nd) (k:Nat),(Xa (fun y=>decide (s=y)) ns k<0→Jt ns ts s=none)∧(0≤Xa (fun y=>decide (s=y)) ns k→(k:Int)≤Xa (fun y=>decide (s=y)) ns k∧Jt ns ts s=ts[(Xa (fun y=>decide (s=y)) ns k-k).toNat]?):=by
 intro ns
 induction ns with
 |nil=>intro ts k;rw[Xa];exact⟨fun _=>NO _ _,fun h=>absurd h QT⟩
 |cons n ns ih=>
  intro ts k;rw[Xa]
  by_cases e:s=n
  ·subst e;rw[if_pos Q3];refine⟨fun h=>absurd h Qh,fun _=>⟨Int.le_refl _,?_⟩⟩
   cases ts with
   |nil=>rw[show Jt (s::ns) [] s=none from rfl];simp
   |cons t ts=>rw[Jt,if_pos rfl];simp
  ·rw[if_neg (by simpa using e)]
   cases ts with
   |nil=>
    obtain⟨h1,h2⟩:=ih [] (k+1);refine⟨fun _=>rfl,fun h=>?_⟩;obtain⟨h3,_⟩:=h2 h;refine⟨by omega,by rw[show Jt (n::ns) [] s=none from rfl];simp⟩
   |cons t ts=>
    obtain⟨h1,h2⟩:=ih ts (k+1);rw[Jt,if_neg (fun h=>e h.symm)];refine⟨h1,fun h=>?_⟩;obtain⟨h3,h4⟩:=h2 h;refine⟨by omega,?_⟩;rw[h4]
    have:(Xa (fun y=>decide (s=y)) ns (k+1)-(k:Int)).toNat=(Xa (fun y=>decide (s=y)) ns (k+1)-((k+1:Nat):Int)).toNat+1:=by omega
    rw[this,List.getElem?_cons_succ]
def wZ(R:Xh)(r:Option Nd)(v:AV):Prop:= ∃o s z a kk b,v=.tup [.agg [.str o,.str s,.int .i64 z,.int .i64 a,kk],.bool b]∧(∃n,XI kk=some n)∧((b=true∧ ∃l,r=some (.mk o s z a l)∧Uo R (.mk o s z a l) [.str o,.str s,.int .i64 z,.int .i64 a,kk])∨(b=false∧r=none))
theorem jH{st0 st':St}{M A B:JJ}(hM:Mem st0.h.get st0.n [] st' M){α:Type}{f:α→Nd}{l:List α}{lsn:List (List AV)}{ks:AV}(hA:Acc st0.n 5 A ks lsn)(hmap:Xp (JX R B) f l lsn)(hn:lsn.length=l.length)(hsub:(A++B).Sublist M)(hb:Bytes o∧Bytes s):
  JG R st0 st' (.mk o s z a (l.map f)) (.agg [.str o,.str s,.int .i64 z,.int .i64 a,ks]):=by
 refine⟨o,s,z,a,l.map f,ks,A++B,rfl,rfl,hM.KI hsub,?_⟩;refine((hmap.kids hn hA).mono ?_).node hb;intro c m x h;rcases h with(h|h)|h
 ·exact .inl h
 ·exact .inr (List.mem_append_right _ h)
 ·exact .inr (List.mem_append_left _ h)
theorem JG.same{st0 st':St}{M:JJ}{kk:AV}(hM:Mem st0.h.get st0.n [] st' M)(hr:Uo R (.mk o s z a l) [.str o,.str s,.int .i64 z,.int .i64 a,kk]):JG R st0 st' (.mk o s z a l) (.agg [.str o,.str s,.int .i64 z,.int .i64 a,kk]):=
 ⟨o,s,z,a,l,kk,[],rfl,rfl,hM.KI (List.nil_sublist _),hr.mono fun _ _ _ h=>.inl h⟩
theorem Uo.again{s':List Nat}{a':Int}{kk:AV}(r:Uo R (.mk o s z a l) [.str o,.str s,.int .i64 z,.int .i64 a,kk])(hb:Bytes s'):Uo R (.mk o s' z a' l) [.str o,.str s',.int .i64 z,.int .i64 a',kk]:=by
 obtain⟨kk',ls,e,K,hb',_⟩:=r.Jn
 injection e with _ e
 injection e with _ e
 injection e with _ e
 injection e with _ e
 injection e with e _
 subst e;exact K.node ⟨hb',hb⟩
theorem BB: ∀l:List Nd,l.length≤FN l
 |[]=>Nat.zero_le _
 |k::l=>by have h1:=IG k;have h2:=BB l;rw[FN,List.length_cons];omega
def Yp:Nd→Int
 |.mk op _ n _ [k]=>if op=[112,108,117,115]then n+Yp k else n
 |.mk _ _ n _ _=>n
termination_by x=>Uj x
decreasing_by
 simp_wf
 rw[Uj,FN,FN];omega
def okB(C:Int)(x:Nd):Bool:=match x with
 |.mk op name n a kids=>decide (((name.length:Nat):Int)≤1000 *C)&&(decide (0≤n)&&(decide (Yp (.mk op name n a kids)≤C)&&((!(decide (op=[101,120])||decide (op=[97,108,108]))||decide (kids.length=1))&&kids.attach.all fun k=>okB C k.1)))
termination_by Uj x
decreasing_by
 all_goals
  simp_wf
  have:=Z4 k.2;rw[Uj];omega
theorem BT(C:Int)(op name:List Nat)(n a:Int)(kids:List Nd):okB C (.mk op name n a kids)=(decide (((name.length:Nat):Int)≤1000 *C)&&(decide (0≤n)&&(decide (Yp (.mk op name n a kids)≤C)&&((!(decide (op=[101,120])||decide (op=[97,108,108]))||decide (kids.length=1))&&kids.all (okB C))))):=by
 rw[okB,Vv kids (okB C)]
theorem Zp(op name:List Nat)(n a:Int)(k:Nd):Yp (.mk op name n a [k])=if op=[112,108,117,115]then n+Yp k else n:=by rw[Yp]
theorem UE{op name:List Nat}{n:Int}{kids:List Nd}(h:op≠[112,108,117,115]∨kids.length≠1):Yp (.mk op name n a kids)=n:=by
 match kids with
 |[]=>rw[Yp];intro k e;cases e
 |[k]=>
  rw[Zp];rcases h with h|h
  ·rw[if_neg h]
  ·exact absurd rfl h
 |_::_::_=>rw[Yp];intro k e;cases e
theorem FU{C:Int}(x:Nd):okB C x=true→0≤x.num∧x.num≤Yp x:=by
 refine Uz (M:=fun x=>okB C x=true→0≤x.num∧x.num≤Yp x) (fun op name n a kids ih h=>?_) x;rw[BT]at h;simp only[Bool.and_eq_true,decide_eq_true_eq,List.all_eq_true]at h;show 0≤n∧n≤Yp (.mk op name n a kids);refine⟨h.2.1,?_⟩
 by_cases hp:op≠[112,108,117,115]∨kids.length≠1
 ·rw[UE hp];exact Int.le_refl _
 ·match kids,ih,h,hp with
  |[k],ih,h,hp=>
   have h1:=ih k Q3 (h.2.2.2.2 k Q3);rw[Zp]
   split<;>omega
  |[],_,_,hp=>exact absurd (.inr Q3) hp
  |_::_::_,_,_,hp=>exact absurd (.inr Q3) hp
theorem Zo{C:Int}{op name:List Nat}{n:Int}{kids:List Nd}(h:okB C (.mk op name n a kids)=true):((name.length:Nat):Int)≤1000 *C∧0≤n∧n≤C∧((op=[101,120]∨op=[97,108,108])→kids.length=1)∧(∀k∈kids,okB C k=true)∧Yp (.mk op name n a kids)≤C:=by
 have h0:=FU _ h;rw[BT]at h;simp only[Bool.and_eq_true,decide_eq_true_eq,List.all_eq_true]at h;have h0:0≤n∧n≤Yp (.mk op name n a kids):=h0;refine⟨h.1,h.2.1,by omega,fun ho=>?_,h.2.2.2.2,h.2.2.1⟩;have h4:=h.2.2.2.1
 have:(decide (op=[101,120])||decide (op=[97,108,108]))=true:=by simpa using ho
 rw[this]at h4
 simpa using h4

theorem MF(R:Xh)(x:Nd): ∀(st:St) (cs:List AV),Qw st→ZM R st.h.get→Uo R x cs→Uj x≤1000000→ ∃v st',Ev Tryz.prog QR 93 [.agg cs] st v st'∧JG R st st' x v∧Qt st st':=by
 refine Uz (M:=fun x=> ∀(st:St) (cs:List AV),Qw st→ZM R st.h.get→Uo R x cs→Uj x≤1000000→ ∃v st',Ev Tryz.prog QR 93 [.agg cs] st v st'∧JG R st st' x v∧Qt st st') (fun o s z a l ih=>?_) x;intro st cs hf hR hr hsz;have hr0:=hr;obtain⟨kk,ls,rfl,hK,hb⟩:=hr.Jn;have hln:=hK.ln;have hbn:=hK.YZ;rw[Uj]at hsz;have hsl:=BB l;refine Yu Tryz.func93 Tryz.ntmps93 fun T K=>?_;have M:=Mem.start hf;refine Qc 0 K M fun _ K=>?_;refine J3 K M rfl (Qa rfl (Qa rfl (Qa rfl (Qa rfl (Qa hK.cell Qo))))) QT fun c1 _ _ K M=>?_;refine au 4 K M ?_;intro c2 _ _ K _ M;refine p1 K (Jg QI rfl rfl hK.len) fun _ K=>?_;refine Qc 1 K M fun _ K=>?_;refine JQ (fun mm1 T st9=> ∃(i:Nat) (ks:AV) (A:JJ) (B:JJ) (lsn:List (List AV)),mm1=l.length-i∧Jr [(1,.ptr c1 0 0),(2,.ptr c2 0 0),(3,ks),(7,kk),(8,iZ (l.length:Nat)),(9,iN i)] T∧Mem st.h.get st.n [] st9 ((c2,0,[.str [],.str [],iZ 0,iZ 0,.nils])::(c1,0,[.str o,.str s,iZ z,iZ a,kk])::(A++(B++[])))∧Acc st.n 5 A ks lsn∧i≤l.length∧lsn.length=i∧Xp (JX R B) (fun k=>k) l lsn) (fun mm1 T st9 hI=>?_) _ _ _ ⟨0,.nils,[],[],[],rfl,(K.sub rfl),M.less (.refl _),.none,(Nat.zero_le _),rfl,.nil⟩;obtain⟨i,ks,A,B,lsn,rfl,K,M,hA,hi,hlen,hmap⟩:=hI;refine Qc 1 K M fun _ K=>?_;refine Xj K rfl (fun h10=>?_) fun h10=>?_
 ·refine Qc 0 K M fun _ K=>?_;obtain⟨⟨o11,s11,z11,a11,l11⟩,hi11⟩: ∃k,l[i]? =some k:=⟨_,List.getElem?_eq_getElem Qh⟩;have hm11:=U7 hi11;obtain⟨_,hc11,hn11⟩:=hK.get hi11;have hp11:=hn11;obtain⟨kk11,ls11,rfl,hK11,hb11⟩:=hp11.Jn;refine OJ (hK.r (M.ZM hR)) hc11 K Jf Qv rfl rfl fun _ _ _ _ K=>?_;refine au 1 K M ?_;intro c5 _ _ K _ M;refine Qz (k:=0) K M rfl rfl rfl Qi rfl (Qa rfl (Qa rfl (Qa rfl (Qa rfl (Qa hK11.cell Qo))))) rfl fun _ M=>?_;refine Qc 2 K M fun _ K=>?_;obtain⟨v15,st15,ev15,⟨on15,sn15,zn15,an15,ln15,kkn15,A15,en15,rfl,hS15,hN15⟩,q15⟩:=ih _ hm11 _ _ M.fresh (M.ZM hR) hn11 (by have:=Z4 hm11;omega);refine p1 K (Qe rfl ev15) fun _ K=>?_;replace M:=M.YN q15 hS15;replace M:=Mem.cast (M':=((c5,0,[.str o11,.str s11,iZ z11,iZ a11,kk11])::(c2,0,[.str [],.str [],iZ 0,iZ 0,.nils])::(c1,0,[.str o,.str s,iZ z,iZ a,kk])::(A++((B++A15)++[])))) M Za;refine Fb K M QC Jc rfl rfl (Qa rfl (Qa rfl (Qa rfl (Qa rfl (Qa hN15.cell Qo))))) rfl rfl fun c16 _ _ K M=>?_;refine ZW (k2:=0) (L:=[(c16,0,[.str on15,.str sn15,iZ zn15,iZ an15,kkn15]),(c5,0,[.str o11,.str s11,iZ z11,iZ a11,kk11]),(c2,0,[.str [],.str [],iZ 0,iZ 0,.nils]),(c1,0,[.str o,.str s,iZ z,iZ a,kk])]) (B:=((B++A15)++[])) K M hA QC rfl rfl rfl rfl Qh rfl fun ks17 A17 _ _ K hA17 M=>?_;refine Qc 3 K M fun _ K=>?_;exact⟨_,Qh,i+1,ks17,A17,B++A15,(lsn++[[.str on15,.str sn15,iZ zn15,iZ an15,kkn15]]),rfl,(K.sub rfl),M.less (.cons _ (.cons _ (.refl _))),hA17,Qh,(by rw[List.length_append];simp;omega),(hmap.snoc hlen hi11 hN15)⟩
 refine Jx ?_;show W _ _ _ _ _ _ _;refine Qc 2 K M fun _ K=>?_;refine Ws (k:=1) K M rfl rfl rfl YF (hA.cell) rfl fun _ M=>?_;refine Qc 1 K M fun _ K=>?_;refine Qz (k:=0) K M rfl rfl rfl Qi rfl (Qa rfl (Qa rfl (Qa rfl (Qa rfl (Qa hA.cell Qo))))) rfl fun _ M=>?_;refine Qc 0 K M ?_;refine⟨?_,M.qt⟩;have hnn:=jH (o:=o) (s:=s) (z:=z) (a:=a) M hA hmap Qh (.cons _ (.cons _ (List.Sublist.trans (List.sublist_append_left (A++B) []) (by rw[List.append_assoc];exact .refl _)))) hb;rw[List.map_id' l]at hnn;exact hnn

theorem Dl{ns:List (List Nat)}{ts:List Nd}{kn kt:AV}{lts:List (List AV)}(hf:Qw st)(hR:ZM R st.h.get)(hN:QS st.h.get [] 1 (Xq ns) kn)(hTs:UO R ts kt lts)(s:List Nat): ∃v st',Ev Tryz.prog QR 92 [.agg [kn,kt],.str s] st v st'∧wZ R (Jt ns ts s) v∧Qt st st':=by
 have hbn:=hTs.YZ;have hln:=hTs.ln;refine Yu Tryz.func92 Tryz.ntmps92 fun T K=>?_;have M:=Mem.start hf;refine Qc 0 K M fun _ K=>?_;refine J3 K M rfl (Qa hN.cell (Qa hTs.cell Qo)) QT fun c2 _ _ K M=>?_;refine au 5 K M ?_;intro c4 _ _ K _ M;obtain⟨ix,hix⟩: ∃ix,ix=Xa (fun y=>decide (s=y)) ns 0:=⟨_,rfl⟩;obtain⟨hx1,hx2⟩:=Mc s ns ts 0;rw[←hix]at hx1 hx2;obtain⟨v10,st10,ev10,e10,q10⟩:=Ng M.fresh (QS.mem M hN Q3) s;refine p1 K (Qe rfl ev10) fun _ K=>?_;rw[←hix]at e10;subst e10;replace M:=M.quiet q10;refine Qc 3 K M fun _ K=>?_;refine Eh K rfl (fun _ e13 K=>?_) fun _ e13 K=>?_
 ·refine Qc 3 K M fun _ K=>?_;refine pg K rfl rfl (Jg QI rfl rfl hTs.len) fun _ K=>?_;refine Qc 2 K M fun _ K=>?_;refine Xj K rfl (fun h19=>?_) fun h19=>?_
  ·refine au 3 K M ?_;intro _ _ K _ M;refine Jv ⟨.inr rfl,_,(U8 (JC K rfl (M.load (k:=0) rfl (QA Qv rfl))) (QF K rfl)),?_⟩;refine⟨⟨[],[],0,0,.nils,false,rfl,⟨0,rfl⟩,.inr ⟨rfl,?_⟩⟩,M.qt⟩
   by_cases hneg:ix<0
   ·exact hx1 hneg
   ·obtain⟨_,h9⟩:=hx2 Qh
    rw[h9];exact List.getElem?_eq_none (by simp_all<;>omega)
  refine Qc 3 K M fun _ K=>?_;obtain⟨⟨o24,s24,z24,a24,l24⟩,hi24⟩: ∃k,ts[ix.toNat]? =some k:=⟨_,List.getElem?_eq_getElem Qh⟩;have hm24:=U7 hi24;obtain⟨_,hc24,hn24⟩:=hTs.get hi24;have hp24:=hn24;obtain⟨kk24,ls24,rfl,hK24,hb24⟩:=hp24.Jn;obtain⟨x24,m24,f24,q24,_,la24,lo24,lp24⟩:=(hTs.r (M.ZM hR)).load (i:=ix.toNat) (cs:=_) hc24;refine p1 K (Q5 (j:=ix.toNat) Jf (congrArg some q24) (congrArg (fun z=>some (iZ z)) (by omega:_=((ix.toNat:Nat):Int))) (by rw[hTs.ln];omega)) fun _ K=>p1 K (QW rfl (la24 _ Qv)) fun _ K=>?_;refine Qz (k:=0) K M rfl rfl rfl Qi rfl (Qa rfl (Qa rfl (Qa rfl (Qa rfl (Qa hK24.cell Qo))))) rfl fun _ M=>?_;refine Qc 1 K M fun _ K=>?_;refine Jv ⟨.inr rfl,_,(U8 (JC K rfl (M.load (k:=0) rfl (QA Qv rfl))) (QF K rfl)),?_⟩;refine⟨⟨_,_,_,_,_,true,rfl,⟨_,hK24.len⟩,.inl ⟨rfl,_,?_,hn24⟩⟩,M.qt⟩
  obtain⟨_,h9⟩:=hx2 (by simp_all<;>omega)
  rw[h9,←hi24]
  congr 1;omega
 refine au 10 K M ?_;intro _ _ K _ M;refine Jv ⟨.inr rfl,_,(U8 (JC K rfl (M.load (k:=0) rfl (QA Qv rfl))) (QF K rfl)),?_⟩;refine⟨⟨[],[],0,0,.nils,false,rfl,⟨0,rfl⟩,.inr ⟨rfl,?_⟩⟩,M.qt⟩
 by_cases hneg:ix<0
 ·exact hx1 hneg
 ·obtain⟨_,h9⟩:=hx2 Qh
  rw[h9];exact List.getElem?_eq_none (by simp_all<;>omega)

theorem X0(bl:List (List Nat)): ∀(f:Nat) (s:List Nat),∃k,k≤f∧Yz bl f s=Z5 s k
 |0,s=>⟨0,Nat.le_refl _,by rw[Yz,Ak]⟩
 |f+1,s=>by
  rw[Yz]
  split
  ·obtain⟨k,hk,h⟩:=X0 bl f (s++[39]);refine⟨k+1,by omega,?_⟩;rw[h];unfold Z5;rw[List.append_assoc,List.replicate_succ];rfl
  ·exact⟨0,Nat.zero_le _,(Ak s).symm⟩
theorem E1(h:Bytes s)(k:Nat):Bytes (Z5 s k):=by
 intro x hx;rcases List.mem_append.1 hx with hx|hx
 ·exact h x hx
 ·have:=(List.mem_replicate.1 hx).2;omega
theorem zM:Bytes [118]:=by unfold Bytes;decide
theorem Ve(cnt:List Nat→Int)(h:Bytes s)(bl:List (List Nat)):Bytes (ZP cnt s bl):=by
 unfold ZP
 split
 ·obtain⟨k,_,e⟩:=X0 bl (bl.length+1) [118];rw[e];exact E1 zM k
 ·obtain⟨k,_,e⟩:=X0 bl (bl.length+1) s;rw[e];exact E1 h k

theorem HE{cs:List AV}(hf:Qw st)(hr:XE st.h.get (.mk o s z a l) cs)(hsz:Uj (.mk o s z a l)≤1000000): ∃v st',Ev Tryz.prog QR 108 [.agg cs] st v st'∧vI st st' v (Ud (.mk o s z a l))∧Qt st st':=by
 have hr0:=hr;obtain⟨kk,ls,rfl,hK,hb⟩:=hr.Jn;have hln:=hK.ln;have hbn:=hK.YZ;refine Yu Tryz.func108 Tryz.ntmps108 fun T K=>?_;have M:=Mem.start hf;refine Qc 0 K M fun _ K=>?_;refine J3 K M rfl (Qa rfl (Qa rfl (Qa rfl (Qa rfl (Qa hK.cell Qo))))) QT fun c1 _ _ K M=>?_;refine Qc 2 K M fun _ K=>?_;obtain⟨v5,st5,ev5,ks5,rfl,nr5,q5⟩:=jJ _ [] .nils true _ _ M.fresh (hr0.mono M.rows) (QS.nil _ _ _) (.inl ⟨rfl,rfl⟩) (by simpa using hsz);refine p1 K (Qe rfl ev5) fun _ K=>?_;obtain⟨A5,hA5,M⟩:=M.Wp q5 nr5;refine Qc 2 K M fun _ K=>?_;obtain⟨v7,st7,A7,ev7,rfl,M7,hA7⟩:=qD (L:=[(c1,0,[.str o,.str s,iZ z,iZ a,kk])]) (B:=[]) M hA5;refine p1 K (Qe rfl ev7) fun _ K=>?_;replace M:=M7;refine Qc 1 K M fun _ K=>?_;obtain⟨v9,st9,A9,ev9,hA9,M9⟩:=MH (L:=[(c1,0,[.str o,.str s,iZ z,iZ a,kk])]) (B:=[]) M hA7;refine p1 K (Qe rfl ev9) fun _ K=>?_;replace M:=M9;refine Qc 1 K M ?_;exact⟨Mem.eK (L:=[(c1,0,[.str o,.str s,iZ z,iZ a,kk])]) (B:=[]) M hA9,M.qt⟩

theorem Gq(hf:Qw st){kb:AV}(hB:QS st.h.get [] 1 (Xq bl) kb)(s:List Nat)(hs:s.length≤100000000)(hl:bl.length≤500000): ∃v st',Ev Tryz.prog QR 121 [.str s,kb] st v st'∧v=.str (Yz bl (bl.length+1) s)∧Qt st st':=by
 have hcl:=J5 bl;refine Yu Tryz.func121 Tryz.ntmps121 fun T K=>?_;have M:=Mem.start hf;refine Qc 1 K M fun _ K=>?_;refine JQ (fun mm1 T st9=> ∃(k:Nat) (x:List Nat),mm1=bl.length+1-k∧Jr [(0,.str x),(1,kb),(4,.str [])] T∧Mem st.h.get st.n [] st9 []∧x=Z5 s k∧(∀j,j<k→F4 (Z5 s j) bl=true)∧Yz bl (bl.length+1) s=Yz bl (bl.length+1-k) x) (fun mm1 T st9 hI=>?_) _ _ _ ⟨0,s,rfl,(K.sub rfl),M.less (.refl _),(Ak s).symm,(fun j hj=>absurd hj (Nat.not_lt_zero j)),rfl⟩;obtain⟨k,x,rfl,K,M,hxk,hj,hx⟩:=hI
 have hxl:x.length=s.length+k:=by rw[hxk,Ek]
 have hkm:=BE hj;refine Qc 2 K M fun _ K=>?_;refine oQ K M (Vw M.fresh (QS.mem M hB Q3) x) rfl rfl fun _ _ K M=>?_;refine Qc 0 K M fun _ K=>?_;refine JU K rfl (fun h7=>?_) fun h7=>?_
 ·have hb7:=h7;refine Qc 1 K M fun _ K=>?_;refine p1 K (UW (b:=[39]) rfl rfl (by first|omega|(simp only[List.length_append,List.length_cons,List.length_nil];omega))) fun _ K=>?_;refine Qc 1 K M fun _ K=>?_;exact⟨_,Qh,k+1,x++[39],rfl,(K.sub rfl),M.less (.refl _),(by rw[hxk,BD]),(fun j hj'=>by rcases Nat.lt_succ_iff_lt_or_eq.1 hj' with h|h;exact hj j h;(subst h;rw[←hxk];exact h7)),(by rw[hx,show bl.length+1-k=(bl.length+1-(k+1))+1 by omega,By h7])⟩
 have hb7:=h7;refine Jx ?_;show W _ _ _ _ _ _ _;refine Qc 2 K M ?_;exact⟨by rw[hx,show bl.length+1-k=(bl.length+1-(k+1))+1 by omega,Bx h7],M.qt⟩

theorem ur(hf:Qw st){kb:AV}(hB:QS st.h.get [] 1 (Xq bl) kb)(s:List Nat)(hs:s.length≤100000000)(hl:bl.length≤500000)(hb:Bytes s): ∃v st',Ev Tryz.prog QR 110 [.str s,kb] st v st'∧v=.str (ZP Zm s bl)∧Qt st st':=by
 have hcl:=J5 bl;obtain⟨ku,hku,heu⟩:=X0 bl (bl.length+1) s;refine Yu Tryz.func110 Tryz.ntmps110 fun T K=>?_;have M:=Mem.start hf;refine Qc 3 K M fun _ K=>?_;refine oQ K M (Gq M.fresh (QS.mem M hB Q3) s (by first|omega|decide) hl) rfl rfl fun _ _ K M=>?_;refine Qc 2 K M fun _ K=>?_;refine oQ K M (CX M.fresh ((Yz bl (bl.length+1) s)) (by rw[heu];exact E1 hb ku) (by rw[heu,Ek];omega)) rfl rfl fun _ _ K M=>?_;refine Qc 1 K M fun _ K=>?_;refine Xj K rfl (fun h11=>?_) fun h11=>?_
 ·refine Qc 1 K M fun _ K=>?_;refine oQ K M (Gq M.fresh (QS.mem M hB Q3) [118] (by first|omega|decide) hl) rfl rfl fun _ _ K M=>?_;refine Qc 1 K M ?_;exact⟨by rw[ZP,if_pos h11],M.qt⟩
 refine Qc 2 K M ?_;exact⟨by rw[ZP,if_neg h11],M.qt⟩
end
section
variable {ns:List (List Nat)} {ts:List Nd}

def ec(R:Xh)(st st':St)(pl:List (List Nat×Nd))(v:AV):Prop:= ∃kx ky A B lsn,v=.agg [kx,ky]∧Acc st.n 1 A kx (Xq (pl.map Prod.fst))∧Acc st.n 5 B ky lsn∧lsn.length=pl.length∧Xp R Prod.snd pl lsn∧P3 st.n st' (A++B)
theorem N9(ns:List (List Nat))(ts:List Nd)(but y:List Nat)(r:List (List Nat)):Xw ns ts but (y::r)=(if y=but then []else match Jt ns ts y with|some t=>[(y,t)]|none=>[])++Xw ns ts but r:=by
 unfold Xw;rw[List.filterMap_cons]
 split
 ·rename_i h
  split at h
  ·rename_i e;rw[if_pos e];rfl
  ·rename_i e;rw[if_neg e]
   cases h2:Jt ns ts y with
   |none=>rfl
   |some t=>rw[h2]at h;cases h
 ·rename_i b h
  split at h
  ·cases h
  ·rename_i e;rw[if_neg e]
   cases h2:Jt ns ts y with
   |none=>rw[h2]at h;cases h
   |some t=>rw[h2]at h;injection h with h;subst h;rfl
theorem Wx{but y:List Nat}{l:List (List Nat)}{i:Nat}(h:l[i]? =some y):Xw ns ts but (l.drop i)=(if y=but then []else match Jt ns ts y with|some t=>[(y,t)]|none=>[])++Xw ns ts but (l.drop (i+1)):=by
 obtain⟨h1,h2⟩:=List.getElem?_eq_some_iff.1 h;rw[List.drop_eq_getElem_cons h1,h2,N9]
theorem Dn(ns:List (List Nat))(ts:List Nd)(but:List Nat)(l:List (List Nat)):(Xw ns ts but l).length≤l.length:=List.length_filterMap_le _ _
theorem GA{but:List Nat}{l:List (List Nat)}{p:List Nat×Nd}(h:p∈Xw ns ts but l):p.1∈l∧p.1≠but∧Jt ns ts p.1=some p.2:=by
 obtain⟨s,hs,h⟩:=List.mem_filterMap.1 h
 split at h
 ·cases h
 ·rename_i e;obtain⟨t,h1,rfl⟩:=Option.map_eq_some_iff.1 h;exact⟨hs,e,h1⟩
theorem YU{s:List Nat}{t:Nd}: ∀{ns:List (List Nat)} {ts:List Nd},Jt ns ts s=some t→t∈ts
 |[],ts,h=>by rw[NO]at h;cases h
 |n::ns,[],h=>by cases h
 |n::ns,t'::ts,h=>by
  rw[Jt]at h
  split at h
  ·injection h with h;subst h;exact List.mem_cons_self ..
  ·exact List.mem_cons_of_mem _ (YU h)
theorem jk{R:Xh}{kn kt:AV}{lts:List (List AV)}{st:St}(hf:Qw st)(hR:ZM R st.h.get)(hN:QS st.h.get [] 1 (Xq ns) kn)(hTs:UO R ts kt lts){o s:List Nat}{z a:Int}{l:List Nd}{cs:List AV}(hr:Uo R (.mk o s z a l) cs)(but:List Nat)(hsz:Uj (.mk o s z a l)≤500000): ∃v st',Ev Tryz.prog QR 107 [.agg [kn,kt],.agg cs,.str but] st v st'∧ec R st st' (Xw ns ts but (Ud (.mk o s z a l))) v∧Qt st st':=by
 have hr0:=hr;obtain⟨kk,ls,rfl,hK,hb⟩:=hr.Jn;have hln:=hK.ln;have hbn:=hK.YZ;have hfl:=XN (.mk o s z a l);refine Yu Tryz.func107 Tryz.ntmps107 fun T K=>?_;have M:=Mem.start hf;refine Qc 0 K M fun _ K=>?_;refine J3 K M rfl (Qa hN.cell (Qa hTs.cell Qo)) QT fun c3 _ _ K M=>?_;refine J3 K M rfl (Qa rfl (Qa rfl (Qa rfl (Qa rfl (Qa hK.cell Qo))))) QT fun c4 _ _ K M=>?_;refine au 3 K M ?_;intro c6 c7 _ _ K _ M;obtain⟨v13,st13,ev13,nr13,q13⟩:=HE M.fresh (hr0.AP (M.ZM hR)) Qh;refine p1 K (Qe rfl ev13) fun _ K=>?_;obtain⟨A13,hA13,M⟩:=M.O1 q13 nr13;replace M:=Mem.cast (M':=((c7,0,[.nils,.nils])::(c6,0,[.nils,.nils])::(c4,0,[.str o,.str s,iZ z,iZ a,kk])::(c3,0,[kn,kt])::(A13++[]))) M Za;refine p1 K (Jg XG rfl rfl hA13.len) fun _ K=>?_;refine Qc 1 K M fun _ K=>?_;refine JQ (fun mm1 T st9=> ∃(i:Nat) (pl:List (List Nat×Nd)) (ka:AV) (kb:AV) (A:JJ) (B:JJ) (lsn:List (List AV)),mm1=(Ud (.mk o s z a l)).length-i∧Jr [(2,.str but),(3,.ptr c3 0 0),(6,.ptr c6 0 0),(7,.ptr c7 0 0),(13,v13),(14,iZ ((Ud (.mk o s z a l)).length:Nat)),(15,iN i)] T∧Mem st.h.get st.n [] st9 ((c7,0,[ka,kb])::(c6,0,[.nils,.nils])::(c4,0,[.str o,.str s,iZ z,iZ a,kk])::(c3,0,[kn,kt])::(A13++(A++(B++[]))))∧Acc st.n 1 A ka (Xq (pl.map Prod.fst))∧Acc st.n 5 B kb lsn∧i≤(Ud (.mk o s z a l)).length∧lsn.length=pl.length∧Xp R Prod.snd pl lsn∧Xw ns ts but (Ud (.mk o s z a l))=pl++Xw ns ts but ((Ud (.mk o s z a l)).drop i)∧pl.length≤i) (fun mm1 T st9 hI=>?_) _ _ _ ⟨0,[],.nils,.nils,[],[],[],rfl,(K.sub rfl),M.less (.refl _),.none,.none,(Nat.zero_le _),rfl,(fun j k cs h1 h2=>by simp at h1),rfl,(Nat.le_refl _)⟩;obtain⟨i,pl,ka,kb,A,B,lsn,rfl,K,M,hA,hB,hi,hlen,hmap,hinv,hpi⟩:=hI;refine Qc 1 K M fun _ K=>?_;refine Xj K rfl (fun h16=>?_) fun h16=>?_
 ·refine Qc 0 K M fun _ K=>?_;obtain⟨y17,hi17⟩: ∃x,(Ud (.mk o s z a l))[i]? =some x:=⟨_,List.getElem?_eq_getElem Qh⟩;refine oI (Mem.Dk (L:=[(c7,0,[ka,kb]),(c6,0,[.nils,.nils]),(c4,0,[.str o,.str s,iZ z,iZ a,kk]),(c3,0,[kn,kt])]) (B:=(A++(B++[]))) M hA13) (B6 hi17) K Jz J0 rfl rfl rfl fun _ _ _ _ K=>?_;refine Qc 3 K M fun _ K=>?_;obtain⟨v22,st22,ev22,⟨o22,s22,z22,a22,kk22,bb22,rfl,⟨nk22,hc22⟩,hT22⟩,q22⟩:=Dl M.fresh (M.ZM hR) (QS.mem M hN Q3) hTs y17;refine p1 K (Qe rfl ev22) fun _ K=>?_;replace M:=M.quiet q22;refine au 4 K M ?_;intro c10 _ _ K _ M;refine Qz (k:=0) K M rfl rfl rfl Qi rfl (Qa rfl (Qa rfl (Qa rfl (Qa rfl (Qa (Vq hc22) Qo))))) rfl fun _ M=>?_;refine Qc 2 K M fun _ K=>?_;refine oB K (Q9 rfl) rfl fun b26 _ e26 K=>?_;cases b26
  ·refine Qc 7 K M fun _ K=>?_
   have hno:(if y17=but then []else match Jt ns ts y17 with|some t=>[(y17,t)]|none=>[])=([]:List (List Nat×Nd)):=by
    rcases hT22 with⟨h,l,h1,h2⟩|⟨h,h1⟩
    ·rw[if_pos (by simp_all)]
    ·rw[h1];split<;>rfl
   exact⟨_,Qh,i+1,pl,ka,kb,A,B,lsn,rfl,(K.sub rfl),M.less (.cons _ (.refl _)),(by first|exact hA|(rw[List.map_append,Vx];exact hA35)),(by first|exact hB|exact hA40),Qh,(by first|exact hlen|(simp only[List.length_append,hlen,List.length_cons,List.length_nil];done)),(by first|exact hmap|exact hmap.Np hlen hG22),(by first|(rw[hinv,Wx hi17,hno];rfl)|(rw[hinv,Wx hi17,if_neg (by simp_all),hL22,List.append_assoc];done)),(by first|omega|(rw[List.length_append];simp;omega))⟩
  refine Qc 4 K M fun _ K=>?_;refine C5 K rfl (fun h30=>?_) fun h30=>?_
  ·refine Ja (l:=[(0,0),(1,0),(2,0),(3,0),(4,0),(5,0),(6,1),(7,1),(8,0),(9,0),(10,0),(11,0),(12,0),(13,0)]) (by kernel_rfl) ?_;have Mq:=M;refine Ui 3 K M fun _ K=>?_;refine Z3 rfl K M UI EB rfl rfl rfl rfl rfl fun c34 _ _ K M=>?_;refine XT (k2:=0) (L:=((c34,0,[.str y17])::(c10,0,[.str o22,.str s22,iZ z22,iZ a22,kk22])::(c7,0,[ka,kb])::(c6,0,[.nils,.nils])::(c4,0,[.str o,.str s,iZ z,iZ a,kk])::(c3,0,[kn,kt])::(A13++[]))) (B:=(B++[])) rfl K (Mem.cast M Za) hA UI rfl rfl rfl rfl (by rw[J5,List.length_map];omega) rfl fun ks35 A35 _ _ K hA35 M=>?_;replace M:=Mem.cast (M':=((c34,0,[.str y17])::(c10,0,[.str o22,.str s22,iZ z22,iZ a22,kk22])::(c7,0,[ka,kb])::(c6,0,[.nils,.nils])::(c4,0,[.str o,.str s,iZ z,iZ a,kk])::(c3,0,[kn,kt])::(A13++(A35++(B++[]))))) M Za;have Mp:=Mq;have Mq:=M;refine Ui 1 K M fun _ K=>?_;refine QL rfl K rfl (M.load (k:=2) rfl (Qj Xt rfl)) (Mp.load (k:=1) rfl (Qj Xt rfl)) (J2 (Yc hB.len)) rfl QT fun _ K=>?_;refine QL rfl K rfl (M.load (k:=1) rfl (QA Qv rfl)) (Mp.load (k:=0) rfl (QA Qv rfl)) (X1 (by simp[ZQ,ZR,YX,Yc hc22])) rfl QT fun _ K=>?_;refine Z3 rfl K M QC Jc rfl rfl (Qa rfl (Qa rfl (Qa rfl (Qa rfl (Qa (Vq hc22) Qo))))) rfl rfl fun c39 _ _ K M=>?_;refine XT (k2:=0) (L:=((c39,0,[.str o22,.str s22,iZ z22,iZ a22,kk22])::(c34,0,[.str y17])::(c10,0,[.str o22,.str s22,iZ z22,iZ a22,kk22])::(c7,0,[ka,kb])::(c6,0,[.nils,.nils])::(c4,0,[.str o,.str s,iZ z,iZ a,kk])::(c3,0,[kn,kt])::(A13++(A35++[])))) (B:=[]) rfl K (Mem.cast M Za) hB QC rfl rfl rfl rfl Qh rfl fun ks40 A40 _ _ K hA40 M=>?_;replace M:=Mem.cast (M':=((c39,0,[.str o22,.str s22,iZ z22,iZ a22,kk22])::(c34,0,[.str y17])::(c10,0,[.str o22,.str s22,iZ z22,iZ a22,kk22])::(c7,0,[ka,kb])::(c6,0,[.nils,.nils])::(c4,0,[.str o,.str s,iZ z,iZ a,kk])::(c3,0,[kn,kt])::(A13++(A35++(A40++[]))))) M Za;have Mp:=Mq;have Mq:=M;refine Ui 1 K M fun _ K=>?_;refine Zt (k:=3) rfl K M rfl rfl rfl Fi (hA35.cell) rfl fun _ M=>?_;have Mp:=Mq;have Mq:=M;refine Ui 1 K M fun _ K=>?_;refine Zt (k:=3) rfl K M rfl rfl rfl YF (hA40.cell) rfl fun _ M=>?_;have Mp:=Mq;have Mq:=M;refine Ji ?_;show W _ _ _ _ _ _ _;refine Qc 2 K M fun _ K=>?_
   obtain⟨l22,hL22,hG22⟩: ∃l,Jt ns ts y17=some (.mk o22 s22 z22 a22 l)∧Uo R (.mk o22 s22 z22 a22 l) [.str o22,.str s22,iZ z22,iZ a22,kk22]:=by
    rcases hT22 with⟨_,l,h1,h2⟩|⟨h,_⟩
    ·exact⟨l,h1,h2⟩
    ·exfalso;simp_all
   exact⟨_,Qh,i+1,pl++[(y17,(Nd.mk o22 s22 z22 a22 l22))],ks35,ks40,A35,A40,(lsn++[[.str o22,.str s22,iZ z22,iZ a22,kk22]]),rfl,(K.sub rfl),M.less (.cons _ (.cons _ (.cons _ (.refl _)))),(by first|exact hA|(rw[List.map_append,Vx];exact hA35)),(by first|exact hB|exact hA40),Qh,(by first|exact hlen|(simp only[List.length_append,hlen,List.length_cons,List.length_nil];done)),(by first|exact hmap|exact hmap.Np hlen hG22),(by first|(rw[hinv,Wx hi17,hno];rfl)|(rw[hinv,Wx hi17,if_neg (by simp_all),hL22,List.append_assoc];done)),(by first|omega|(rw[List.length_append];simp;omega))⟩
  refine Qc 2 K M fun _ K=>?_
  have hno:(if y17=but then []else match Jt ns ts y17 with|some t=>[(y17,t)]|none=>[])=([]:List (List Nat×Nd)):=by
   rcases hT22 with⟨h,l,h1,h2⟩|⟨h,h1⟩
   ·rw[if_pos (by simp_all)]
   ·rw[h1];split<;>rfl
  exact⟨_,Qh,i+1,pl,ka,kb,A,B,lsn,rfl,(K.sub rfl),M.less (.cons _ (.refl _)),(by first|exact hA|(rw[List.map_append,Vx];exact hA35)),(by first|exact hB|exact hA40),Qh,(by first|exact hlen|(simp only[List.length_append,hlen,List.length_cons,List.length_nil];done)),(by first|exact hmap|exact hmap.Np hlen hG22),(by first|(rw[hinv,Wx hi17,hno];rfl)|(rw[hinv,Wx hi17,if_neg (by simp_all),hL22,List.append_assoc];done)),(by first|omega|(rw[List.length_append];simp;omega))⟩
 refine Jx ?_;show W _ _ _ _ _ _ _;refine Qc 1 K M fun _ K=>?_;refine Qz (k:=1) K M rfl rfl rfl Fh rfl (Qa hA.cell (Qa hB.cell Qo)) rfl fun _ M=>?_;refine Qc 0 K M ?_
 have hpl:Xw ns ts but (Ud (.mk o s z a l))=pl:=by rw[hinv,UM Qh];exact List.append_nil _
 rw[hpl];exact⟨⟨ka,kb,A,B,lsn,rfl,hA,hB,hlen,hmap,M.KI (.cons _ (.cons _ (.cons _ (.cons _ (List.Sublist.trans (List.Sublist.trans (List.sublist_append_left (A++B) []) (by rw[List.append_assoc];exact .refl _)) (List.sublist_append_right _ _))))))⟩,M.qt⟩
end
end Go.Proofs.YtaomhhkflohhgaaGreatDoor
