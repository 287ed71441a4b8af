/-
  macro: whole formulas, programs.
-/
import Derived.Test.YtadjjadimlkkgaaGreatDoorMnMca
namespace Go.Proofs.YtadjjadimlkkgaaGreatDoor
open Go Go.RowKit
set_option maxHeartbeats 8000000
set_option linter.unusedVariables false
set_option linter.unusedSimpArgs false
set_option linter.unnecessarySimpa false
set_option linter.unusedSectionVars false
set_option maxRecDepth 100000

theorem Mem.qC{h0:Hp}{n0:Nat}{X:List Nat}{st:St}{M A:Uf}{k c m:Nat}{l:List AV}(h:Mem h0 n0 X st M)(hk:M[k]? =some (c,m,l))(hs:A.Sublist (M.eraseIdx k)): ∀x∈A,x.1≠c:=by
 rintro⟨c',m',l'⟩ hm hc
 have hc:c'=c:=hc;subst hc;obtain⟨i,hi⟩:=List.getElem?_of_mem (hs.subset hm);rw[List.getElem?_eraseIdx]at hi
 have key: ∀j,M[j]? =some (c',m',l')→j=k:=fun j hj=>by
  have h1:(M.map Prod.fst)[j]? =some c':=by rw[List.getElem?_map,hj];rfl
  have h2:(M.map Prod.fst)[k]? =some c':=by rw[List.getElem?_map,hk];rfl
  exact(List.getElem?_inj (List.getElem?_eq_some_iff.1 h1).1 h.nodup).1 (h1.trans h2.symm)
 split at hi
 ·have:=key _ hi;omega
 ·have:=key _ hi;omega
theorem Un.xD{h:Hp}{c m z:Nat}{ls:List (List AV)}(r:UM h c m ls.flatten)(hz: ∀cs∈ls,cs.length=z)(hb:(ls.length:Int)≤9223372036854775807):Un h [] z ls (.sl c m 0 ls.length z):=
 ⟨rfl,hb,rfl,fun i cs hi=>⟨c,m,0,_,rfl,by simp,r,hz cs (List.mem_of_getElem? hi),by rw[Nat.zero_add];exact H3 i cs hz hi⟩,fun c' m' off n z' e=>by
  injection e with e1 e2 e3 e4 e5
  subst e1 e2 e3 e4 e5
  exact⟨by simp,_,r,by rw[Zh hz];omega⟩⟩
def I4(R:Y4)(qs:List Pd)(lsq:List (List AV)):Prop:= ∀(j:Nat) (q:Pd) (cs:List AV),qs[j]? =some q→lsq[j]? =some cs→qE R q cs
theorem I4.nil{R:Y4}:I4 R [] []:=fun j q cs h=>by simp at h
theorem I4.mono{R R':Y4}(hl: ∀c m l,R c m l→R' c m l){qs:List Pd}{lsq:List (List AV)}(h:I4 R qs lsq):I4 R' qs lsq:=fun j q cs h1 h2=>(h j q cs h1 h2).mono hl
theorem I4.snoc{R:Y4}{qs:List Pd}{lsq:List (List AV)}{q:Pd}{cs:List AV}(h:I4 R qs lsq)(hn:lsq.length=qs.length)(hk:qE R q cs):I4 R (qs++[q]) (lsq++[cs]):=by
 intro j q' cs' h1 h2
 by_cases hj:j<qs.length
 ·rw[List.getElem?_append_left hj]at h1;rw[List.getElem?_append_left (by omega)]at h2;exact h j q' cs' h1 h2
 ·rw[List.getElem?_append_right (by omega)]at h1;rw[List.getElem?_append_right (by omega),hn]at h2
  have h0:j-qs.length=0:=by
   by_cases h:j-qs.length=0
   ·exact h
   ·rw[List.getElem?_eq_none (by simp;omega)]at h1;cases h1
  rw[h0]at h1 h2
  injection h1 with h1
  injection h2 with h2
  subst h1 h2;exact hk
theorem I4.ps{R:Y4}{qs:List Pd}{lsq:List (List AV)}{A:Uf}{n0:Nat}{kq:AV}(h:I4 R qs lsq)(hn:lsq.length=qs.length)(hA:Acc n0 8 A kq lsq):qK (fun c m l=>(c,m,l)∈A) R qs kq lsq:=by
 refine⟨fun hp hi=>?_,hn,fun i p hi=>?_⟩
 ·cases hA with
  |none=>exact .nil _ _ _
  |own hc hz hb=>exact Un.xD (hi _ _ _ (List.mem_singleton_self _)) hz (by omega)
 ·have hlt:i<lsq.length:=by rw[hn];exact(List.getElem?_eq_some_iff.1 hi).1
  exact⟨_,List.getElem?_eq_getElem hlt,h i p _ hi (List.getElem?_eq_getElem hlt)⟩
theorem KS(l r:List Pd): ∀qs,ZY qs (l++r)=(ZY qs l).bind fun x=>ZY x r:=by
 induction l with
 |nil=>intro qs;rfl
 |cons p l ih=>
  intro qs;rw[List.cons_append,ZY,ZY]
  split
  ·exact ih _
  ·rfl
noncomputable def yK(qs:List Pd)(p:Pd):Pd:=⟨p.name,p.params,(QM qs p.body 2000).1.1,p.at_⟩
theorem MD{ps qs:List Pd}{i:Nat}{p:Pd}(h:ZY [] (ps.take i)=some qs)(hi:ps[i]? =some p)(hb:(QM qs p.body 2000).1.2=true):ZY [] (ps.take (i+1))=some (qs++[yK qs p]):=by
 have:ps.take (i+1)=ps.take i++[p]:=by rw[List.take_add_one,hi];rfl
 rw[this,KS,h];show ZY qs [p]=_;rw[ZY,if_pos hb];rfl
theorem jx{ps qs:List Pd}{i:Nat}{p:Pd}(h:ZY [] (ps.take i)=some qs)(hi:ps[i]? =some p)(hb:(QM qs p.body 2000).1.2=false):ZY [] ps=none:=by
 have e:ps=ps.take i++p::ps.drop (i+1):=by
  obtain⟨h1,h2⟩:=List.getElem?_eq_some_iff.1 hi;rw[←h2,←List.drop_eq_getElem_cons h1,List.take_append_drop]
 rw[e,KS,h];show ZY qs (p::_)=_;rw[ZY,if_neg (by rw[hb];decide)]
def xu(R:Y4)(p:Pg)(cs:List AV):Prop:= ∃kd ld kp lp kk,cs=[kd,kp,.str p.main.op,.str p.main.name,.int .i64 p.main.VP,.int .i64 p.main.place,kk]∧(∀h,YM R h→Y1 h p.decls kd ld)∧qK R R p.preds kp lp∧Zj R p.main [.str p.main.op,.str p.main.name,.int .i64 p.main.VP,.int .i64 p.main.place,kk]
theorem xu.toR{R:Y4}{h:Hp}{p:Pg}{cs:List AV}(H:xu R p cs)(hR:YM R h):Sg h p cs:=by
 obtain⟨kd,ld,kp,lp,kk,rfl,hD,hP,hW⟩:=H;exact⟨kd,ld,kp,lp,_,_,_,_,kk,rfl,hD h hR,hP.toR hR hR,hW.El hR⟩
theorem Sg.zC{h:Hp}{p:Pg}{cs:List AV}(H:Sg h p cs):xu (UM h) p cs:=by
 obtain⟨ds,ps,⟨o,s,z,a,l⟩⟩:=p;obtain⟨kd,ld,kp,lp,op,nm,n,a',kk,rfl,hD,hP,hN⟩:=H;have hW:=hN.toW;obtain⟨kk',ls,ex,_,_⟩:=Zj.QJ (op:=o) (name:=s) (n:=z) (at_:=a) (kids:=l) hW
 injection ex with x1 x;injection x with x2 x;injection x with x3 x;injection x with x4 x;injection x with x5 x
 injection x1 with x1;injection x2 with x2;injection x3 with _ x3;injection x4 with _ x4
 subst x1 x2 x3 x4 x5;exact⟨kd,ld,kp,lp,kk,rfl,fun h' hi=>hD.mono hi,hP.zC,hW⟩
noncomputable def Uv(p:Pg):Nd×Int:=if(JK p).2≠0 then(Kr,(JK p).2)else match ZY [] p.preds with
 |none=>(Kr,8)
 |some qs=>if(QM qs p.main 2000).1.2=true then((QM qs p.main 2000).1.1,0)else(Kr,8)
def qH(C:Int)(B:Nat)(p:Pg):Prop:=(JK p).2=0→(∀i q qs,p.preds[i]? =some q→ZY [] (p.preds.take i)=some qs→Ys C B qs q.body)∧ ∀qs,ZY [] p.preds=some qs→Ys C B qs p.main
theorem KR{p:Pg}(h:(JK p).2≠0):Uv p=(Kr,(JK p).2):=by rw[Uv,if_pos h]
theorem FL{p:Pg}(h:(JK p).2=0)(hp:ZY [] p.preds=none):Uv p=(Kr,8):=by rw[Uv,if_neg (by simp[h]),hp]
theorem EE{p:Pg}{qs:List Pd}(h:(JK p).2=0)(hp:ZY [] p.preds=some qs):Uv p=if(QM qs p.main 2000).1.2=true then((QM qs p.main 2000).1.1,0)else(Kr,8):=by rw[Uv,if_neg (by simp[h]),hp]

theorem LK{Q R:Y4}{st:St}(hf:Qu st){cp:Nat}(hQ:YM Q st.h.get)(hXQ: ∀c m l,Q c m l→c∉[cp])(hR:YM R st.h.get)(hX: ∀c m l,R c m l→c∉[cp]){ps:List Pd}{kp:AV}{lsp:List (List AV)}{n:Int}(hC:UC st.h.get cp 0 [kp,.int .i64 n])(hP:qK Q R ps kp lsp){C:Int}{B0:Nat}{o s:List Nat}{z a:Int}{l:List Nd}{cs:List AV}(hr:Zj R (.mk o s z a l) cs)(hcs:Ys C B0 ps (.mk o s z a l))(hszx:Jz (.mk o s z a l)≤1000000): ∃v st',Ev Tryz.prog QU 51 [.ptr cp 0 0,.agg cs] st v st'∧(∃v1,v=.tup [v1,.bool (QM ps (.mk o s z a l) 2000).1.2]∧ZZ R st st' (QM ps (.mk o s z a l) 2000).1.1 v1)∧Si [cp] st st'∧UC st'.h.get cp 0 [kp,.int .i64 (QM ps (.mk o s z a l) 2000).2]:=by
 have hr0:=hr;obtain⟨kk,ls,rfl,hK,hb⟩:=hr.QJ;have hln:=hK.ln;have hbn:=hK.Uj;refine QE rfl Tryz.func51 rfl Tryz.ntmps51 rfl fun T hT=>?_;have K:QT [(0,_),(1,_)] T:=(.cons (hT 0) (.cons (hT 1) .nil));have M:=Mem.SF hf hC;refine Qn<|Qb ?_;refine QO K M rfl (Qa rfl (Qa rfl (Qa rfl (Qa rfl (Qa hK.cell Qp))))) (by decide) fun c3 _ _ K M=>?_;refine au 8 K M ?_;intro c4 _ _ K _ M;obtain⟨v11,st11,ev11,⟨_,rfl,on11,sn11,zn11,an11,ln11,kkn11,A11,en11,rfl,hS11,hN11⟩,q11,r11⟩:=Sl _ Q R _ _ kp lsp 2000 M.fresh (M.Bj hQ hXQ) hXQ (M.Bj hR hX) hX (M.W9 (k:=2) rfl) hP hr0 hcs (by omega) (by omega) hszx;refine o1 K (Ql rfl ev11) rfl fun _ K=>?_;replace M:=M.EL (k:=2) rfl q11 r11 hS11;refine Qf 2 K M ?_;intro _ K;refine Q5 (k:=0) K M rfl rfl rfl Qq rfl (Qa rfl (Qa rfl (Qa rfl (Qa rfl (Qa hN11.YF Qp))))) rfl fun _ M=>?_;refine Qf 1 K M ?_;intro _ K;refine Qe ⟨.inr rfl,_,(YJ (Yc K rfl (M.load (k:=0) rfl (Ji Qs rfl))) (Js K rfl)),?_⟩;rw[en11]at hN11;refine⟨⟨_,rfl,?_⟩,M.IF,M.W9 (k:=2) rfl⟩;rw[en11];exact ZZ.of hN11 (M.SR (k:=2) rfl (.cons _ (.cons _ (List.sublist_append_left _ _))))

theorem RB{R:Y4}{st:St}(hf:Qu st)(hR:YM R st.h.get)(hRn: ∀c m x,R c m x→c<st.n){ds:List Dc}{ps:List Pd}{o s:List Nat}{z a:Int}{l:List Nd}{cs:List AV}(hG:xu R ⟨ds,ps,.mk o s z a l⟩ cs)(hds:ds.length≤100000)(hps:ps.length≤1000){C:Int}{B0:Nat}(hE:qH C B0 ⟨ds,ps,.mk o s z a l⟩)(hszp: ∀p∈ps,Jz p.body≤1000000)(hszm:Jz (.mk o s z a l)≤1000000): ∃v st',Ev Tryz.prog QU 15 [.agg cs] st v st'∧(∃v1,v=.tup [v1,.int .i64 (Uv ⟨ds,ps,.mk o s z a l⟩).2]∧ZZ R st st' (Uv ⟨ds,ps,.mk o s z a l⟩).1 v1)∧Qt st st':=by
 have hpg:=hG.toR hR;obtain⟨kd,ld,kp,lp,kk,rfl,hDg,hPG,hr0⟩:=hG;replace hDg: ∀h,YM R h→Y1 h ds kd ld:=hDg;replace hPG:qK R R ps kp lp:=hPG;replace hr0:Zj R (.mk o s z a l) _:=hr0;have hDs:=hDg _ hR;have hPs:=hPG.toR hR hR;have hr1:=hr0;obtain⟨_,ls,ex,hK,hb⟩:=hr1.QJ
 injection ex with x1 x;injection x with x2 x;injection x with x3 x;injection x with x4 x;injection x with x5 x
 subst x5;have hlp:=hPs.ln;have hbp:=hPs.Uj
 have hps':ps.length≤100000:=by omega
 refine QE rfl Tryz.func15 rfl Tryz.ntmps15 rfl fun T hT=>?_;have K:QT [(0,_)] T:=(.cons (hT 0) .nil);have M:=Mem.start hf;refine Qn<|Qb ?_;refine QO K M rfl (Qa hDs.cell (Qa hPs.cell (Qa rfl (Qa rfl (Qa rfl (Qa rfl (Qa hK.cell Qp))))))) (by decide) fun c1 _ _ K M=>?_;refine au 3 K M ?_;intro c2 _ _ K _ M;refine oQ K M (Rt M.fresh (Sg.mono M.rows hpg) hds hps') rfl rfl fun _ _ K M=>?_;refine Qf 7 K M ?_;intro _ K;refine Qm (K.QF rfl) (fun h18=>?_) (fun h18=>?_)
 ·have hb18:=h18
  replace h18: ¬((JK ⟨ds,ps,.mk o s z a l⟩).2=0):=by intro hq;rw[decide_eq_true hq]at h18;cases h18
  refine Qn<|Qb<|o1 K (UF UE rfl rfl) rfl fun _ K=>?_;refine au 3 K M ?_;intro _ _ K _ M;refine Qe ⟨.inr rfl,_,(YJ (Yc K rfl (M.load (k:=0) rfl (Ji Qs rfl))) (Js K rfl)),?_⟩;rw[KR (by first|exact h18|simpa using h18)];exact⟨⟨_,rfl,ZZ.of (A:=[]) (Bd ⟨Za,Za⟩) (M.Ge (List.nil_sublist _))⟩,M.qt⟩
 have hb18:=h18
 replace h18:((JK ⟨ds,ps,.mk o s z a l⟩).2=0):=by by_cases hq:(JK ⟨ds,ps,.mk o s z a l⟩).2=0;exact hq;rw[decide_eq_false hq]at h18;cases h18
 refine Q8 ?_;show W _ _ _ _ _ _ _;refine Qn ?_
 have hchk:(JK ⟨ds,ps,.mk o s z a l⟩).2=0:=by first|exact h18|simpa using h18
 have hEx:=hE hchk;refine Qb<|o1 K (UF Fv rfl rfl) rfl fun _ K=>?_;refine QO K M rfl rfl (by decide) fun c22 _ _ K M=>?_;refine Qf 3 K M ?_;intro _ K;refine o1 K (QL Ym rfl rfl hPs.len) rfl fun _ K=>?_;refine Qf 1 K M ?_;intro _ K;refine JN (fun mm1 T st9=> ∃(i:Nat) (kq:AV) (A:Uf) (B:Uf) (lsq:List (List AV)) (qs:List Pd) (m:Int),mm1=ps.length-i∧QT [(1,.ptr c1 0 0),(2,.ptr c2 0 0),(6,.ptr c22 0 0),(24,kp),(25,.int .i64 (((ps.length:Nat):Int))),(26,.int .i64 (((i:Nat):Int)))] T∧Mem st.h.get st.n [] st9 ((c22,0,[kq,.int .i64 m])::(c2,0,[.str [],.str [],.int .i64 0,.int .i64 0,.nils])::(c1,0,[kd,kp,.str o,.str s,.int .i64 z,.int .i64 a,kk])::(A++(B++[])))∧Acc st.n 8 A kq lsq∧i≤ps.length∧lsq.length=i∧qs.length=i∧I4 (Yx R B) qs lsq∧ZY [] (ps.take i)=some qs∧st.n≤c22) (fun mm1 T st9 hI=>?_) _ _ _ ⟨0,.nils,[],[],[],[],0,rfl,(.cons (K _ _ rfl) (.cons (K _ _ rfl) (.cons (K _ _ rfl) (.cons (K _ _ rfl) (.cons (K _ _ rfl) (.cons (K _ _ rfl) .nil)))))),M.less (.refl _),.none,(Nat.zero_le _),rfl,rfl,.nil,(by rw[List.take_zero];rfl),((M.own c22 0 _ (List.mem_cons_self ..)).resolve_right (by simp))⟩;obtain⟨i,kq,A,B,lsq,qs,m,rfl,K,M,hA,hi,hlen,hql,hmap,hq,hc22⟩:=hI
 have hlq:lsq.length=qs.length:=by omega
 refine Qf 1 K M ?_;intro _ K;refine Xo K rfl (fun h27=>?_) fun h27=>?_
 ·refine Q8 ?_;show W _ _ _ _ _ _ _;refine Qn<|Uq<|Qn<|Qb ?_;obtain⟨⟨pn28,pp28,⟨o28,s28,z28,a28,l28⟩,pa28⟩,hi28⟩: ∃k,ps[i]? =some k:=⟨_,List.getElem?_eq_getElem (by omega)⟩;obtain⟨_,hc28,hG28⟩:=hPG.p _ _ hi28;obtain⟨kd28,ld28,kk28,ls28,rfl,hD28,hn28,hK28,hb28,hy28⟩:=hG28.open;obtain⟨x28,m28,f28,q28,_,la28,lo28,lp28⟩:=(hPs.r.mem M (by simp)).load (i:=i) (cs:=_) hc28;refine o1 K (Qj (j:=i) U1 (congrArg some q28) rfl (by rw[hPs.ln];omega)) rfl fun _ K=>o1 K (Qr rfl (la28 _ Y7)) rfl fun _ K=>?_;refine Ul K M Y5 (by decide) fun c8 _ _ K M=>?_;refine Q5 (k:=0) K M rfl rfl rfl V9 rfl (Qa rfl (Qa (hD28 _ hR).cell (Qa rfl (Qa rfl (Qa rfl (Qa rfl (Qa hK28.cell (Qa rfl Qp)))))))) rfl fun _ M=>?_;refine Qf 3 K M ?_;intro _ K;have hAB: ∀x∈A++B,x.1≠c22:=M.qC (k:=1) rfl (A:=A++B) (.cons _ (.cons _ (.cons _ (by simp))));have hinA:YM (fun c m x=>(c,m,x)∈A) _:=fun c m x hx=>UC.AH (M.row c m x (by simp[hx]));have hin:=M.Mr hR (B:=B) (by intro x hx;simp[hx]);have hXA: ∀c m x,(c,m,x)∈A→c∉[c22]:=fun c m x h hc=>hAB _ (List.mem_append_left _ h) (List.mem_singleton.1 hc)
  have hXB: ∀c m x,Yx R B c m x→c∉[c22]:=fun c m x h hc=>by
   rw[List.mem_singleton]at hc;subst hc;rcases h with h|h
   ·have:=hRn _ _ _ h;omega
   ·exact hAB _ (List.mem_append_right _ h) rfl
  obtain⟨v34,st34,ev34,⟨_,rfl,on34,sn34,zn34,an34,ln34,kkn34,A34,en34,rfl,hS34,hN34⟩,q34,r34⟩:=LK (Q:=fun c m x=>(c,m,x)∈A) M.fresh hinA hXA hin hXB (M.W9 (k:=1) rfl) (hmap.ps hlq hA) (hn28.mono fun _ _ _=>.inl) (hEx.1 i _ qs hi28 hq) (hszp _ (List.mem_of_getElem? hi28));refine o1 K (Ql rfl ev34) rfl fun _ K=>?_;replace M:=M.EL (k:=1) rfl q34 r34 hS34;replace M:=Mem.cast (M':=((c8,0,[.str pn28,kd28,.str o28,.str s28,.int .i64 z28,.int .i64 a28,kk28,.int .i64 pa28])::(c22,0,[kq,.int .i64 ((QM qs (.mk o28 s28 z28 a28 l28) 2000).2)])::(c2,0,[.str [],.str [],.int .i64 0,.int .i64 0,.nils])::(c1,0,[kd,kp,.str o,.str s,.int .i64 z,.int .i64 a,kk])::(A++((B++A34)++[])))) M (by first|(simp only[List.append_assoc,List.cons_append,List.nil_append,List.append_nil,List.set_cons_zero,List.set_cons_succ];done)|(simp only[List.append_assoc,List.cons_append,List.nil_append,List.append_nil,List.set_cons_zero,List.set_cons_succ];rfl));refine au 4 K M ?_;intro c9 _ _ K _ M;refine Q5 (k:=0) K M rfl rfl rfl Qq rfl (Qa rfl (Qa rfl (Qa rfl (Qa rfl (Qa hN34.YF Qp))))) rfl fun _ M=>?_;refine Qf 3 K M ?_;intro _ K;refine Qm (K.QF rfl) (fun h38=>?_) (fun h38=>?_)
  ·have hb38:=h38
   replace h38:((QM qs (.mk o28 s28 z28 a28 l28) 2000).1.2)=false:=by first|simpa using h38|(revert h38;cases((QM qs (.mk o28 s28 z28 a28 l28) 2000).1.2)<;>simp)
   refine Qn<|Qb<|o1 K (UF UE rfl rfl) rfl fun _ K=>?_;refine au 2 K M ?_;intro _ _ K _ M;refine Qe ⟨.inr rfl,_,(YJ (Yc K rfl (M.load (k:=3) rfl (Ji Qs rfl))) (Js K rfl)),?_⟩;rw[FL hchk (jx hq hi28 h38)];exact⟨⟨_,rfl,ZZ.of (A:=[]) (Bd ⟨Za,Za⟩) (M.Ge (List.nil_sublist _))⟩,M.qt⟩
  have hb38:=h38
  replace h38:((QM qs (.mk o28 s28 z28 a28 l28) 2000).1.2)=true:=by first|simpa using h38|(revert h38;cases((QM qs (.mk o28 s28 z28 a28 l28) 2000).1.2)<;>simp)
  refine Qf 2 K M ?_;intro _ K;refine Q5 (k:=1) K M rfl rfl rfl Qq rfl (Qa rfl (Qa rfl (Qa rfl (Qa rfl (Qa hN34.YF Qp))))) rfl fun _ M=>?_;refine Qy ?_;show W _ _ _ _ _ _ _;refine Up (l:=[(1,0),(2,0),(3,0),(4,0),(5,0),(6,0),(7,0),(0,0),(8,0),(9,0),(10,0)]) (by kernel_rfl) ?_;refine d1 rfl K (Qd rfl) rfl rfl fun _ K=>d1 rfl K (WE rfl rfl) rfl rfl fun _ K=>d1 rfl K (Qw YW rfl) rfl rfl fun _ K=>d1 rfl K (Qr rfl (M.load (k:=2) rfl (QA U0 rfl))) rfl rfl fun _ K=>d1 rfl K (Qr rfl (M.load (k:=1) rfl (Ji Y7 rfl))) rfl rfl fun _ K=>?_;refine Xv rfl K M Xr Y5 rfl rfl (Qa rfl (Qa (hD28 _ hR).cell (Qa rfl (Qa rfl (Qa rfl (Qa rfl (Qa hN34.YF (Qa rfl Qp)))))))) rfl rfl fun c48 _ _ K M=>?_;refine YH (k2:=0) (L:=[(c48,0,[.str pn28,kd28,.str on34,.str sn34,.int .i64 zn34,.int .i64 an34,kkn34,.int .i64 pa28]),(c9,0,[.str on34,.str sn34,.int .i64 zn34,.int .i64 an34,kkn34]),(c8,0,[.str pn28,kd28,.str on34,.str sn34,.int .i64 zn34,.int .i64 an34,kkn34,.int .i64 pa28]),(c22,0,[kq,.int .i64 ((QM qs (.mk o28 s28 z28 a28 l28) 2000).2)]),(c2,0,[.str [],.str [],.int .i64 0,.int .i64 0,.nils]),(c1,0,[kd,kp,.str o,.str s,.int .i64 z,.int .i64 a,kk])]) (A:=A) (B:=((B++A34)++[])) rfl K M hA Xr rfl rfl rfl rfl (by omega) rfl fun ks49 A49 _ _ K hA49 M=>?_;refine d1 rfl K (Qd rfl) rfl rfl fun _ K=>d1 rfl K (WE rfl rfl) rfl rfl fun _ K=>d1 rfl K (Qw YW rfl) rfl rfl fun _ K=>?_;refine XS (k:=3) rfl K M rfl rfl rfl VI (hA49.cell) rfl fun _ M=>?_;refine UG ?_;show W _ _ _ _ _ _ _;refine Qb<|o1 K (Jf rfl rfl (by omega) (by omega)) rfl fun _ K=>o1 K (Qd rfl) rfl fun _ K=>Qy ?_;exact⟨_,(by omega),i+1,ks49,A49,B++A34,(lsq++[[.str pn28,kd28,.str on34,.str sn34,.int .i64 zn34,.int .i64 an34,kkn34,.int .i64 pa28]]),qs++[yK qs ⟨pn28,pp28,(.mk o28 s28 z28 a28 l28),pa28⟩],(QM qs (.mk o28 s28 z28 a28 l28) 2000).2,rfl,(.cons (K _ _ rfl) (.cons (K _ _ rfl) (.cons (K _ _ rfl) (.cons (K _ _ rfl) (.cons (K _ _ rfl) (.cons (K _ _ rfl) .nil)))))),M.less (.cons _ (.cons _ (.cons _ (.refl _)))),hA49,(by omega),(by rw[List.length_append];simp;omega),(by rw[List.length_append];simp;omega),(I4.snoc (hmap.mono (Vi (fun _ _ _ h=>h) fun x hx=>List.mem_append_left _ hx)) hlq ⟨kd28,ld28,[.str on34,.str sn34,.int .i64 zn34,.int .i64 an34,kkn34],rfl,fun h hi=>hD28 h fun c m x hr=>hi c m x (.inl hr),hN34.mono (fun c m x h=>by rcases h with(h|h)|h;exact .inl h;exact .inr (List.mem_append_left _ h);exact .inr (List.mem_append_right _ h)),hy28⟩),(MD hq hi28 h38),hc22⟩
 refine J7 ?_;show W _ _ _ _ _ _ _;refine Qf 3 K M ?_;intro _ K
 have hqe:ZY [] ps=some qs:=by rw[List.take_of_length_le (by omega)]at hq;exact hq
 have hAB: ∀x∈A++B,x.1≠c22:=M.qC (k:=0) rfl (A:=A++B) (.cons _ (.cons _ (by simp)));have hinA:YM (fun c m x=>(c,m,x)∈A) _:=fun c m x hx=>UC.AH (M.row c m x (by simp[hx]));have hin:=M.Mr hR (B:=B) (by intro x hx;simp[hx]);have hXA: ∀c m x,(c,m,x)∈A→c∉[c22]:=fun c m x h hc=>hAB _ (List.mem_append_left _ h) (List.mem_singleton.1 hc)
 have hXB: ∀c m x,Yx R B c m x→c∉[c22]:=fun c m x h hc=>by
  rw[List.mem_singleton]at hc;subst hc;rcases h with h|h
  ·have:=hRn _ _ _ h;omega
  ·exact hAB _ (List.mem_append_right _ h) rfl
 obtain⟨v57,st57,ev57,⟨_,rfl,on57,sn57,zn57,an57,ln57,kkn57,A57,en57,rfl,hS57,hN57⟩,q57,r57⟩:=LK (Q:=fun c m x=>(c,m,x)∈A) M.fresh hinA hXA hin hXB (M.W9 (k:=0) rfl) (hmap.ps hlq hA) (hr0.mono fun _ _ _=>.inl) (hEx.2 qs hqe) hszm;refine o1 K (Ql rfl ev57) rfl fun _ K=>?_;replace M:=M.EL (k:=0) rfl q57 r57 hS57;replace M:=Mem.cast (M':=((c22,0,[kq,.int .i64 ((QM qs (.mk o s z a l) 2000).2)])::(c2,0,[.str [],.str [],.int .i64 0,.int .i64 0,.nils])::(c1,0,[kd,kp,.str o,.str s,.int .i64 z,.int .i64 a,kk])::(A++((B++A57)++[])))) M (by first|(simp only[List.append_assoc,List.cons_append,List.nil_append,List.append_nil,List.set_cons_zero,List.set_cons_succ];done)|(simp only[List.append_assoc,List.cons_append,List.nil_append,List.append_nil,List.set_cons_zero,List.set_cons_succ];rfl));refine Qf 3 K M ?_;intro _ K;refine Q5 (k:=1) K M rfl rfl rfl Qq rfl (Qa rfl (Qa rfl (Qa rfl (Qa rfl (Qa hN57.YF Qp))))) rfl fun _ M=>?_;refine Qf 3 K M ?_;intro _ K;refine Qm (K.QF rfl) (fun h61=>?_) (fun h61=>?_)
 ·have hb61:=h61
  replace h61:((QM qs (.mk o s z a l) 2000).1.2)=false:=by first|simpa using h61|(revert h61;cases((QM qs (.mk o s z a l) 2000).1.2)<;>simp)
  refine Qn<|Qb<|o1 K (UF UE rfl rfl) rfl fun _ K=>?_;refine au 2 K M ?_;intro _ _ K _ M;refine Qe ⟨.inr rfl,_,(YJ (Yc K rfl (M.load (k:=1) rfl (Ji Qs rfl))) (Js K rfl)),?_⟩;rw[EE hchk hqe,if_neg (by rw[h61];decide)];exact⟨⟨_,rfl,ZZ.of (A:=[]) (Bd ⟨Za,Za⟩) (M.Ge (List.nil_sublist _))⟩,M.qt⟩
 have hb61:=h61
 replace h61:((QM qs (.mk o s z a l) 2000).1.2)=true:=by first|simpa using h61|(revert h61;cases((QM qs (.mk o s z a l) 2000).1.2)<;>simp)
 refine Qf 1 K M ?_;intro _ K;refine Q5 (k:=1) K M rfl rfl rfl Qq rfl (Qa rfl (Qa rfl (Qa rfl (Qa rfl (Qa hN57.YF Qp))))) rfl fun _ M=>?_;refine Qf 1 K M ?_;intro _ K;refine Qe ⟨.inr rfl,_,(YJ (Yc K rfl (M.load (k:=1) rfl (Ji Qs rfl))) (Js K rfl)),?_⟩;rw[EE hchk hqe,if_pos h61];exact⟨⟨_,rfl,ZZ.of (hN57.mono (fun c m x h=>by rcases h with(h|h)|h;exact .inl h;exact .inr (List.mem_append_left _ h);exact .inr (List.mem_append_right _ h))) (M.Ge (A:=B++A57) (.cons _ (.cons _ (.cons _ (by simp)))))⟩,M.qt⟩
end Go.Proofs.YtadjjadimlkkgaaGreatDoor
