/-
  Programs that are parsed: their names are of bytes; they are read as programs that a call is handed.
-/
import Derived.Test.YtmgkfceomhagaaaGreatDoorPsRpE
set_option linter.unnecessarySimpa false
set_option linter.unusedSectionVars false
set_option linter.unusedSimpArgs false
set_option linter.unusedVariables false
namespace Go.Proofs.YtmgkfceomhagaaaGreatDoor
open Go Go.RowKit
section
variable {R:Ko} {h:Hp}

def PT(l:List Dc):Prop:= ∀d∈l,Bytes d.name
def fJ(p:Pd):Prop:=Bytes p.name∧PT p.params
def fS(g:Pg):Prop:=PT g.decls∧ ∀p∈g.preds,fJ p
theorem PT.snoc{l:List Dc}{d:Dc}(h:PT l)(hd:Bytes d.name):PT (l++[d]):=fun x hx=>by
 rcases List.mem_append.1 hx with hx|hx
 ·exact h x hx
 ·rw[List.mem_singleton.1 hx];exact hd
section
variable {L:List Tk} (hO:Us L)
include hO
theorem Pn(o:Int): ∀f S l,PT l→PT (Zi L o f S l).2
 |0,S,l,h=>by rw[Zi];exact h
 |f+1,S,l,h=>by
  have h2:PT (l++[⟨(Jc L S).s,o,(Jc L S).a⟩]):=h.snoc (Qk hO S);rw[Zi]
  split
  ·exact h
  split
  ·exact Pn o f _ _ h2
  ·exact h2
theorem G8: ∀f S l,PT l→PT (Zm L f S l).2
 |0,S,l,h=>by rw[Zm];exact h
 |f+1,S,l,h=>by
  have h2:PT (l++[⟨(Jc L (WY L S l.length)).s,QI L S [118,97,114],(Jc L (WY L S l.length)).a⟩]):=h.snoc (Qk hO _);rw[Zm]
  split
  ·exact h
  split
  ·exact G8 f _ _ h2
  ·exact h2
theorem jX(S:PS):PT (Yn L S).2:=by
 unfold Yn
 split
 ·intro d hd;cases hd
 ·exact G8 hO _ _ _ (fun d hd=>by cases hd)
theorem wz(S:PS):fJ (Uq L S).2:=⟨Qk hO _,jX hO _⟩
theorem ew(S:PS):PT (Yl L S).2:=Pn hO _ _ _ _ (fun d hd=>by cases hd)
theorem NB: ∀f S ds ps,PT ds→(∀p∈ps,fJ p)→PT (ZN L f S ds ps).2.1∧ ∀p∈(ZN L f S ds ps).2.2,fJ p
 |0,S,ds,ps,h1,h2=>by rw[ZN];exact⟨h1,h2⟩
 |f+1,S,ds,ps,h1,h2=>by
  rw[ZN]
  split
  ·exact⟨h1,h2⟩
  split
  ·refine NB f _ _ _ h1 fun p hp=>?_;rcases List.mem_append.1 hp with hp|hp
   ·exact h2 p hp
   ·rw[List.mem_singleton.1 hp];exact wz hO S
  split
  ·refine NB f _ _ _ (fun d hd=>?_) h2;rcases List.mem_append.1 hd with hd|hd
   ·exact h1 d hd
   ·exact ew hO S d hd
  ·exact⟨h1,h2⟩
theorem jW:fS (Ze L).2:=NB hO _ _ _ _ (fun d hd=>by cases hd) (fun p hp=>by cases hp)
end
theorem ug:fS BQ:=⟨(fun d hd=>by cases hd),(fun p hp=>by cases hp)⟩
theorem zV(l:List Nat):fS (JZ l).1:=by
 unfold JZ
 split
 ·exact ug
 ·rename_i h
  split
  ·exact ug
  ·exact jW (Br l Qq).1
theorem QQ.ij{X:List Nat}{c m z:Nat}{ls:List (List AV)}(r:Vo h c m ls.flatten)(hz: ∀cs∈ls,cs.length=z)(hX:c∉X)(hb:(ls.length:Int)≤9223372036854775807):QQ h X z ls (.sl c m 0 ls.length z):=
 ⟨rfl,hb,rfl,fun i cs hi=>⟨c,m,0,_,rfl,hX,r,hz cs (List.mem_of_getElem? hi),by rw[Nat.zero_add];exact FE i cs hz hi⟩,fun c' m' off n z' e=>by
  injection e with e1 e2 e3 e4 e5
  subst e1 e2 e3 e4 e5
  exact⟨hX,_,r,by rw[WK hz];omega⟩⟩
theorem Acc.iT{n0 z:Nat}{A:UT}{ks:AV}{ls:List (List AV)}(hA:Acc n0 z A ks ls)(hx: ∀x∈A,R x.1 x.2.1 x.2.2)(hR:vq R h):QQ h [] z ls ks:=by
 cases hA with
 |none=>exact .nil _ _ _
 |own hc hz hb=>exact QQ.ij (hR _ _ _ (hx _ (List.mem_singleton.2 rfl))) hz Q3 Qq
theorem vu{n0:Nat}{A:UT}{ks:AV}{l:List Dc}(hA:Acc n0 3 A ks (l.map Dc.cells))(hx: ∀x∈A,R x.1 x.2.1 x.2.2)(hR:vq R h)(hb:PT l):iP h l ks (l.map Dc.cells):=
 ⟨hA.iT hx hR,List.length_map _,fun i k hk=>⟨k.cells,by rw[List.getElem?_map,hk];rfl,rfl,hb k (List.mem_of_getElem? hk)⟩⟩
theorem vG.toR{p:Pd}{cs:List AV}(r:vG R p cs)(hR:vq R h)(hb:fJ p):kj h p cs:=by
 obtain⟨kp,o,s,z,a,kk,e,⟨A,hx,n0,hA⟩,hn⟩:=r;exact⟨kp,_,o,s,z,a,kk,e,vu hA hx hR hb.2,hn.Gq hR,hb.1⟩
theorem qv.toR{R:Ko}{h:Hp}{g:Pg}{cs:List AV}(r:qv R g cs)(hR:vq R h)(hb:fS g):fI h g cs:=by
 obtain⟨kd,kp,o,s,z,a,kk,lsp,e,⟨A,hx,n0,hA⟩,⟨A2,hx2,n2,hA2⟩,hl,hP,hn⟩:=r;refine⟨kd,_,kp,lsp,o,s,z,a,kk,e,vu hA hx hR hb.1,⟨hA2.iT hx2 hR,hl,fun i p hi=>?_⟩,hn.Gq hR⟩
 have hlt:i<lsp.length:=by rw[hl];exact(List.getElem?_eq_some_iff.1 hi).1
 exact⟨_,List.getElem?_eq_getElem hlt,(hP i p _ hi (List.getElem?_eq_getElem hlt)).toR hR (hb.2 p (List.mem_of_getElem? hi))⟩
theorem zi(h:Hp):vq R0 h:=fun _ _ _ h=>h.elim
end
section
set_option maxHeartbeats 8000000
set_option maxRecDepth 100000

theorem fC(x:Nd): ∀(st:St) (cs ct:List AV),QC st→VD st.h.get x cs→VD st.h.get x ct→ ∃v st',Ev Tryz.prog Jy 31 [.agg cs,.agg ct] st v st'∧v=.bool true∧Qt st st':=by
 refine AT (M:=fun x=> ∀(st:St) (cs ct:List AV),QC st→VD st.h.get x cs→VD st.h.get x ct→ ∃v st',Ev Tryz.prog Jy 31 [.agg cs,.agg ct] st v st'∧v=.bool true∧Qt st st') (fun o s z a l ih=>?_) x;intro st cs ct hf hr hr';have hr0:=hr;have hrw:=hr';obtain⟨kk,ls,rfl,hK,hb⟩:=hr.JT;obtain⟨kkw,lsw,rfl,hKw,hbw⟩:=hr'.JT;have hln:=hK.ln;have hbn:=hK.Na;have hbw:=hKw.Na;refine Zw Tryz.func31 Tryz.ntmps31 fun T K=>?_;have M:=Mem.start hf;refine Qf 0 K M fun _ K=>?_;refine Y2 K M rfl (Qa rfl (Qa rfl (Qa rfl (Qa rfl (Qa hK.cell QF))))) Qz fun c2 _ _ K M=>?_;refine Y2 K M rfl (Qa rfl (Qa rfl (Qa rfl (Qa rfl (Qa hKw.cell QF))))) Qz fun c3 _ _ K M=>?_;refine Qf 6 K M fun _ K=>?_;refine eK K rfl (fun _ e11 K=>?_) fun _ e11 K=>?_
 ·refine Qf 6 K M fun _ K=>?_;refine eK K rfl (fun _ e18 K=>?_) fun _ e18 K=>?_
  ·refine Qf 6 K M fun _ K=>?_;refine eK K rfl (fun _ e25 K=>?_) fun _ e25 K=>?_
   ·refine Qf 6 K M fun _ K=>?_;refine eK K rfl (fun _ e32 K=>?_) fun _ e32 K=>?_
    ·refine Qf 2 K M fun _ K=>?_;refine pg K rfl rfl (JJ Jr rfl rfl hK.len) fun _ K=>?_;refine Qf 2 K M fun _ K=>?_;refine pg K rfl rfl (JJ Jr rfl rfl hKw.len) fun _ K=>?_;refine Qf 2 K M fun _ K=>?_;refine Uj K rfl (fun h40=>?_) fun h40=>?_
     ·have hb40:=h40
      replace h40: ¬(((l.length:Nat):Int)=((l.length:Nat):Int)):=by first|exact of_decide_eq_false h40|exact yF h40|simpa using h40
      exact absurd rfl h40
     have hb40:=h40
     replace h40:(((l.length:Nat):Int)=((l.length:Nat):Int)):=by first|exact of_decide_eq_true h40|exact yT h40|simpa using h40
     refine Qf 1 K M fun _ K=>?_;refine UM (fun mm1 T st9=> ∃(i:Nat),mm1=l.length-i∧JC [(2,.ptr c2 0 0),(3,.ptr c3 0 0),(5,iN i)] T∧Mem st.h.get st.n [] st9 [(c3,0,[.str o,.str s,iZ z,iZ a,kkw]),(c2,0,[.str o,.str s,iZ z,iZ a,kk])]∧i≤l.length) (fun mm1 T st9 hI=>?_) _ _ _ ⟨0,rfl,(K.sub rfl),M.less (.refl _),(Nat.zero_le _)⟩;obtain⟨i,rfl,K,M,hi⟩:=hI;refine Qf 3 K M fun _ K=>?_;refine p1 K (JJ Jr rfl rfl hK.len) fun _ K=>?_;refine Qf 1 K M fun _ K=>?_;refine XR K rfl (fun h45=>?_) fun h45=>?_
     ·refine Qf 0 K M fun _ K=>?_;refine QR (l:=[(0,0),(1,0),(2,0),(3,0),(4,0),(5,0),(6,0),(7,0),(8,0),(9,0),(10,0),(11,0)]) (by kernel_rfl) ?_;refine JL 3 K M fun _ K=>?_;obtain⟨⟨o51,s51,z51,a51,l51⟩,hi51⟩: ∃k,l[i]? =some k:=⟨_,List.getElem?_eq_getElem (by first|omega|(have:=bare_len (m:=1) (l:=l) (by assumption);omega)|(have:=bare_len (m:=2) (l:=l) (by assumption);omega)|(have:=QL (m:=1) (l:=l) (by assumption);omega))⟩;have hm51:=JG hi51;obtain⟨_,hc51,hn51⟩:=hK.at_ _ _ hi51;have hp51:=hn51;obtain⟨kk51,ls51,rfl,hK51,hb51⟩:=hp51.JT;refine zm rfl rfl (hK.r.mem M Q3) hc51 K QN Qp rfl rfl fun _ _ _ _ K=>?_;refine JL 3 K M fun _ K=>?_;obtain⟨_,hc56,hn56⟩:=hKw.at_ _ _ hi51;have hp56:=hn56;obtain⟨kk56,ls56,rfl,hK56,hb56⟩:=hp56.JT;refine zm rfl rfl (hKw.r.mem M Q3) hc56 K QN Qp rfl rfl fun _ _ _ _ K=>?_;obtain⟨v58,st58,ev58,rfl,q58⟩:=ih _ hm51 _ _ _ M.fresh (hn51.mono M.rows) (hn56.mono M.rows);refine qA rfl K (Qe rfl ev58) fun _ K=>?_;replace M:=M.quiet q58;refine q1 rfl K (R7 rfl) fun _ K=>QY ?_;show W _ _ _ _ _ _ _;refine Qf 4 K M fun _ K=>?_;exact⟨_,Qq,i+1,rfl,(K.sub rfl),M.less (.refl _),Qq⟩
     refine Un ?_;show W _ _ _ _ _ _ _;refine Qf 1 K M ?_;exact⟨rfl,M.qt⟩
    exact absurd rfl e32
   exact absurd rfl e25
  exact absurd rfl e18
 exact absurd rfl e11

theorem RF{st:St}(hf:QC st){kd kw:AV}(h1:QQ st.h.get [] 3 [] kd)(h2:QQ st.h.get [] 3 [] kw): ∃v st',Ev Tryz.prog Jy 30 [kd,kw] st v st'∧v=.bool true∧Qt st st':=by
 refine Zw Tryz.func30 Tryz.ntmps30 fun T K=>?_;have M:=Mem.start hf;refine Qf 2 K M fun _ K=>?_;refine p1 K (JJ Za rfl rfl h1.len) fun _ K=>?_;refine Qf 1 K M fun _ K=>?_;refine p1 K (JJ Za rfl rfl h2.len) fun _ K=>?_;refine Qf 1 K M fun _ K=>?_;refine Uj K rfl (fun h10=>?_) fun h10=>?_
 ·have hb10:=h10
  replace h10: ¬(((0:Nat):Int)=((0:Nat):Int)):=by first|exact of_decide_eq_false h10|exact yF h10|simpa using h10
  exact absurd rfl h10
 have hb10:=h10
 replace h10:(((0:Nat):Int)=((0:Nat):Int)):=by first|exact of_decide_eq_true h10|exact yT h10|simpa using h10
 refine Qf 1 K M fun _ K=>?_;refine J1 ?_;refine Qf 2 K M fun _ K=>?_;refine p1 K (JJ Za rfl rfl h1.len) fun _ K=>?_;refine Qf 1 K M fun _ K=>?_;refine XR K rfl (fun h14=>?_) fun h14=>?_
 ·exact absurd h14 Qz
 refine Un ?_;show W _ _ _ _ _ _ _;refine Qf 1 K M ?_;exact⟨rfl,M.qt⟩

theorem UT.nil{h:Hp}{z:Nat}{α:Type}{R:α→List AV→Prop}{kk:AV}{ls:List (List AV)}(H:zh h z R [] kk ls):QQ h [] z [] kk:=by
 have h1:=H.r;have h2:ls=[]:=List.length_eq_zero_iff.1 (by rw[H.ln];rfl);subst h2;exact h1
theorem fI.main{h:Hp}{g:Pg}{kd kp kk:AV}{o s:List Nat}{z a:Int}(r:fI h g [kd,kp,.str o,.str s,.int .i64 z,.int .i64 a,kk]):VD h g.main [.str o,.str s,.int .i64 z,.int .i64 a,kk]:=by
 obtain⟨kd',ld,kp',lp,o',s',z',a',kk',e,h1,h2,h3⟩:=r
 injection e with x1 x;injection x with x2 x
 rw[x];exact h3

theorem wQ{o s:List Nat}{z a:Int}{l:List Nd}{st:St}{cs ct:List AV}(hf:QC st)(hr:fI st.h.get ⟨[],[],.mk o s z a l⟩ cs)(hr':fI st.h.get ⟨[],[],.mk o s z a l⟩ ct): ∃v st',Ev Tryz.prog Jy 11 [.agg cs,.agg ct] st v st'∧v=.bool true∧Qt st st':=by
 obtain⟨kd,ld,kp,lp,o_,s_,z_,a_,kk_,rfl,hD,hP,hn⟩:=hr;obtain⟨kk,ls,ex,hK,hb⟩:=hn.JT
 injection ex with x1 x;injection x with x2 x;injection x with x3 x;injection x with x4 x;injection x with x5 x
 injection x1 with x1;injection x2 with x2;injection x3 with _ x3;injection x4 with _ x4
 subst x1 x2 x3 x4 x5;have hd:=UT.nil hD;have hq:=UT.nil hP;obtain⟨kdw,ldw,kpw,lpw,ow_,sw_,zw_,aw_,kkw_,rfl,hDw,hPw,hnw⟩:=hr';obtain⟨kkw,lsw,exw,hKw,hbw⟩:=hnw.JT
 injection exw with x1 x;injection x with x2 x;injection x with x3 x;injection x with x4 x;injection x with x5 x
 injection x1 with x1;injection x2 with x2;injection x3 with _ x3;injection x4 with _ x4
 subst x1 x2 x3 x4 x5;have hdw:=UT.nil hDw;have hqw:=UT.nil hPw;refine Zw Tryz.func11 Tryz.ntmps11 fun T K=>?_;have M:=Mem.start hf;refine Qf 0 K M fun _ K=>?_;refine Y2 K M rfl (Qa hd.cell (Qa hq.cell (Qa rfl (Qa rfl (Qa rfl (Qa rfl (Qa hK.cell QF))))))) Qz fun c2 _ _ K M=>?_;refine Y2 K M rfl (Qa hdw.cell (Qa hqw.cell (Qa rfl (Qa rfl (Qa rfl (Qa rfl (Qa hKw.cell QF))))))) Qz fun c3 _ _ K M=>?_;refine Qf 5 K M fun _ K=>?_;refine oQ K M (RF M.fresh (hd.mem M Q3) (hdw.mem M Q3)) rfl rfl fun _ _ K M=>?_;refine Qf 4 K M fun _ K=>?_;refine pg K rfl rfl (JJ Xv rfl rfl hq.len) fun _ K=>?_;refine Qf 2 K M fun _ K=>?_;refine pg K rfl rfl (JJ Xv rfl rfl hqw.len) fun _ K=>?_;refine Qf 2 K M fun _ K=>?_;refine eK K rfl (fun _ e23 K=>?_) fun _ e23 K=>?_
 ·refine Qf 4 K M fun _ K=>?_;obtain⟨v28,st28,ev28,rfl,q28⟩:=fC _ _ _ _ M.fresh (hn.mono M.rows) (hnw.mono M.rows);refine pg K rfl rfl (Qe rfl ev28) fun _ K=>?_;replace M:=M.quiet q28;refine Qf 4 K M fun _ K=>?_;refine J1 ?_;refine Qf 3 K M fun _ K=>?_;refine p1 K (JJ Xv rfl rfl hq.len) fun _ K=>?_;refine Qf 1 K M fun _ K=>?_;refine XR K rfl (fun h35=>?_) fun h35=>?_
  ·exact absurd h35 Qz
  refine Un ?_;show W _ _ _ _ _ _ _;refine Qf 1 K M ?_;exact⟨rfl,M.qt⟩
 exact absurd rfl e23
end
end Go.Proofs.YtmgkfceomhagaaaGreatDoor
