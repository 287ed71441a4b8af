/-
  What stands ahead in a row.
-/
import Derived.Test.YtadjjadimlkkgaaGreatDoorKtKnD
set_option linter.unnecessarySimpa false
set_option linter.unusedSimpArgs false
set_option linter.unusedVariables false
section
namespace Go.Proofs.YtadjjadimlkkgaaGreatDoor
open Go Go.RowKit

noncomputable def Tl(kb:AV)(n:Nat):AV:=match kb with
 |.sl c m off len z=>.sl c m off n z
 |_=>.nils
theorem OI{P:Program}{G:Env}{K:List (Nat×AV)}{st:St}{h:Hp}{t:TypeId}{x:Operand}{hi:Option Operand}{kb:AV}{X:List Nat}{z n:Nat}{ls:List (List AV)}(r:J8 h X z ls kb)(h0:0<ls.length)(he:Yt P t=some z)(hx:Uf G K x=some kb)(hh:Xa (Uf G K) hi ls.length=some n)(hn:n≤ls.length):
  ZV P G K (.slice t x none hi none) st (Tl kb n) st:=by
 obtain⟨c,m,off,cells,rfl,_⟩:=r.at_ 0 _ (List.getElem?_eq_getElem h0);have h1:=P8 (st:=st) (lo:=none) he hx rfl hh (Nat.zero_le _) hn;rw[Nat.zero_mul,Nat.add_zero,Nat.sub_zero]at h1;exact h1
theorem M8{h:Hp}{X:List Nat}{z n:Nat}{ls:List (List AV)}{kb:AV}(r:J8 h X z ls kb)(h0:0<ls.length)(hn:n≤ls.length):J8 h X z (ls.take n) (Tl kb n):=by
 obtain⟨c,m,off,cells,rfl,_⟩:=r.at_ 0 _ (List.getElem?_eq_getElem h0)
 have hl:(ls.take n).length=n:=by rw[List.length_take];omega
 have hb:=r.Yx;refine⟨by rw[hl];rfl,by rw[hl];omega,rfl,fun i cs hi=>?_,fun c' m' off' n' z' e'=>?_⟩
 ·have hlt:=(List.getElem?_eq_some_iff.1 hi).1;rw[hl]at hlt;rw[List.getElem?_take_of_lt hlt]at hi;obtain⟨c2,m2,off2,cells2,e1,e2,e3,e4,e5⟩:=r.at_ _ _ hi
  injection e1 with x1 x2 x3 x4 x5
  subst x1 x2 x3;exact⟨c,m,off,cells2,by rw[hl];rfl,e2,e3,e4,e5⟩
 ·injection e' with x1 x2 x3 x4 x5
  subst x1 x2 x3 x4;obtain⟨h1,cs,h2,h3⟩:=r.alive c m off _ z rfl;refine⟨h1,cs,h2,Nat.le_trans (Nat.add_le_add_left (Nat.mul_le_mul_right z hn) off) h3⟩
theorem Vd.head{K:Type}{h:Hp}{z n:Nat}{R:K→List AV→Prop}{l:List K}{kk:AV}{ls:List (List AV)}(H:Vd h z R l kk ls)(h0:0<l.length)(hn:n≤l.length):Vd h z R (l.take n) (Tl kk n) (ls.take n):=
 ⟨M8 H.r (by rw[H.ln];exact h0) (by rw[H.ln];exact hn),by rw[List.length_take,List.length_take,H.ln],fun i k hi=>by
  have hlt:=(List.getElem?_eq_some_iff.1 hi).1;rw[List.length_take]at hlt;rw[List.getElem?_take_of_lt (by omega)]at hi;obtain⟨cs,h1,h2⟩:=H.at_ _ _ hi
  exact⟨cs,by rw[List.getElem?_take_of_lt (by omega)];exact h1,h2⟩⟩
end Go.Proofs.YtadjjadimlkkgaaGreatDoor
end
section
namespace Go.Proofs.YtadjjadimlkkgaaGreatDoor
open Go Go.RowKit
set_option maxHeartbeats 8000000
set_option maxRecDepth 100000

theorem Lt{s:List Nat}: ∀(l:List Dc),(∀d∈l,0≤d.order)→(0≤U8 l s↔ ∃d∈l,d.name=s):=by
 have key: ∀(l:List Dc) (r:Int),(∀d∈l,0≤d.order)→(0≤l.foldl (fun r d=>if d.name=s then d.order else r) r↔0≤r∨ ∃d∈l,d.name=s):=by
  intro l
  induction l with
  |nil=>intro r _;simp
  |cons d l ih=>
   intro r h;rw[List.foldl_cons,ih _ fun e he=>h e (List.mem_cons_of_mem _ he)]
   by_cases q:d.name=s
   ·rw[if_pos q];exact⟨fun _=>.inr ⟨d,List.mem_cons_self ..,q⟩,fun _=>.inl (h d (List.mem_cons_self ..))⟩
   ·rw[if_neg q];constructor
    ·rintro(h1|⟨e,he,h1⟩)
     ·exact .inl h1
     ·exact .inr ⟨e,List.mem_cons_of_mem _ he,h1⟩
    ·rintro(h1|⟨e,he,h1⟩)
     ·exact .inl h1
     ·rcases List.mem_cons.1 he with rfl|he
      ·exact absurd h1 q
      ·exact .inr ⟨e,he,h1⟩
 intro l h;rw[U8,key l (-1) h];exact⟨fun h=>h.resolve_left (by decide),.inr⟩
def NI(l:List Dc)(i:Nat)(e:Dc):Bool:=decide (some e.name=(l[i]?).map Dc.name)
theorem Pr{l:List Dc}{i j:Nat}{e d:Dc}(hj:l[j]? =some e)(hi:l[i]? =some d)(hn: ¬e.name=d.name)(h:(l.take j).any (NI l i)=false):(l.take (j+1)).any (NI l i)=false:=by
 have:l.take (j+1)=l.take j++[e]:=by rw[List.take_add_one,hj];rfl
 rw[this,List.any_append,h];simp[NI,hi,hn]
theorem Pa{l:List Dc}{i:Nat}(ho: ∀d∈l,0≤d.order)(hi:i<l.length)(h:(l.take i).any (NI l i)=false):J2 (l.take i) (l.drop i)=J2 (l.take (i+1)) (l.drop (i+1)):=by
 have hd:l[i]? =some l[i]:=List.getElem?_eq_getElem hi;rw[WS hd,if_neg];rw[Lt _ fun d hd=>ho d (List.mem_of_mem_take hd)]
 rintro⟨e,he,h1⟩
 have:=(List.any_eq_false.1 h) e he;simp[NI,hd,h1]at this
theorem BZ{l:List Dc}{i j:Nat}{d e:Dc}(ho: ∀d∈l,0≤d.order)(hi:l[i]? =some d)(hj:l[j]? =some e)(hlt:j<i)(hn:e.name=d.name):J2 (l.take i) (l.drop i)=some d.at_:=by
 rw[WS hi,if_pos];rw[Lt _ fun d hd=>ho d (List.mem_of_mem_take hd)];have hjl:=(List.getElem?_eq_some_iff.1 hj).1;exact⟨e,List.mem_of_getElem? (i:=j) (by rw[List.getElem?_take_of_lt hlt,hj]),hn⟩
def yl(r:Option Int):AV:=match r with
 |some a=>.tup [.int .i64 a,.bool true]
 |none=>.tup [.int .i64 0,.bool false]
def ym(r:Option Int):AV:=match r with
 |some a=>.tup [.int .i64 a,.int .i64 6]
 |none=>.tup [.int .i64 0,.int .i64 0]

theorem Px{st:St}(hf:Q3 st){l:List Dc}{kd:AV}{ld:List (List AV)}(hD:Yo st.h.get l kd ld)(ho: ∀d∈l,0≤d.order): ∃v st',Ev Tryz.prog Jg 48 [kd] st v st'∧v=yl (J2 [] l)∧Qt st st':=by
 have hln:=hD.ln;have hbn:=hD.Yx;refine QG rfl Tryz.func48 rfl Tryz.ntmps48 rfl fun T hT=>?_;have K:Jk [(0,_)] T:=(.cons (hT 0) .nil);have M:=Mem.start hf;refine Qc 3 K M ?_;intro _ K;refine JX (fun mm1 T st9=> ∃(i:Nat),mm1=l.length-i∧Jk [(0,kd),(4,.int .i64 (((i:Nat):Int)))] T∧Mem st.h.get st.n [] st9 []∧i≤l.length∧J2 [] l=J2 (l.take i) (l.drop i)) (fun mm1 T st9 hI=>?_) _ _ _ ⟨0,rfl,(.cons (K _ _ rfl) (.cons (K _ _ rfl) .nil)),M.less (.refl _),(Nat.zero_le _),rfl⟩;obtain⟨i,rfl,K,M,hi,hx⟩:=hI;refine Qc 2 K M ?_;intro _ K;refine o1 K (QP JR rfl rfl hD.len) rfl fun _ K=>?_;refine Qc 1 K M ?_;intro _ K;refine YX K rfl (fun h9=>?_) fun h9=>?_
 ·refine Qc 1 K M ?_;intro _ K;refine JX (fun mm2 T st9=> ∃(j:Nat),mm2=i-j∧Jk [(0,kd),(4,.int .i64 (((i:Nat):Int))),(5,.int .i64 (((j:Nat):Int)))] T∧Mem st.h.get st.n [] st9 []∧j≤i∧(l.take j).any (NI l i)=false) (fun mm2 T st9 hI=>?_) _ _ _ ⟨0,rfl,(.cons (K _ _ rfl) (.cons (K _ _ rfl) (.cons (K _ _ rfl) .nil))),M.less (.refl _),(Nat.zero_le _),rfl⟩;obtain⟨j,rfl,K,M,hj,hy⟩:=hI;refine Qc 3 K M ?_;intro _ K;refine YX K rfl (fun h14=>?_) fun h14=>?_
  ·refine QO ?_;show W _ _ _ _ _ _ _;refine Qw<|UN<|Qw ?_;refine Jr (l:=[(0,0),(1,0),(2,0),(3,0),(4,0),(5,0),(6,0),(7,0),(8,0),(9,0),(10,0)]) (by kernel_rfl) ?_;refine d1 rfl K (Qb rfl) rfl rfl fun _ K=>d1 rfl K (Qb rfl) rfl rfl fun _ K=>?_;obtain⟨⟨dn19,do19,da19⟩,hi19⟩: ∃k,l[j]? =some k:=⟨_,List.getElem?_eq_getElem (by omega)⟩;have hm19:=UI hi19;obtain⟨_,hc19,rfl,hy19⟩:=hD.at_ _ _ hi19;obtain⟨x19,m19,f19,q19,_,la19,lo19,lp19⟩:=(hD.r.mem M (by simp)).load (i:=j) (cs:=_) hc19;refine d1 rfl K (Qn (j:=j) Ug (congrArg some q19) rfl (by rw[hD.ln];omega)) rfl rfl fun _ K=>d1 rfl K (Qf Z5 rfl) rfl rfl fun _ K=>d1 rfl K (Qq rfl (lo19 _ 0 _ Ji rfl)) rfl rfl fun _ K=>d1 rfl K (Qb rfl) rfl rfl fun _ K=>d1 rfl K (Qb rfl) rfl rfl fun _ K=>?_;obtain⟨⟨dn24,do24,da24⟩,hi24⟩: ∃k,l[i]? =some k:=⟨_,List.getElem?_eq_getElem (by omega)⟩;have hm24:=UI hi24;obtain⟨_,hc24,rfl,hy24⟩:=hD.at_ _ _ hi24;obtain⟨x24,m24,f24,q24,_,la24,lo24,lp24⟩:=(hD.r.mem M (by simp)).load (i:=i) (cs:=_) hc24;refine d1 rfl K (Qn (j:=i) Ug (congrArg some q24) rfl (by rw[hD.ln];omega)) rfl rfl fun _ K=>d1 rfl K (Qf Z5 rfl) rfl rfl fun _ K=>d1 rfl K (Qq rfl (lo24 _ 0 _ Ji rfl)) rfl rfl fun _ K=>d1 rfl K (QD rfl rfl) rfl rfl fun _ K=>J4 ?_;show W _ _ _ _ _ _ _;refine YX K rfl (fun h27=>?_) fun h27=>?_
   ·refine Qc 2 K M ?_;intro _ K;obtain⟨⟨dn30,do30,da30⟩,hi30⟩: ∃k,l[i]? =some k:=⟨_,List.getElem?_eq_getElem (by omega)⟩;have hm30:=UI hi30;obtain⟨_,hc30,rfl,hy30⟩:=hD.at_ _ _ hi30;obtain⟨x30,m30,f30,q30,_,la30,lo30,lp30⟩:=(hD.r.mem M (by simp)).load (i:=i) (cs:=_) hc30;refine o1 K (Qn (j:=i) Ug (congrArg some q30) rfl (by rw[hD.ln];omega)) rfl fun _ K=>o1 K (Qf FE rfl) rfl fun _ K=>o1 K (Qq rfl (lo30 _ 2 _ QA rfl)) rfl fun _ K=>?_;refine Qc 2 K M ?_;intro _ K;refine Qd ⟨.inr rfl,_,Zm K rfl rfl,?_⟩;cases Option.some.inj (hi24.symm.trans hi30);exact⟨by rw[hx,BZ ho hi24 hi19 (by omega) h27];rfl,M.qt⟩
   refine Qc 1 K M ?_;intro _ K;refine o1 K (QV rfl rfl (by omega) (by omega)) rfl fun _ K=>o1 K (Qu rfl) rfl fun _ K=>Q5 ?_;exact⟨_,(by omega),j+1,rfl,(.cons (K _ _ rfl) (.cons (K _ _ rfl) (.cons (K _ _ rfl) .nil))),M.less (.refl _),(by omega),(Pr hi19 hi24 h27 hy)⟩
  refine JJ ?_;show W _ _ _ _ _ _ _;refine Qi<|o1 K (Qb rfl) rfl fun _ K=>o1 K (QV rfl rfl (by omega) (by omega)) rfl fun _ K=>o1 K (Qu rfl) rfl fun _ K=>Q5 ?_;exact⟨_,(by omega),i+1,rfl,(.cons (K _ _ rfl) (.cons (K _ _ rfl) .nil)),M.less (.refl _),(by omega),(by rw[hx];exact Pa ho (by omega) (by rw[show j=i by omega]at hy;exact hy))⟩
 refine JJ ?_;show W _ _ _ _ _ _ _;refine Qc 2 K M ?_;intro _ K;refine Qd ⟨.inr rfl,_,Zm K rfl rfl,?_⟩;exact⟨by rw[hx,Jh (by omega)];rfl,M.qt⟩

theorem D8{st:St}(hf:Q3 st){ps:List Pd}{kp:AV}{lp:List (List AV)}(hP:EE st.h.get ps kp lp)(nm:List Nat): ∃v st',Ev Tryz.prog Jg 49 [kp,.str nm] st v st'∧v=.int .i64 (VL (fun p:Pd=>decide (p.name=nm)) ps 0)∧Qt st st':=by
 have hln:=hP.ln;have hbn:=hP.Yx;refine QG rfl Tryz.func49 rfl Tryz.ntmps49 rfl fun T hT=>?_;have K:Jk [(0,_),(1,_)] T:=(.cons (hT 0) (.cons (hT 1) .nil));have M:=Mem.start hf;refine Qc 2 K M ?_;intro _ K;refine JX (fun mm1 T st9=> ∃(i:Nat),mm1=ps.length-i∧Jk [(0,kp),(1,.str nm),(5,.int .i64 (((i:Nat):Int)))] T∧Mem st.h.get st.n [] st9 []∧i≤ps.length∧VL (fun p:Pd=>decide (p.name=nm)) ps 0=VL (fun p:Pd=>decide (p.name=nm)) (ps.drop i) i) (fun mm1 T st9 hI=>?_) _ _ _ ⟨0,rfl,(.cons (K _ _ rfl) (.cons (K _ _ rfl) (.cons (K _ _ rfl) .nil))),M.less (.refl _),(Nat.zero_le _),rfl⟩;obtain⟨i,rfl,K,M,hi,hx⟩:=hI;refine Qc 2 K M ?_;intro _ K;refine o1 K (QP Y3 rfl rfl hP.len) rfl fun _ K=>?_;refine Qc 1 K M ?_;intro _ K;refine YX K rfl (fun h9=>?_) fun h9=>?_
 ·refine Qc 2 K M ?_;intro _ K;obtain⟨⟨pn14,pp14,⟨_,_,_,_,l14⟩,pa14⟩,hi14⟩: ∃k,ps[i]? =some k:=⟨_,List.getElem?_eq_getElem (by omega)⟩;have hm14:=UI hi14;obtain⟨_,hc14,hP14⟩:=hP.at_ _ _ hi14;have hP140:=hP14;obtain⟨kd14,ld14,o14,s14,z14,a14,kk14,rfl,hD14,hn14,hy14⟩:=hP140;obtain⟨kx14,ls14,ex14,hK14,hb14⟩:=hn14.Ju
  injection ex14 with x1 x;injection x with x2 x;injection x with x3 x;injection x with x4 x;injection x with x5 x
  injection x1 with x1;injection x2 with x2;injection x3 with _ x3;injection x4 with _ x4
  subst x1 x2 x3 x4 x5;replace hD14:Yo st.h.get pp14 kd14 ld14:=hD14;replace hn14:YW st.h.get (.mk o14 s14 z14 a14 l14) _:=hn14;replace hy14:Bytes pn14:=hy14;have hl14:=hK14.Yx;have hd14:=hD14.Yx;obtain⟨x14,m14,f14,q14,_,la14,lo14,lp14⟩:=(hP.r.mem M (by simp)).load (i:=i) (cs:=_) hc14;refine o1 K (Qn (j:=i) Um (congrArg some q14) rfl (by rw[hP.ln];omega)) rfl fun _ K=>o1 K (Qf El rfl) rfl fun _ K=>o1 K (Qq rfl (lo14 _ 0 _ Ji rfl)) rfl fun _ K=>?_;refine Qc 2 K M ?_;intro _ K;refine YX K rfl (fun h18=>?_) fun h18=>?_
  ·refine Qc 2 K M ?_;intro _ K;refine Qd ⟨.inr rfl,_,J7 K rfl,?_⟩;exact⟨by rw[hx,XD hi14,if_pos (by simpa using h18)],M.qt⟩
  refine Qc 1 K M ?_;intro _ K;refine o1 K (QV rfl rfl (by omega) (by omega)) rfl fun _ K=>o1 K (Qu rfl) rfl fun _ K=>Q5 ?_;exact⟨_,(by omega),i+1,rfl,(.cons (K _ _ rfl) (.cons (K _ _ rfl) (.cons (K _ _ rfl) .nil))),M.less (.refl _),(by omega),(by rw[hx,XD hi14,if_neg (by simpa using h18)])⟩
 refine JJ ?_;show W _ _ _ _ _ _ _;refine Qc 1 K M ?_;intro _ K;refine Qd ⟨.inr rfl,_,J7 K rfl,?_⟩;exact⟨by rw[hx,Jh (by omega)];rfl,M.qt⟩

theorem RG{st:St}(hf:Q3 st){l:List Dc}{kd:AV}{ld:List (List AV)}(hD:Yo st.h.get l kd ld): ∃v st',Ev Tryz.prog Jg 44 [kd] st v st'∧v=ym (J2 [] l)∧Qt st st':=by
 have hln:=hD.ln;have hbn:=hD.Yx;refine QG rfl Tryz.func44 rfl Tryz.ntmps44 rfl fun T hT=>?_;have K:Jk [(0,_)] T:=(.cons (hT 0) .nil);have M:=Mem.start hf;refine Qc 3 K M ?_;intro _ K;refine o1 K (QP JR rfl rfl hD.len) rfl fun _ K=>?_;refine Qc 1 K M ?_;intro _ K;refine JX (fun mm1 T st9=> ∃(i:Nat),mm1=l.length-i∧Jk [(0,kd),(6,kd),(7,.int .i64 (((l.length:Nat):Int))),(8,.int .i64 (((i:Nat):Int)))] T∧Mem st.h.get st.n [] st9 []∧i≤l.length∧J2 [] l=J2 (l.take i) (l.drop i)) (fun mm1 T st9 hI=>?_) _ _ _ ⟨0,rfl,(.cons (K _ _ rfl) (.cons (K _ _ rfl) (.cons (K _ _ rfl) (.cons (K _ _ rfl) .nil)))),M.less (.refl _),(Nat.zero_le _),rfl⟩;obtain⟨i,rfl,K,M,hi,hx⟩:=hI;refine Qc 1 K M ?_;intro _ K;refine YX K rfl (fun h9=>?_) fun h9=>?_
 ·refine Qc 1 K M ?_;intro _ K;obtain⟨⟨dn11,do11,da11⟩,hi11⟩: ∃k,l[i]? =some k:=⟨_,List.getElem?_eq_getElem (by omega)⟩;have hm11:=UI hi11;obtain⟨_,hc11,rfl,hy11⟩:=hD.at_ _ _ hi11;obtain⟨x11,m11,f11,q11,_,la11,lo11,lp11⟩:=(hD.r.mem M (by simp)).load (i:=i) (cs:=_) hc11;refine o1 K (Qn (j:=i) Ug (congrArg some q11) rfl (by rw[hD.ln];omega)) rfl fun _ K=>o1 K (Qq rfl (la11 _ WT)) rfl fun _ K=>?_;refine au 3 K M ?_;intro c5 _ _ K _ M;refine Jr (l:=[(0,0),(1,0),(2,0),(3,0),(4,0),(5,0),(6,0)]) (by kernel_rfl) ?_;refine d1 rfl K (Qb rfl) rfl rfl fun _ K=>d1 rfl K (Qb rfl) rfl rfl fun _ K=>d1 rfl K (OI (n:=i) hD.r (by omega) Ug rfl rfl (by omega)) rfl rfl fun _ K=>d1 rfl K (Qf Z5 rfl) rfl rfl fun _ K=>d1 rfl K (Qq rfl (M.load (k:=0) rfl (Ql Ji rfl))) rfl rfl fun _ K=>?_;obtain⟨v18,st18,ev18,rfl,q18⟩:=Ls M.fresh (Yo.mono M.rows (Vd.head hD (n:=i) (by omega) (by omega))) dn11;refine dA rfl K (Qg rfl ev18) rfl rfl fun _ K=>?_;replace M:=M.quiet q18;refine d1 rfl K (AD rfl rfl) rfl rfl fun _ K=>J4 ?_;show W _ _ _ _ _ _ _;refine YX K rfl (fun h19=>?_) fun h19=>?_
  ·refine Qc 4 K M ?_;intro _ K;refine Qd ⟨.inr rfl,_,Zm K rfl rfl,?_⟩;exact⟨by rw[hx,WS hi11,if_pos (by omega)];rfl,M.qt⟩
  refine QO ?_;show W _ _ _ _ _ _ _;refine Qi<|o1 K (QV rfl rfl (by omega) (by omega)) rfl fun _ K=>o1 K (Qb rfl) rfl fun _ K=>Q5 ?_;exact⟨_,(by omega),i+1,rfl,(.cons (K _ _ rfl) (.cons (K _ _ rfl) (.cons (K _ _ rfl) (.cons (K _ _ rfl) .nil)))),M.less (.cons _ (.refl _)),(by omega),(by rw[hx,WS hi11,if_neg (by omega)])⟩
 refine JJ ?_;show W _ _ _ _ _ _ _;refine Qc 2 K M ?_;intro _ K;refine Qd ⟨.inr rfl,_,Zm K rfl rfl,?_⟩;exact⟨by rw[hx,Jh (by omega)];rfl,M.qt⟩
end Go.Proofs.YtadjjadimlkkgaaGreatDoor
end
