/-
  Programs that a call is handed, by rows; names are of bytes.
-/
import Derived.ChangeShapes
import Derived.ChangeOld
import Derived.Below
import Derived.Carry
import Derived.Test.YtadjjadimlkkgaaGreatDoorLoLwB
set_option maxRecDepth 100000
set_option maxHeartbeats 8000000
set_option linter.unnecessarySimpa false
set_option linter.unusedSimpArgs false
set_option linter.unusedVariables false
section
namespace Go.Proofs.YtadjjadimlkkgaaGreatDoor
open Go Go.RowKit

structure VV{K:Type}(h:Hp)(z:Nat)(R:K→List AV→Prop)(l:List K)(kk:AV)(ls:List (List AV)):Prop where
 r:J1 h [] z ls kk
 ln:ls.length=l.length
 at_: ∀(i:Nat) (k:K),l[i]? =some k→ ∃cs,ls[i]? =some cs∧R k cs
section
variable {K:Type} {h h':Hp} {z:Nat} {R R':K→List AV→Prop} {l:List K} {kk:AV} {ls:List (List AV)}
theorem VV.len(H:VV h z R l kk ls):ZF kk=some l.length:=by rw[←H.ln];exact H.r.len
theorem VV.cell(H:VV h z R l kk ls):Jy kk=true:=H.r.cell
theorem VV.ZJ(H:VV h z R l kk ls):(l.length:Int)≤9223372036854775807:=by rw[←H.ln];exact H.r.ZJ
theorem J1.mono(hl:FG h h')(r:J1 h [] z ls kk):J1 h' [] z ls kk:=
 ⟨r.len,r.ZJ,r.cell,fun i cs hi=>by
  obtain⟨c,m,off,cells,h1,h2,h3,h4⟩:=r.at_ i cs hi
  exact⟨c,m,off,cells,h1,h2,hl _ _ _ h3,h4⟩,fun c m off n z' e=>by
  obtain⟨h1,cells,h2,h3⟩:=r.alive c m off n z' e
  exact⟨h1,cells,hl _ _ _ h2,h3⟩⟩
theorem VV.mono(hl:FG h h')(hR: ∀k cs,R k cs→R' k cs)(H:VV h z R l kk ls):VV h' z R' l kk ls:=
 ⟨H.r.mono hl,H.ln,fun i k hi=>by
  obtain⟨cs,h1,h2⟩:=H.at_ i k hi
  exact⟨cs,h1,hR _ _ h2⟩⟩
end
def xD(d:Dc)(cs:List AV):Prop:=cs=[.str d.name,.int .i64 d.order,.int .i64 d.at_]∧Bytes d.name
def Xs(h:Hp)(l:List Dc)(kk:AV)(ls:List (List AV)):Prop:=VV h 3 xD l kk ls
def jy(h:Hp)(p:Pd)(cs:List AV):Prop:= ∃kp lp op nm n a kk,cs=[.str p.name,kp,.str op,.str nm,.int .i64 n,.int .i64 a,kk,.int .i64 p.at_]∧Xs h p.params kp lp∧Vn h p.body [.str op,.str nm,.int .i64 n,.int .i64 a,kk]∧Bytes p.name
def Kj(h:Hp)(l:List Pd)(kk:AV)(ls:List (List AV)):Prop:=VV h 8 (jy h) l kk ls
def xw(h:Hp)(p:Pg)(cs:List AV):Prop:= ∃kd ld kp lp op nm n a kk,cs=[kd,kp,.str op,.str nm,.int .i64 n,.int .i64 a,kk]∧Xs h p.decls kd ld∧Kj h p.preds kp lp∧Vn h p.main [.str op,.str nm,.int .i64 n,.int .i64 a,kk]
theorem Xs.mono{h h':Hp}(hl:FG h h'){l:List Dc}{kk:AV}{ls:List (List AV)}(H:Xs h l kk ls):Xs h' l kk ls:=VV.mono hl (fun _ _ h=>h) H
theorem jy.mono{h h':Hp}(hl:FG h h'){p:Pd}{cs:List AV}(H:jy h p cs):jy h' p cs:=by
 obtain⟨kp,lp,op,nm,n,a,kk,e,h1,h2,h3⟩:=H;exact⟨kp,lp,op,nm,n,a,kk,e,h1.mono hl,h2.mono hl,h3⟩
theorem Kj.mono{h h':Hp}(hl:FG h h'){l:List Pd}{kk:AV}{ls:List (List AV)}(H:Kj h l kk ls):Kj h' l kk ls:=VV.mono hl (fun _ _ h=>h.mono hl) H
theorem xw.mono{h h':Hp}(hl:FG h h'){p:Pg}{cs:List AV}(H:xw h p cs):xw h' p cs:=by
 obtain⟨kd,ld,kp,lp,op,nm,n,a,kk,e,h1,h2,h3⟩:=H;exact⟨kd,ld,kp,lp,op,nm,n,a,kk,e,h1.mono hl,h2.mono hl,h3.mono hl⟩
end Go.Proofs.YtadjjadimlkkgaaGreatDoor
end
section
namespace Go.Proofs.YtadjjadimlkkgaaGreatDoor
open Go Go.RowKit

def Vx(d:Dc):Bool:=VP d.name&&(decide (0≤d.order)&&decide (d.order<3))
def WH(p:Pd):Bool:=VP p.name&&(decide (((p.params.length:Nat):Int)≤6)&&(p.params.all Vx&&(UQ p.body 2000&&Jz p.body)))
def EP(p:Pg):Bool:=p.decls.all Vx&&(p.preds.all WH&&(UQ p.main 2000&&Jz p.main))
theorem Ck{α:Type}(p:α→Bool)(l:List α):(!l.any fun k=> !p k)=l.all p:=by
 induction l with
 |nil=>rfl
 |cons k l ih=>rw[List.any_cons,List.all_cons,←ih];cases p k<;>simp
theorem NZ{α:Type}(p:α→Bool)(l:List α):(l.any fun k=> !p k)= !l.all p:=by rw[←Ck,Bool.not_not]
theorem Fj(ds:List Dc)(ps:List Pd)(m:Nd):EP ⟨ds,ps,m⟩=(ds.all Vx&&(ps.all WH&&(UQ m 2000&&Jz m))):=rfl
theorem Fk(n:List Nat)(pp:List Dc)(b:Nd)(z:Int):WH ⟨n,pp,b,z⟩=(VP n&&(decide (((pp.length:Nat):Int)≤6)&&(pp.all Vx&&(UQ b 2000&&Jz b)))):=rfl
theorem En{α:Type}{l:List α}{i:Nat}{k:α}(h:l[i]? =some k):k∈l:=List.mem_of_getElem? h

theorem SN{nm:List Nat}{od at_:Int}{st:St}(hf:Q6 st): ∃v st',Ev Tryz.prog Ja 141 [.agg [.str nm,.int .i64 od,.int .i64 at_]] st v st'∧v=.bool (Vx ⟨nm,od,at_⟩)∧Qt st st':=by
 refine QC rfl Tryz.func141 rfl Tryz.ntmps141 rfl fun T hT=>?_;have K:Jm [(0,_)] T:=(.cons (hT 0) .nil);have M:=Mem.start hf;refine Qq<|Qh ?_;refine J2 K M rfl rfl (by decide) fun c1 _ _ K M=>?_;refine Qg 3 K M ?_;intro _ K;refine oQ K M (Wy M.fresh nm) rfl rfl fun _ _ K M=>?_;refine oB K (Qb rfl) rfl fun b6 _ e6 K=>?_;cases b6
 ·refine Qg 10 K M ?_;intro _ K;refine Qe ⟨.inr rfl,_,JU K rfl,?_⟩;refine⟨congrArg AV.bool ?_,M.qt⟩;rw[Vx]
  simp_all<;>first|done|rfl|omega|(intros;omega)|(intros;simp_all;done)
 refine Qg 4 K M ?_;intro _ K;refine oB K (Qb rfl) rfl fun b11 _ e11 K=>?_;cases b11
 ·replace e11:=of_decide_eq_false e11;refine Qg 5 K M ?_;intro _ K;refine Qe ⟨.inr rfl,_,JU K rfl,?_⟩;refine⟨congrArg AV.bool ?_,M.qt⟩;rw[Vx]
  simp_all<;>first|done|rfl|omega|(intros;omega)|(intros;simp_all;done)
 replace e11:=of_decide_eq_true e11;refine Qg 5 K M ?_;intro _ K;refine Qe ⟨.inr rfl,_,JU K rfl,?_⟩;refine⟨congrArg AV.bool ?_,M.qt⟩;rw[Vx]
 simp_all<;>first|done|rfl|omega|(intros;omega)|(intros;simp_all;done)

theorem Bx{nm:List Nat}{od at_:Int}{st:St}(hf:Q6 st): ∃v st',Ev Tryz.prog Ja 140 [.agg [.str nm,.int .i64 od,.int .i64 at_]] st v st'∧v=.bool (!Vx ⟨nm,od,at_⟩)∧Qt st st':=by
 refine QC rfl Tryz.func140 rfl Tryz.ntmps140 rfl fun T hT=>?_;have K:Jm [(0,_)] T:=(.cons (hT 0) .nil);have M:=Mem.start hf;refine Qq<|Qh ?_;refine J2 K M rfl rfl (by decide) fun c1 _ _ K M=>?_;refine Qg 2 K M ?_;intro _ K;refine oQ K M (SN M.fresh) rfl rfl fun _ _ K M=>?_;refine Qg 2 K M ?_;intro _ K;refine Qe ⟨.inr rfl,_,JU K rfl,?_⟩;exact⟨rfl,M.qt⟩

theorem Po{st:St}(hf:Q6 st){l:List Dc}{kk:AV}{ls:List (List AV)}(hD:Xs st.h.get l kk ls){fo:FuncId}{fa fc:List AV}{p:Dc→Bool}(hC: ∀(k:Dc),k∈l→ ∀(st1:St) (cs:List AV),Qt st st1→xD k cs→ ∃v st',Ev Tryz.prog Ja fo (fa++([.agg cs]++fc)) st1 v st'∧v=.bool (p k)∧Qt st1 st'): ∃v st',Ev Tryz.prog Ja 194 [kk,(AV.fn fo fa fc)] st v st'∧v=.int .i64 (AB p l 0)∧Qt st st':=by
 have hln:=hD.ln;have hbn:=hD.ZJ;refine QC rfl Tryz.func194 rfl Tryz.ntmps194 rfl fun T hT=>?_;have K:Jm [(0,_),(1,_)] T:=(.cons (hT 0) (.cons (hT 1) .nil));have M:=Mem.start hf;refine Qg 2 K M ?_;intro _ K;refine o1 K (Jd U9 rfl rfl hD.len) rfl fun _ K=>?_;refine Qg 1 K M ?_;intro _ K;refine U8 (fun mm1 T st9=> ∃(i:Nat),mm1=l.length-i∧Jm [(0,kk),(1,(AV.fn fo fa fc)),(7,.int .i64 (((l.length:Nat):Int))),(8,.int .i64 (((i:Nat):Int)))] T∧Mem st.h.get st.n [] st9 []∧i≤l.length∧AB p l 0=AB p (l.drop i) i) (fun mm1 T st9 hI=>?_) _ _ _ ⟨0,rfl,(.cons (K _ _ rfl) (.cons (K _ _ rfl) (.cons (K _ _ rfl) (.cons (K _ _ rfl) .nil)))),M.less (.refl _),(Nat.zero_le _),rfl⟩;obtain⟨i,rfl,K,M,hi,hx⟩:=hI;refine Qg 1 K M ?_;intro _ K;refine Z0 K rfl (fun h9=>?_) fun h9=>?_
 ·refine Qg 5 K M ?_;intro _ K;obtain⟨⟨dn14,do14,da14⟩,hi14⟩: ∃k,l[i]? =some k:=⟨_,List.getElem?_eq_getElem (by omega)⟩;have hm14:=En hi14;obtain⟨_,hc14,rfl,hy14⟩:=hD.at_ _ _ hi14;obtain⟨x14,m14,f14,q14,_,la14,lo14,lp14⟩:=(hD.r.mem M (by simp)).load (i:=i) (cs:=_) hc14;refine o1 K (Qr (j:=i) Z7 (congrArg some q14) rfl (by rw[hD.ln];omega)) rfl fun _ K=>o1 K (Qx rfl (la14 _ VJ)) rfl fun _ K=>?_;obtain⟨v16,st16,ev16,rfl,q16⟩:=hC ⟨dn14,do14,da14⟩ hm14 _ _ M.qt ⟨rfl,hy14⟩;refine o1 K (Yz rfl rfl ev16) rfl fun _ K=>?_;replace M:=M.quiet q16;refine Q5 ?_;show W _ _ _ _ _ _ _;refine Qn (K.QR rfl) (fun h16=>?_) (fun h16=>?_)
  ·have hb16:=h16;refine Qg 2 K M ?_;intro _ K;refine Qe ⟨.inr rfl,_,JU K rfl,?_⟩;exact⟨by rw[hx,Wz hi14,if_pos h16],M.qt⟩
  have hb16:=h16;refine QT ?_;show W _ _ _ _ _ _ _;refine Qh<|o1 K (Jn rfl rfl (by omega) (by omega)) rfl fun _ K=>o1 K (Qb rfl) rfl fun _ K=>Q5 ?_;exact⟨_,(by omega),i+1,rfl,(.cons (K _ _ rfl) (.cons (K _ _ rfl) (.cons (K _ _ rfl) (.cons (K _ _ rfl) .nil)))),M.less (.refl _),(by omega),(by rw[hx,Wz hi14,if_neg (by rw[h16];decide)])⟩
 refine Uc ?_;show W _ _ _ _ _ _ _;refine Qg 1 K M ?_;intro _ K;refine Qe ⟨.inr rfl,_,JU K rfl,?_⟩;exact⟨by rw[hx,Zi (by omega)];rfl,M.qt⟩

theorem O9{st:St}(hf:Q6 st){l:List Dc}{kk:AV}{ls:List (List AV)}(hD:Xs st.h.get l kk ls){fo:FuncId}{fa fc:List AV}{p:Dc→Bool}(hC: ∀(k:Dc),k∈l→ ∀(st1:St) (cs:List AV),Qt st st1→xD k cs→ ∃v st',Ev Tryz.prog Ja fo (fa++([.agg cs]++fc)) st1 v st'∧v=.bool (p k)∧Qt st1 st'): ∃v st',Ev Tryz.prog Ja 139 [kk,(AV.fn fo fa fc)] st v st'∧v=.bool (l.any p)∧Qt st st':=by
 have hln:=hD.ln;have hbn:=hD.ZJ;refine QC rfl Tryz.func139 rfl Tryz.ntmps139 rfl fun T hT=>?_;have K:Jm [(0,_),(1,_)] T:=(.cons (hT 0) (.cons (hT 1) .nil));have M:=Mem.start hf;refine Qg 3 K M ?_;intro _ K;refine oQ K M (Po M.fresh (Xs.mono M.rows hD) (fun k hk st1 cs q hr=>hC k hk st1 cs (M.qt.trans q) hr)) rfl rfl fun _ _ K M=>?_;refine Qg 2 K M ?_;intro _ K;refine Qe ⟨.inr rfl,_,JU K rfl,?_⟩;exact⟨by rw[←NA p l 0],M.qt⟩

theorem Lh{st:St}(hf:Q6 st){l:List Dc}{kk:AV}{ls:List (List AV)}(hD:Xs st.h.get l kk ls): ∃v st',Ev Tryz.prog Ja 86 [kk] st v st'∧v=.bool (l.all Vx)∧Qt st st':=by
 refine QC rfl Tryz.func86 rfl Tryz.ntmps86 rfl fun T hT=>?_;have K:Jm [(0,_)] T:=(.cons (hT 0) .nil);have M:=Mem.start hf;refine Qg 2 K M ?_;intro _ K
 obtain⟨v4,st4,ev4,rfl,q4⟩:=O9 (fa:=[]) (fc:=[]) (p:=fun k=> !Vx k) M.fresh (Xs.mono M.rows hD) (fun k hk st1 cs q hr1=>by
  obtain⟨k1,k2,k3⟩:=k;obtain⟨rfl,hy⟩:=hr1
  exact Bx q.fresh)
 refine o1 K (Qc rfl ev4) rfl fun _ K=>?_;replace M:=M.quiet q4;refine Qg 2 K M ?_;intro _ K;refine Qe ⟨.inr rfl,_,JU K rfl,?_⟩;exact⟨by rw[Ck],M.qt⟩

theorem SJ{pn:List Nat}{pp:List Dc}{o s:List Nat}{z a pa:Int}{l:List Nd}{st:St}{cs:List AV}(hf:Q6 st)(hr:jy st.h.get ⟨pn,pp,.mk o s z a l,pa⟩ cs): ∃v st',Ev Tryz.prog Ja 89 [.agg cs] st v st'∧v=.bool (WH ⟨pn,pp,.mk o s z a l,pa⟩)∧Qt st st':=by
 have hr0:=hr;have hr0:=hr;obtain⟨kd,ld,o,s,z,a,kk,rfl,hD,hn,hy⟩:=hr0;obtain⟨kx,ls,ex,hK,hb⟩:=hn.Ua
 injection ex with x1 x;injection x with x2 x;injection x with x3 x;injection x with x4 x;injection x with x5 x
 injection x1 with x1;injection x2 with x2;injection x3 with _ x3;injection x4 with _ x4
 subst x1 x2 x3 x4 x5;replace hD:Xs st.h.get pp kd ld:=hD;replace hn:Vn st.h.get (.mk o s z a l) _:=hn;replace hy:Bytes pn:=hy;have hl:=hK.ZJ;have hd:=hD.ZJ;refine QC rfl Tryz.func89 rfl Tryz.ntmps89 rfl fun T hT=>?_;have K:Jm [(0,_)] T:=(.cons (hT 0) .nil);have M:=Mem.start hf;refine Qq<|Qh ?_;refine J2 K M rfl (Qa rfl (Qa hD.cell (Qa rfl (Qa rfl (Qa rfl (Qa rfl (Qa hK.cell (Qa rfl Qv)))))))) (by decide) fun c1 _ _ K M=>?_;refine Qg 3 K M ?_;intro _ K;refine oQ K M (Wy M.fresh pn) rfl rfl fun _ _ K M=>?_;refine oB K (Qb rfl) rfl fun b6 _ e6 K=>?_;cases b6
 ·refine Qg 16 K M ?_;intro _ K;refine Qe ⟨.inr rfl,_,JU K rfl,?_⟩;refine⟨congrArg AV.bool ?_,M.qt⟩;rw[Fk]
  try clear hr
  try clear hr0
  try clear hD
  try clear hn
  try clear hK
  try clear hb
  try generalize pp.all Vx=q1 at *
  try generalize UQ (.mk o s z a l) 2000=q2 at *
  try generalize Jz (.mk o s z a l)=q3 at *
  simp_all<;>first|done|rfl|omega|(intros;omega)|(intros;simp_all;done)
 refine Qg 2 K M ?_;intro _ K;refine og K rfl rfl (Jd U9 rfl rfl hD.len) rfl fun _ K=>?_;refine Qg 2 K M ?_;intro _ K;refine oB K (Qb rfl) rfl fun b12 _ e12 K=>?_;cases b12
 ·replace e12:=of_decide_eq_false e12;refine Qg 10 K M ?_;intro _ K;refine Qe ⟨.inr rfl,_,JU K rfl,?_⟩;refine⟨congrArg AV.bool ?_,M.qt⟩;rw[Fk]
  try clear hr
  try clear hr0
  try clear hD
  try clear hn
  try clear hK
  try clear hb
  try generalize pp.all Vx=q1 at *
  try generalize UQ (.mk o s z a l) 2000=q2 at *
  try generalize Jz (.mk o s z a l)=q3 at *
  simp_all<;>first|done|rfl|omega|(intros;omega)|(intros;simp_all;done)
 replace e12:=of_decide_eq_true e12;refine Qg 2 K M ?_;intro _ K;obtain⟨v15,st15,ev15,rfl,q15⟩:=Lh M.fresh (Xs.mono M.rows hD);refine og K rfl rfl (Qc rfl ev15) rfl fun _ K=>?_;replace M:=M.quiet q15;refine o1 K (UY rfl rfl rfl) rfl fun _ K=>?_;refine oB K (Qb rfl) rfl fun b17 _ e17 K=>?_;cases b17
 ·refine Qg 5 K M ?_;intro _ K;refine Qe ⟨.inr rfl,_,JU K rfl,?_⟩;refine⟨congrArg AV.bool ?_,M.qt⟩;rw[Fk]
  try clear hr
  try clear hr0
  try clear hD
  try clear hn
  try clear hK
  try clear hb
  try generalize pp.all Vx=q1 at *
  try generalize UQ (.mk o s z a l) 2000=q2 at *
  try generalize Jz (.mk o s z a l)=q3 at *
  simp_all<;>first|done|rfl|omega|(intros;omega)|(intros;simp_all;done)
 refine Qg 2 K M ?_;intro _ K;obtain⟨v20,st20,ev20,rfl,q20⟩:=Ey M.fresh (hn.mono M.rows);refine og K rfl rfl (Qc rfl ev20) rfl fun _ K=>?_;replace M:=M.quiet q20;refine Qg 2 K M ?_;intro _ K;refine Qe ⟨.inr rfl,_,JU K rfl,?_⟩;refine⟨congrArg AV.bool ?_,M.qt⟩;rw[Fk]
 try clear hr
 try clear hr0
 try clear hD
 try clear hn
 try clear hK
 try clear hb
 try generalize pp.all Vx=q1 at *
 try generalize UQ (.mk o s z a l) 2000=q2 at *
 try generalize Jz (.mk o s z a l)=q3 at *
 simp_all<;>first|done|rfl|omega|(intros;omega)|(intros;simp_all;done)

theorem zx{pn:List Nat}{pp:List Dc}{o s:List Nat}{z a pa:Int}{l:List Nd}{st:St}{cs:List AV}(hf:Q6 st)(hr:jy st.h.get ⟨pn,pp,.mk o s z a l,pa⟩ cs): ∃v st',Ev Tryz.prog Ja 88 [.agg cs] st v st'∧v=.bool (!WH ⟨pn,pp,.mk o s z a l,pa⟩)∧Qt st st':=by
 have hr0:=hr;have hr0:=hr;obtain⟨kd,ld,o,s,z,a,kk,rfl,hD,hn,hy⟩:=hr0;obtain⟨kx,ls,ex,hK,hb⟩:=hn.Ua
 injection ex with x1 x;injection x with x2 x;injection x with x3 x;injection x with x4 x;injection x with x5 x
 injection x1 with x1;injection x2 with x2;injection x3 with _ x3;injection x4 with _ x4
 subst x1 x2 x3 x4 x5;replace hD:Xs st.h.get pp kd ld:=hD;replace hn:Vn st.h.get (.mk o s z a l) _:=hn;replace hy:Bytes pn:=hy;have hl:=hK.ZJ;have hd:=hD.ZJ;refine QC rfl Tryz.func88 rfl Tryz.ntmps88 rfl fun T hT=>?_;have K:Jm [(0,_)] T:=(.cons (hT 0) .nil);have M:=Mem.start hf;refine Qq<|Qh ?_;refine J2 K M rfl (Qa rfl (Qa hD.cell (Qa rfl (Qa rfl (Qa rfl (Qa rfl (Qa hK.cell (Qa rfl Qv)))))))) (by decide) fun c1 _ _ K M=>?_;refine Qg 2 K M ?_;intro _ K;refine oQ K M (SJ M.fresh (hr.mono M.rows)) rfl rfl fun _ _ K M=>?_;refine Qg 2 K M ?_;intro _ K;refine Qe ⟨.inr rfl,_,JU K rfl,?_⟩;exact⟨rfl,M.qt⟩

theorem N8{st:St}(hf:Q6 st){l:List Pd}{kk:AV}{ls:List (List AV)}(hD:Kj st.h.get l kk ls){fo:FuncId}{fa fc:List AV}{p:Pd→Bool}(hC: ∀(k:Pd),k∈l→ ∀(st1:St) (cs:List AV),Qt st st1→jy st1.h.get k cs→ ∃v st',Ev Tryz.prog Ja fo (fa++([.agg cs]++fc)) st1 v st'∧v=.bool (p k)∧Qt st1 st'): ∃v st',Ev Tryz.prog Ja 142 [kk,(AV.fn fo fa fc)] st v st'∧v=.int .i64 (AB p l 0)∧Qt st st':=by
 have hln:=hD.ln;have hbn:=hD.ZJ;refine QC rfl Tryz.func142 rfl Tryz.ntmps142 rfl fun T hT=>?_;have K:Jm [(0,_),(1,_)] T:=(.cons (hT 0) (.cons (hT 1) .nil));have M:=Mem.start hf;refine Qg 2 K M ?_;intro _ K;refine o1 K (Jd Et rfl rfl hD.len) rfl fun _ K=>?_;refine Qg 1 K M ?_;intro _ K;refine U8 (fun mm1 T st9=> ∃(i:Nat),mm1=l.length-i∧Jm [(0,kk),(1,(AV.fn fo fa fc)),(7,.int .i64 (((l.length:Nat):Int))),(8,.int .i64 (((i:Nat):Int)))] T∧Mem st.h.get st.n [] st9 []∧i≤l.length∧AB p l 0=AB p (l.drop i) i) (fun mm1 T st9 hI=>?_) _ _ _ ⟨0,rfl,(.cons (K _ _ rfl) (.cons (K _ _ rfl) (.cons (K _ _ rfl) (.cons (K _ _ rfl) .nil)))),M.less (.refl _),(Nat.zero_le _),rfl⟩;obtain⟨i,rfl,K,M,hi,hx⟩:=hI;refine Qg 1 K M ?_;intro _ K;refine Z0 K rfl (fun h9=>?_) fun h9=>?_
 ·refine Qg 5 K M ?_;intro _ K;obtain⟨⟨pn14,pp14,⟨_,_,_,_,l14⟩,pa14⟩,hi14⟩: ∃k,l[i]? =some k:=⟨_,List.getElem?_eq_getElem (by omega)⟩;have hm14:=En hi14;obtain⟨_,hc14,hP14⟩:=hD.at_ _ _ hi14;have hP140:=hP14;obtain⟨kd14,ld14,o14,s14,z14,a14,kk14,rfl,hD14,hn14,hy14⟩:=hP140;obtain⟨kx14,ls14,ex14,hK14,hb14⟩:=hn14.Ua
  injection ex14 with x1 x;injection x with x2 x;injection x with x3 x;injection x with x4 x;injection x with x5 x
  injection x1 with x1;injection x2 with x2;injection x3 with _ x3;injection x4 with _ x4
  subst x1 x2 x3 x4 x5;replace hD14:Xs st.h.get pp14 kd14 ld14:=hD14;replace hn14:Vn st.h.get (.mk o14 s14 z14 a14 l14) _:=hn14;replace hy14:Bytes pn14:=hy14;have hl14:=hK14.ZJ;have hd14:=hD14.ZJ;obtain⟨x14,m14,f14,q14,_,la14,lo14,lp14⟩:=(hD.r.mem M (by simp)).load (i:=i) (cs:=_) hc14;refine o1 K (Qr (j:=i) EB (congrArg some q14) rfl (by rw[hD.ln];omega)) rfl fun _ K=>o1 K (Qx rfl (la14 _ Ei)) rfl fun _ K=>?_;obtain⟨v16,st16,ev16,rfl,q16⟩:=hC ⟨pn14,pp14,.mk o14 s14 z14 a14 l14,pa14⟩ hm14 _ _ M.qt (hP14.mono M.rows);refine o1 K (Yz rfl rfl ev16) rfl fun _ K=>?_;replace M:=M.quiet q16;refine Q5 ?_;show W _ _ _ _ _ _ _;refine Qn (K.QR rfl) (fun h16=>?_) (fun h16=>?_)
  ·have hb16:=h16;refine Qg 2 K M ?_;intro _ K;refine Qe ⟨.inr rfl,_,JU K rfl,?_⟩;exact⟨by rw[hx,Wz hi14,if_pos h16],M.qt⟩
  have hb16:=h16;refine QT ?_;show W _ _ _ _ _ _ _;refine Qh<|o1 K (Jn rfl rfl (by omega) (by omega)) rfl fun _ K=>o1 K (Qb rfl) rfl fun _ K=>Q5 ?_;exact⟨_,(by omega),i+1,rfl,(.cons (K _ _ rfl) (.cons (K _ _ rfl) (.cons (K _ _ rfl) (.cons (K _ _ rfl) .nil)))),M.less (.refl _),(by omega),(by rw[hx,Wz hi14,if_neg (by rw[h16];decide)])⟩
 refine Uc ?_;show W _ _ _ _ _ _ _;refine Qg 1 K M ?_;intro _ K;refine Qe ⟨.inr rfl,_,JU K rfl,?_⟩;exact⟨by rw[hx,Zi (by omega)];rfl,M.qt⟩

theorem Hw{st:St}(hf:Q6 st){l:List Pd}{kk:AV}{ls:List (List AV)}(hD:Kj st.h.get l kk ls){fo:FuncId}{fa fc:List AV}{p:Pd→Bool}(hC: ∀(k:Pd),k∈l→ ∀(st1:St) (cs:List AV),Qt st st1→jy st1.h.get k cs→ ∃v st',Ev Tryz.prog Ja fo (fa++([.agg cs]++fc)) st1 v st'∧v=.bool (p k)∧Qt st1 st'): ∃v st',Ev Tryz.prog Ja 87 [kk,(AV.fn fo fa fc)] st v st'∧v=.bool (l.any p)∧Qt st st':=by
 have hln:=hD.ln;have hbn:=hD.ZJ;refine QC rfl Tryz.func87 rfl Tryz.ntmps87 rfl fun T hT=>?_;have K:Jm [(0,_),(1,_)] T:=(.cons (hT 0) (.cons (hT 1) .nil));have M:=Mem.start hf;refine Qg 3 K M ?_;intro _ K;refine oQ K M (N8 M.fresh (Kj.mono M.rows hD) (fun k hk st1 cs q hr=>hC k hk st1 cs (M.qt.trans q) hr)) rfl rfl fun _ _ K M=>?_;refine Qg 2 K M ?_;intro _ K;refine Qe ⟨.inr rfl,_,JU K rfl,?_⟩;exact⟨by rw[←NA p l 0],M.qt⟩

theorem zb{ds:List Dc}{ps:List Pd}{o s:List Nat}{z a:Int}{l:List Nd}{st:St}{cs:List AV}(hf:Q6 st)(hr:xw st.h.get ⟨ds,ps,.mk o s z a l⟩ cs): ∃v st',Ev Tryz.prog Ja 43 [.agg cs] st v st'∧v=.bool (EP ⟨ds,ps,.mk o s z a l⟩)∧Qt st st':=by
 have hr0:=hr;obtain⟨kd,ld,kp,lp,o,s,z,a,kk,rfl,hD,hP,hn⟩:=hr0;obtain⟨kx,ls,ex,hK,hb⟩:=hn.Ua
 injection ex with x1 x;injection x with x2 x;injection x with x3 x;injection x with x4 x;injection x with x5 x
 injection x1 with x1;injection x2 with x2;injection x3 with _ x3;injection x4 with _ x4
 subst x1 x2 x3 x4 x5;replace hD:Xs st.h.get ds kd ld:=hD;replace hP:Kj st.h.get ps kp lp:=hP;replace hn:Vn st.h.get (.mk o s z a l) _:=hn;have hbk:=hK.ZJ;have hbd:=hD.ZJ;have hbp:=hP.ZJ;have hlp:=hP.ln;refine QC rfl Tryz.func43 rfl Tryz.ntmps43 rfl fun T hT=>?_;have K:Jm [(0,_)] T:=(.cons (hT 0) .nil);have M:=Mem.start hf;refine Qq<|Qh ?_;refine J2 K M rfl (Qa hD.cell (Qa hP.cell (Qa rfl (Qa rfl (Qa rfl (Qa rfl (Qa hK.cell Qv))))))) (by decide) fun c1 _ _ K M=>?_;refine Qg 3 K M ?_;intro _ K;refine oQ K M (Lh M.fresh (Xs.mono M.rows hD)) rfl rfl fun _ _ K M=>?_;refine oB K (Qb rfl) rfl fun b6 _ e6 K=>?_;cases b6
 ·refine Qg 11 K M ?_;intro _ K;refine Qe ⟨.inr rfl,_,JU K rfl,?_⟩;refine⟨congrArg AV.bool ?_,M.qt⟩;rw[Fj]
  try simp only[NZ]at *
  try clear hr
  try clear hr0
  try clear hD
  try clear hP
  try clear hn
  try clear hK
  try clear hb
  try generalize ds.all Vx=q1 at *
  try generalize ps.all WH=q4 at *
  try generalize UQ (.mk o s z a l) 2000=q2 at *
  try generalize Jz (.mk o s z a l)=q3 at *
  simp_all<;>first|done|rfl|omega|(intros;omega)|(intros;simp_all;done)
 refine Qg 2 K M ?_;intro _ K
 obtain⟨v9,st9,ev9,rfl,q9⟩:=Hw (fa:=[]) (fc:=[]) (p:=fun k=> !WH k) M.fresh (Kj.mono M.rows hP) (fun k hk st1 cs q hr1=>by
  obtain⟨pn,pp,⟨o1,s1,z1,a1,l1⟩,pa⟩:=k
  exact zx q.fresh hr1)
 refine og K rfl rfl (Qc rfl ev9) rfl fun _ K=>?_;replace M:=M.quiet q9;refine Qg 2 K M ?_;intro _ K;refine oB K (Qb rfl) rfl fun b12 _ e12 K=>?_;cases b12
 ·replace e12:(ps.any fun k=> !WH k)=true:=by first|simpa using e12|(revert e12;cases(ps.any fun k=> !WH k)<;>simp)
  refine Qg 5 K M ?_;intro _ K;refine Qe ⟨.inr rfl,_,JU K rfl,?_⟩;refine⟨congrArg AV.bool ?_,M.qt⟩;rw[Fj]
  try simp only[NZ]at *
  try clear hr
  try clear hr0
  try clear hD
  try clear hP
  try clear hn
  try clear hK
  try clear hb
  try generalize ds.all Vx=q1 at *
  try generalize ps.all WH=q4 at *
  try generalize UQ (.mk o s z a l) 2000=q2 at *
  try generalize Jz (.mk o s z a l)=q3 at *
  simp_all<;>first|done|rfl|omega|(intros;omega)|(intros;simp_all;done)
 replace e12:(ps.any fun k=> !WH k)=false:=by first|simpa using e12|(revert e12;cases(ps.any fun k=> !WH k)<;>simp)
 refine Qg 2 K M ?_;intro _ K;obtain⟨v15,st15,ev15,rfl,q15⟩:=Ey M.fresh (hn.mono M.rows);refine og K rfl rfl (Qc rfl ev15) rfl fun _ K=>?_;replace M:=M.quiet q15;refine Qg 2 K M ?_;intro _ K;refine Qe ⟨.inr rfl,_,JU K rfl,?_⟩;refine⟨congrArg AV.bool ?_,M.qt⟩;rw[Fj]
 try simp only[NZ]at *
 try clear hr
 try clear hr0
 try clear hD
 try clear hP
 try clear hn
 try clear hK
 try clear hb
 try generalize ds.all Vx=q1 at *
 try generalize ps.all WH=q4 at *
 try generalize UQ (.mk o s z a l) 2000=q2 at *
 try generalize Jz (.mk o s z a l)=q3 at *
 simp_all<;>first|done|rfl|omega|(intros;omega)|(intros;simp_all;done)

end Go.Proofs.YtadjjadimlkkgaaGreatDoor
end
section
namespace Go.Proofs.YtadjjadimlkkgaaGreatDoor
open Go Go.RowKit

def Nd.place:Nd→Int
 |.mk _ _ _ a _=>a
def Zb(l:List Dc)(s:List Nat):Int:=l.foldl (fun r d=>if d.name=s then d.order else r) (-1)
theorem Ci(l:List Dc)(d:Dc)(s:List Nat):Zb (l++[d]) s=if d.name=s then d.order else Zb l s:=by
 unfold Zb;rw[List.foldl_append];rfl
theorem KW{l:List Dc}{i:Nat}{d:Dc}(h:l[i]? =some d)(s:List Nat):Zb (l.take (i+1)) s=if d.name=s then d.order else Zb (l.take i) s:=by
 have:l.take (i+1)=l.take i++[d]:=by rw[List.take_add_one,h];rfl
 rw[this,Ci]
mutual
def Jb (sc : List Dc) : Nd → Int × Int × Int
  | .mk op name _ a kids =>
    if op = [118, 97, 114] then (if Zb sc name < 0 then (0, a, 5) else (Zb sc name, 0, 0))
    else if op = [110, 117, 109] then (1, 0, 0)
    else match XO sc (decide (op = [112, 108, 117, 115])) a (if op = [112, 108, 117, 115] ∨ op = [115, 101, 116] then 1 else 2) kids with
      | some r => (0, r.1, r.2)
      | none => (if op = [112, 108, 117, 115] then 1 else 2, 0, 0)
def XO (sc : List Dc) (pl : Bool) (a want : Int) : List Nd → Option (Int × Int)
  | [] => none
  | k :: l => if (Jb sc k).2.2 ≠ 0 then some ((Jb sc k).2.1, (Jb sc k).2.2)
    else if (Jb sc k).1 ≠ want then some (if pl then a else k.place, 7)
    else XO sc pl a want l
end
def Y1(op:List Nat):Int×Int:=if op=[108,116]∨op=[108,101]then(1,1)else if op=[105,110]∨op=[110,111,116,105,110]then(1,2)else(2,2)
def Ya(sc:List Dc)(op:List Nat)(a:Int)(k j:Nd):Int×Int:=
 if(Jb sc k).2.2≠0 then((Jb sc k).2.1,(Jb sc k).2.2)
 else if(Jb sc j).2.2≠0 then((Jb sc j).2.1,(Jb sc j).2.2)
 else if op=[101,113]∨op=[110,101]then(if(Jb sc k).1=(Jb sc j).1∧0<(Jb sc k).1 then(0,0)else(a,7))
 else if((Jb sc k).1,(Jb sc j).1)=Y1 op then(0,0)else(a,7)
def FD(sc:List Dc)(a:Int):List Dc→List Nd→Int×Int
 |d::ds,k::l=>if(Jb sc k).2.2≠0 then((Jb sc k).2.1,(Jb sc k).2.2)else if(Jb sc k).1≠d.order then(a,7)else FD sc a ds l
 |_,_=>(0,0)
def Vl(ps:List Pd)(sc:List Dc)(name:List Nat)(a:Int)(kids:List Nd):Int×Int:=
 match ps.find? (fun p=>decide (p.name=name))with
 |none=>(a,5)
 |some p=>if p.params.length≠kids.length then(a,7)else FD sc a p.params kids
def ZK(op:List Nat):Bool:=oneOf op [[101,113],[110,101],[108,116],[108,101],[105,110],[110,111,116,105,110],[115,117,98]]
mutual
def ZO(ps:List Pd):Nd→List Dc→Int×Int
 |.mk op name n a kids,sc=>
  if op=[105,115]then(if Zb sc name= -1 then(a,5)else if Zb sc name=0 then(0,0)else(a,7))
  else if op=[99,97,108,108]then Vl ps sc name a kids
  else if ZK op then(match kids with
   |[k,j]=>Ya sc op a k j
   |_=>(0,0))
  else Bs ps kids (if op=[101,120]∨op=[97,108,108]then sc++[⟨name,n,0⟩]else sc)
def Bs(ps:List Pd):List Nd→List Dc→Int×Int
 |[],_=>(0,0)
 |k::l,sc=>if(ZO ps k sc).2≠0 then ZO ps k sc else Bs ps l sc
end
def UH:List Dc→List Dc→Option Int
 |_,[]=>none
 |pre,d::l=>if 0≤Zb pre d.name then some d.at_ else UH (pre++[d]) l
def IA:List Pd→List Pd→Option (Int×Int)
 |_,[]=>none
 |pre,p::l=>if pre.any (fun q=>decide (q.name=p.name))then some (p.at_,6)else match UH [] p.params with
  |some a=>some (a,6)
  |none=>if(ZO pre p.body p.params).2≠0 then some (ZO pre p.body p.params)else IA (pre++[p]) l
def Zj(p:Pg):Int×Int:=
 if EP p then match UH [] p.decls with
  |some a=>(a,6)
  |none=>match IA [] p.preds with
   |some r=>r
   |none=>ZO p.preds p.main p.decls
 else(0,1)
theorem HW{sc:List Dc}{pl:Bool}{a want:Int}{l:List Nd}{i:Nat}{k:Nd}(h:l[i]? =some k):XO sc pl a want (l.drop i)=if(Jb sc k).2.2≠0 then some ((Jb sc k).2.1,(Jb sc k).2.2)else if(Jb sc k).1≠want then some (if pl then a else k.place,7)else XO sc pl a want (l.drop (i+1)):=by
 obtain⟨h1,h2⟩:=List.getElem?_eq_some_iff.1 h;rw[List.drop_eq_getElem_cons h1,XO,h2]
theorem Gw{ps:List Pd}{sc:List Dc}{l:List Nd}{i:Nat}{k:Nd}(h:l[i]? =some k):Bs ps (l.drop i) sc=if(ZO ps k sc).2≠0 then ZO ps k sc else Bs ps (l.drop (i+1)) sc:=by
 obtain⟨h1,h2⟩:=List.getElem?_eq_some_iff.1 h;rw[List.drop_eq_getElem_cons h1,Bs,h2]
theorem Iq{sc:List Dc}{a:Int}{ds:List Dc}{l:List Nd}{i:Nat}{d:Dc}{k:Nd}(hd:ds[i]? =some d)(h:l[i]? =some k):FD sc a (ds.drop i) (l.drop i)=if(Jb sc k).2.2≠0 then((Jb sc k).2.1,(Jb sc k).2.2)else if(Jb sc k).1≠d.order then(a,7)else FD sc a (ds.drop (i+1)) (l.drop (i+1)):=by
 obtain⟨h1,h2⟩:=List.getElem?_eq_some_iff.1 h;obtain⟨h3,h4⟩:=List.getElem?_eq_some_iff.1 hd;rw[List.drop_eq_getElem_cons h1,List.drop_eq_getElem_cons h3,FD,h2,h4]
theorem KM{l:List Dc}{i:Nat}{d:Dc}(h:l[i]? =some d):UH (l.take i) (l.drop i)=if 0≤Zb (l.take i) d.name then some d.at_ else UH (l.take (i+1)) (l.drop (i+1)):=by
 obtain⟨h1,h2⟩:=List.getElem?_eq_some_iff.1 h
 have:l.take (i+1)=l.take i++[d]:=by rw[List.take_add_one,h];rfl
 rw[List.drop_eq_getElem_cons h1,UH,h2,this]
theorem Sp{l:List Pd}{i:Nat}{p:Pd}(h:l[i]? =some p):IA (l.take i) (l.drop i)=if(l.take i).any (fun q=>decide (q.name=p.name))then some (p.at_,6)else match UH [] p.params with
  |some a=>some (a,6)
  |none=>if(ZO (l.take i) p.body p.params).2≠0 then some (ZO (l.take i) p.body p.params)else IA (l.take (i+1)) (l.drop (i+1)):=by
 obtain⟨h1,h2⟩:=List.getElem?_eq_some_iff.1 h
 have:l.take (i+1)=l.take i++[p]:=by rw[List.take_add_one,h];rfl
 rw[List.drop_eq_getElem_cons h1,IA,h2,this]
end Go.Proofs.YtadjjadimlkkgaaGreatDoor
end
section
namespace Go.Proofs.YtadjjadimlkkgaaGreatDoor
open Go Go.RowKit

theorem DW(l:List Dc)(s:List Nat):Zb (l.take l.length) s=Zb l s:=by rw[List.take_length]
theorem Tz{st:St}(hf:Q6 st){kd:AV}(hc:Jy kd=true): ∃v st',Ev Tryz.prog Ja 144 [kd] st v st'∧ ∃c,v=.fn 195 [] [.ptr c 0 0]∧Qt st st'∧JA st'.h.get c 0 [kd]∧st.n≤c:=by
 refine QC rfl Tryz.func144 rfl Tryz.ntmps144 rfl fun T hT=>?_;have K:Jm [(0,_)] T:=(.cons (hT 0) .nil);have M:=Mem.start hf;refine Qq<|Qh ?_;refine J2 K M rfl (F7 hc) (by decide) fun c1 _ _ K M=>?_;replace M:=Mem.cast (M':=[(c1,0,[kd])]) M (congrArg (fun q=>(c1,0,q)::[]) (XR (hc)));refine Qg 1 K M ?_;intro _ K;refine o1 K (Ax rfl rfl) rfl fun _ K=>?_;refine Qg 1 K M ?_;intro _ K;refine Qe ⟨.inr rfl,_,JU K rfl,?_⟩;exact⟨_,rfl,M.qt,M.Qp (k:=0) rfl,(M.own c1 0 [kd] (by simp)).resolve_right (by simp)⟩

theorem Nv{st:St}(hf:Q6 st){sc:List Dc}{kd:AV}{ld:List (List AV)}(hD:Xs st.h.get sc kd ld)(nm:List Nat): ∃v st',Ev Tryz.prog Ja 90 [kd,.str nm] st v st'∧v=.int .i64 (Zb sc nm)∧Qt st st':=by
 have hln:=hD.ln;have hbn:=hD.ZJ;refine QC rfl Tryz.func90 rfl Tryz.ntmps90 rfl fun T hT=>?_;have K:Jm [(0,_),(1,_)] T:=(.cons (hT 0) (.cons (hT 1) .nil));have M:=Mem.start hf;refine Qq<|Qh ?_;refine J2 K M rfl rfl (by decide) fun c3 _ _ K M=>?_;refine au 2 K M ?_;intro c4 _ _ K _ M;obtain⟨v8,st8,ev8,c8,rfl,q8,r8,l8⟩:=Tz M.fresh hD.cell;refine o1 K (Qc rfl ev8) rfl fun _ K=>?_;replace M:=M.Vl q8 r8 l8;refine Q5 ?_;show W _ _ _ _ _ _ _;refine Uw ?_;have K9:=K;refine BA K rfl rfl rfl (by decide) (by decide) rfl (M.load (k:=0) rfl (Qk Y5 rfl)) U9 Z7 VJ hD.len hD.ZJ (fun i st9=>Mem st.h.get st.n [] st9 [(c8,0,[kd]),(c4,0,[.int .i64 0]),(c3,0,[.str nm])]∧Zb sc nm=Zb (sc.take i) nm) ⟨M,(by rw[DW])⟩ (fun i st9 hi hJ=>?_) (fun st9 hJ=>?_)
 ·obtain⟨M,hx⟩:=hJ;obtain⟨⟨dn10,do10,da10⟩,hi10⟩: ∃k,sc[i]? =some k:=⟨_,List.getElem?_eq_getElem (by omega)⟩;have hm10:=En hi10;obtain⟨_,hc10,rfl,hy10⟩:=hD.at_ _ _ hi10;refine⟨M.load (k:=0) rfl (Qk Y5 rfl),_,_,_,(hD.r.mem M (by simp)),hc10,fun T hT=>?_⟩;have K:=hT;refine au 2 K M ?_;intro c6 _ _ K _ M;refine⟨rfl,?_⟩;refine Qg 4 K M ?_;intro _ K;refine Z0 K rfl (fun h14=>?_) fun h14=>?_
  ·refine au 3 K M ?_;intro _ _ K _ M;refine Qe ?_;have K:=K9;refine⟨.inr rfl,_,(FK (Uk K rfl (M.load (k:=2) rfl (Qk QI rfl)))),?_⟩;exact⟨by rw[hx,KW hi10,if_pos h14],M.qt⟩
  refine QT ?_;exact⟨M.less (.cons _ (.refl _)),(by rw[hx,KW hi10,if_neg h14])⟩
 obtain⟨M,hx⟩:=hJ;show W _ _ _ _ _ _ _;refine au 1 K M ?_;intro _ _ K _ M;refine Qe ⟨.inr rfl,_,(FK (Uk K rfl (M.load (k:=1) rfl (Qk QI rfl)))),?_⟩;exact⟨by rw[hx];rfl,M.qt⟩

end Go.Proofs.YtadjjadimlkkgaaGreatDoor
end
section
namespace Go.Proofs.YtadjjadimlkkgaaGreatDoor
open Go Go.RowKit

theorem OI{o s:List Nat}{z a:Int}{l:List Nd}(h:Jw (.mk o s z a l)=true){k:Nd}(hk:k∈l):Jw k=true:=by
 rw[Ut]at h
 by_cases h1:o=Vq
 ·subst h1;rw[if_pos rfl]at h;simp at h;simp[h.2.2]at hk
 by_cases h2:o=Wb
 ·subst h2;rw[if_neg (by decide),if_pos rfl]at h;simp at h;simp[h.2.2.2]at hk
 rw[if_neg h1,if_neg h2]at h
 by_cases h3:o=Zn
 ·rw[if_pos h3]at h;simp at h;exact(h.2.2.2.2 _ hk).2
 by_cases h4:o=XA
 ·rw[if_neg h3,if_pos h4]at h;simp at h;exact(show _∧_ by simpa [YQ]using h.2.2.2 _ hk).1
 rw[if_neg h3,if_neg h4]at h
 by_cases h5:Ul o=true
 ·rw[if_pos h5]at h;simp at h;exact h.2.1 _ hk
 ·rw[if_neg h5]at h;cases h
theorem Y8{o s:List Nat}{z a:Int}{l:List Nd}(h:Jw (.mk o s z a l)=true)(ho:o=Zn):((l.length:Nat):Int)=1:=by
 rw[Ut,ho,if_neg (by decide),if_neg (by decide),if_pos rfl]at h;simp at h;omega
theorem SE{sc:List Dc}{pl:Bool}{a w:Int}: ∀{l:List Nd} {r:Int×Int},XO sc pl a w l=some r→r.2≠0:=by
 intro l
 induction l with
 |nil=>intro r h;rw[XO]at h;cases h
 |cons k l ih=>
  intro r h;rw[XO]at h
  by_cases h1:(Jb sc k).2.2≠0
  ·rw[if_pos h1]at h;injection h with h;subst h;exact h1
  ·rw[if_neg h1]at h
   by_cases h2:(Jb sc k).1≠w
   ·rw[if_pos h2]at h;injection h with h;subst h;show(7:Int)≠0;decide
   ·rw[if_neg h2]at h;exact ih h
def kT(r:Int×Int×Int):AV:=.tup [.int .i64 r.1,.int .i64 r.2.1,.int .i64 r.2.2]
def qf(sc:List Dc)(x:Nd):AV:=.tup [.int .i64 (Jb sc x).1,.int .i64 (Jb sc x).2.1,.int .i64 (Jb sc x).2.2]
def xV(r:Option (Int×Int)):AV:=.tup [.int .i64 (r.getD (0,0)).1,.int .i64 (r.getD (0,0)).2]
theorem Ge{sc:List Dc}{o s:List Nat}{z a:Int}{l:List Nd}(h:o=[118,97,114]):Jb sc (.mk o s z a l)=if Zb sc s<0 then(0,a,5)else(Zb sc s,0,0):=by rw[Jb,if_pos h]
theorem SD{sc:List Dc}{o s:List Nat}{z a:Int}{l:List Nd}(h:o=[110,117,109]):Jb sc (.mk o s z a l)=(1,0,0):=by subst h;rw[Jb,if_neg (by decide),if_pos rfl]
theorem HV{sc:List Dc}{o s:List Nat}{z a:Int}{k:Nd}(h:o=[112,108,117,115]):Jb sc (.mk o s z a [k])=if(Jb sc k).2.2≠0 then(0,(Jb sc k).2.1,(Jb sc k).2.2)else if(Jb sc k).1≠1 then(0,a,7)else(1,0,0):=by
 subst h;rw[Jb,if_neg (by decide),if_neg (by decide),XO,XO]
 by_cases h1:(Jb sc k).2.2≠0
 ·rw[if_pos h1,if_pos h1]
 ·rw[if_neg h1,if_neg h1,if_pos (Or.inl rfl)]
  by_cases h2:(Jb sc k).1≠1
  ·rw[if_pos h2,if_pos h2];simp
  ·rw[if_neg h2,if_neg h2];simp
theorem Gf{sc:List Dc}{o s:List Nat}{z a:Int}{l:List Nd}(h1: ¬o=[118,97,114])(h2: ¬o=[110,117,109])(h3: ¬o=[112,108,117,115]){w:Int}(hw:w=if o=[115,101,116]then 1 else 2):Jb sc (.mk o s z a l)=match XO sc false a w l with
  |some r=>(0,r.1,r.2)
  |none=>(2,0,0):=by
 rw[Jb,if_neg h1,if_neg h2];simp[h3,hw]
 all_goals(cases XO sc false a (if o=[115,101,116]then 1 else 2) l<;>rfl)

theorem zF{st:St}(hf:Q6 st){sc:List Dc}{kd:AV}{ld:List (List AV)}(hD:Xs st.h.get sc kd ld){l:List Nd}{kk:AV}{ls:List (List AV)}(hK:Af st.h.get l kk ls)(hTm: ∀k∈l,Jw k=true)(w a:Int)(hC: ∀(k:Nd),k∈l→ ∀(st1:St) (cs:List AV),Q6 st1→Xs st1.h.get sc kd ld→Vn st1.h.get k cs→Jw k=true→ ∃v st',Ev Tryz.prog Ja 146 [kd,.agg cs] st1 v st'∧v=qf sc k∧Qt st1 st'): ∃v st',Ev Tryz.prog Ja 196 [kd,kk,.int .i64 w] st v st'∧v=xV (XO sc false a w l)∧Qt st st':=by
 have hln:=hK.ln;have hbn:=hK.ZJ;refine QC rfl Tryz.func196 rfl Tryz.ntmps196 rfl fun T hT=>?_;have K:Jm [(0,_),(1,_),(2,_)] T:=(.cons (hT 0) (.cons (hT 1) (.cons (hT 2) .nil)));have M:=Mem.start hf;refine Qg 3 K M ?_;intro _ K;refine o1 K (Jd J5 rfl rfl hK.len) rfl fun _ K=>?_;refine Qg 1 K M ?_;intro _ K;refine U8 (fun mm1 T st9=> ∃(i:Nat),mm1=l.length-i∧Jm [(0,kd),(2,.int .i64 w),(13,kk),(14,.int .i64 (((l.length:Nat):Int))),(15,.int .i64 (((i:Nat):Int)))] T∧Mem st.h.get st.n [] st9 []∧i≤l.length∧XO sc false a w l=XO sc false a w (l.drop i)) (fun mm1 T st9 hI=>?_) _ _ _ ⟨0,rfl,(.cons (K _ _ rfl) (.cons (K _ _ rfl) (.cons (K _ _ rfl) (.cons (K _ _ rfl) (.cons (K _ _ rfl) .nil))))),M.less (.refl _),(Nat.zero_le _),(by rw[List.drop_zero])⟩;obtain⟨i,rfl,K,M,hi,hx⟩:=hI;refine Qg 1 K M ?_;intro _ K;refine Z0 K rfl (fun h16=>?_) fun h16=>?_
 ·refine QT ?_;show W _ _ _ _ _ _ _;refine Qq<|Uw<|Qq<|Qh ?_;obtain⟨⟨o17,s17,z17,a17,l17⟩,hi17⟩: ∃k,l[i]? =some k:=⟨_,List.getElem?_eq_getElem (by first|omega|(have:=Y8 ht (by assumption);omega))⟩;have hm17:=Yb hi17;obtain⟨_,hc17,hn17⟩:=hK.at_ _ _ hi17;have hp17:=hn17;obtain⟨kk17,ls17,rfl,hK17,hb17⟩:=hp17.Ua;obtain⟨x17,m17,f17,q17,_,la17,lo17,lp17⟩:=(hK.r.mem M (by simp)).load (i:=i) (cs:=_) hc17;refine o1 K (Qr (j:=i) JH (congrArg some q17) rfl (by rw[hK.ln];first|omega|(have:=Y8 ht (by assumption);omega))) rfl fun _ K=>o1 K (Qx rfl (la17 _ QO)) rfl fun _ K=>?_;refine U0 K M QN (by decide) fun c9 _ _ K M=>?_;refine QB (k:=0) K M rfl rfl rfl QH rfl (Qa rfl (Qa rfl (Qa rfl (Qa rfl (Qa hK17.cell Qv))))) rfl fun _ M=>?_;refine Qg 2 K M ?_;intro _ K;refine oQ K M (hC _ hm17 _ _ M.fresh (Xs.mono M.rows hD) (hn17.mono M.rows) (hTm _ hm17)) rfl rfl fun _ _ K M=>?_;refine Qg 9 K M ?_;intro _ K;refine G5 K rfl (fun h27=>?_) fun h27=>?_
  ·refine Qg 4 K M ?_;intro _ K;refine Qe ⟨.inr rfl,_,Ah K rfl rfl,?_⟩;exact⟨by rw[hx,HW hi17,if_pos (by omega)];rfl,M.qt⟩
  refine Qg 3 K M ?_;intro _ K;refine G5 K rfl (fun h32=>?_) fun h32=>?_
  ·refine Qg 4 K M ?_;intro _ K;refine Qe ⟨.inr rfl,_,Ah K rfl rfl,?_⟩;exact⟨by rw[hx,HW hi17,if_neg (by omega),if_pos (by omega)];rfl,M.qt⟩
  refine QT ?_;show W _ _ _ _ _ _ _;refine Qh<|o1 K (Jn rfl rfl (by omega) (by omega)) rfl fun _ K=>o1 K (Qb rfl) rfl fun _ K=>Q5 ?_;exact⟨_,(by omega),i+1,rfl,(.cons (K _ _ rfl) (.cons (K _ _ rfl) (.cons (K _ _ rfl) (.cons (K _ _ rfl) (.cons (K _ _ rfl) .nil))))),M.less (.cons _ (.refl _)),(by omega),(by rw[hx,HW hi17,if_neg (by omega),if_neg (by omega)])⟩
 refine Uc ?_;show W _ _ _ _ _ _ _;refine Qg 2 K M ?_;intro _ K;refine Qe ⟨.inr rfl,_,Ah K rfl rfl,?_⟩;exact⟨by rw[hx,Zi (by omega),XO];rfl,M.qt⟩

theorem Bb{sc:List Dc}{kd:AV}{ld:List (List AV)}(x:Nd): ∀(st:St) (cs:List AV),Q6 st→Xs st.h.get sc kd ld→Vn st.h.get x cs→Jw x=true→ ∃v st',Ev Tryz.prog Ja 146 [kd,.agg cs] st v st'∧v=qf sc x∧Qt st st':=by
 refine A0 (M:=fun x=> ∀(st:St) (cs:List AV),Q6 st→Xs st.h.get sc kd ld→Vn st.h.get x cs→Jw x=true→ ∃v st',Ev Tryz.prog Ja 146 [kd,.agg cs] st v st'∧v=qf sc x∧Qt st st') (fun o s z a l ih=>?_) x;intro st cs hf hD hr ht;have hr0:=hr;obtain⟨kk,ls,rfl,hK,hb⟩:=hr.Ua;have hln:=hK.ln;have hbn:=hK.ZJ;refine QC rfl Tryz.func146 rfl Tryz.ntmps146 rfl fun T hT=>?_;have K:Jm [(0,_),(1,_)] T:=(.cons (hT 0) (.cons (hT 1) .nil));have M:=Mem.start hf;refine Qq<|Qh ?_;refine J2 K M rfl (Qa rfl (Qa rfl (Qa rfl (Qa rfl (Qa hK.cell Qv))))) (by decide) fun c3 _ _ K M=>?_;refine Qg 5 K M ?_;intro _ K;refine o1 K (QV (b:=[118,97,114]) rfl rfl) rfl fun _ K=>?_;refine Qg 1 K M ?_;intro _ K;refine Z0 K rfl (fun h13=>?_) fun h13=>?_
 ·refine Qg 3 K M ?_;intro _ K;refine oQ K M (Nv M.fresh (Xs.mono M.rows hD) s) rfl rfl fun _ _ K M=>?_;refine Qg 3 K M ?_;intro _ K;refine Z0 K rfl (fun h20=>?_) fun h20=>?_
  ·refine Qq ?_;refine Jk (l:=[(0,0),(1,0),(2,0),(3,0),(4,0)]) (by kernel_rfl) ?_;refine d1 rfl K (Qf E6 rfl) rfl rfl fun _ K=>d1 rfl K (Qx rfl (M.load (k:=0) rfl (Qk QI rfl))) rfl rfl fun _ K=>d1 rfl K (QM rfl) rfl rfl fun _ K=>d1 rfl K (QM rfl) rfl rfl fun _ K=>d1 rfl K (QM rfl) rfl rfl fun _ K=>J0 ?_;show W _ _ _ _ _ _ _;refine Qe ⟨.inr rfl,_,(Uo (QY K rfl) (QY K rfl) (QY K rfl)),?_⟩;refine⟨congrArg kT (a₁:=(0,a,5)) (a₂:=Jb sc (.mk o s z a l)) (Eq.symm ?_),M.qt⟩;exact(Ge (by assumption)).trans (if_pos (by omega))
  refine Qg 4 K M ?_;intro _ K;refine Qe ⟨.inr rfl,_,(Uo (QY K rfl) (QY K rfl) (QY K rfl)),?_⟩;refine⟨congrArg kT (a₁:=(Zb sc s,0,0)) (a₂:=Jb sc (.mk o s z a l)) (Eq.symm ?_),M.qt⟩;exact(Ge (by assumption)).trans (if_neg (by omega))
 refine Qq<|Qh<|o1 K (QV (b:=[110,117,109]) rfl rfl) rfl fun _ K=>?_;refine Qg 1 K M ?_;intro _ K;refine Z0 K rfl (fun h24=>?_) fun h24=>?_
 ·refine Qg 3 K M ?_;intro _ K;refine Qe ⟨.inr rfl,_,(Uo (QY K rfl) (QY K rfl) (QY K rfl)),?_⟩;refine⟨congrArg kT (a₁:=(1,0,0)) (a₂:=Jb sc (.mk o s z a l)) (Eq.symm ?_),M.qt⟩;exact SD (by assumption)
 refine Qq<|Qh<|o1 K (QV (b:=[112,108,117,115]) rfl rfl) rfl fun _ K=>?_;refine Qg 1 K M ?_;intro _ K;refine Z0 K rfl (fun h26=>?_) fun h26=>?_
 ·refine Qg 3 K M ?_;intro _ K;obtain⟨⟨o32,s32,z32,a32,l32⟩,hi32⟩: ∃k,l[0]? =some k:=⟨_,List.getElem?_eq_getElem (by first|omega|(have:=Y8 ht (by assumption);omega))⟩;have hm32:=Yb hi32;obtain⟨_,hc32,hn32⟩:=hK.at_ _ _ hi32;have hp32:=hn32;obtain⟨kk32,ls32,rfl,hK32,hb32⟩:=hp32.Ua;obtain⟨x32,m32,f32,q32,_,la32,lo32,lp32⟩:=(hK.r.mem M (by simp)).load (i:=0) (cs:=_) hc32;refine o1 K (Qr (j:=0) JH (congrArg some q32) rfl (by rw[hK.ln];first|omega|(have:=Y8 ht (by assumption);omega))) rfl fun _ K=>o1 K (Qx rfl (la32 _ QO)) rfl fun _ K=>?_;refine oQ K M (ih _ hm32 _ _ M.fresh (Xs.mono M.rows hD) (hn32.mono M.rows) (OI ht hm32)) rfl rfl fun _ _ K M=>?_;refine Qg 9 K M ?_;intro _ K;refine G5 K rfl (fun h39=>?_) fun h39=>?_
  ·refine Qg 5 K M ?_;intro _ K;refine Qe ⟨.inr rfl,_,(Uo (QY K rfl) (QY K rfl) (QY K rfl)),?_⟩;refine⟨congrArg kT (a₁:=(0,(Jb sc (.mk o32 s32 z32 a32 l32)).2.1,(Jb sc (.mk o32 s32 z32 a32 l32)).2.2)) (a₂:=Jb sc (.mk o s z a l)) (Eq.symm ?_),M.qt⟩;rw[UJ (Y8 ht (by assumption)) hi32];exact(HV (by assumption)).trans (if_pos (by omega))
  refine Qg 2 K M ?_;intro _ K;refine G5 K rfl (fun h43=>?_) fun h43=>?_
  ·refine Qq ?_;refine Jk (l:=[(0,0),(1,0),(2,0),(3,0),(4,0)]) (by kernel_rfl) ?_;refine d1 rfl K (Qf E6 rfl) rfl rfl fun _ K=>d1 rfl K (Qx rfl (M.load (k:=0) rfl (Qk QI rfl))) rfl rfl fun _ K=>d1 rfl K (QM rfl) rfl rfl fun _ K=>d1 rfl K (QM rfl) rfl rfl fun _ K=>d1 rfl K (QM rfl) rfl rfl fun _ K=>J0 ?_;show W _ _ _ _ _ _ _;refine Qe ⟨.inr rfl,_,(Uo (QY K rfl) (QY K rfl) (QY K rfl)),?_⟩;refine⟨congrArg kT (a₁:=(0,a,7)) (a₂:=Jb sc (.mk o s z a l)) (Eq.symm ?_),M.qt⟩;rw[UJ (Y8 ht (by assumption)) hi32];exact(HV (by assumption)).trans ((if_neg (by omega)).trans (if_pos (by omega)))
  refine Qg 3 K M ?_;intro _ K;refine Qe ⟨.inr rfl,_,(Uo (QY K rfl) (QY K rfl) (QY K rfl)),?_⟩;refine⟨congrArg kT (a₁:=(1,0,0)) (a₂:=Jb sc (.mk o s z a l)) (Eq.symm ?_),M.qt⟩;rw[UJ (Y8 ht (by assumption)) hi32];exact(HV (by assumption)).trans ((if_neg (by omega)).trans (if_neg (by omega)))
 refine QT ?_;show W _ _ _ _ _ _ _;refine Qq<|Qh<|o1 K (QM rfl) rfl fun _ K=>Q5 ?_;show W _ _ _ _ _ _ _;refine EK (J:=fun T st9=> ∃(w:Int),Jm [(0,kd),(3,.ptr c3 0 0),(4,.int .i64 0),(5,.int .i64 0),(6,.int .i64 0),(10,.int .i64 w)] T∧Mem st.h.get st.n [] st9 [(c3,0,[.str o,.str s,.int .i64 z,.int .i64 a,kk])]∧w=if o=[115,101,116]then 1 else 2) ?_ (fun T st9 hJ=>?_)
 ·refine Qg 2 K M ?_;intro _ K;refine o1 K (QV (b:=[115,101,116]) rfl rfl) rfl fun _ K=>Q5 ?_;show W _ _ _ _ _ _ _;refine Z0 K rfl (fun h48=>?_) fun h48=>?_
  ·refine Qg 1 K M ?_;intro _ K;exact⟨_,(.cons (K _ _ rfl) (.cons (K _ _ rfl) (.cons (K _ _ rfl) (.cons (K _ _ rfl) (.cons (K _ _ rfl) (.cons (K _ _ rfl) .nil)))))),M.less (.refl _),(by simp_all)⟩
  refine QT ?_;exact⟨_,(.cons (K _ _ rfl) (.cons (K _ _ rfl) (.cons (K _ _ rfl) (.cons (K _ _ rfl) (.cons (K _ _ rfl) (.cons (K _ _ rfl) .nil)))))),M.less (.refl _),(by simp_all)⟩
 obtain⟨w,K,M,hw⟩:=hJ;refine Qg 4 K M ?_;intro _ K;refine oQ K M (zF M.fresh (Xs.mono M.rows hD) (hK.mem M) (fun k hk=>OI ht hk) w a (fun k hk st1 cs h1 h2 h3 h4=>ih _ hk st1 cs h1 h2 h3 h4)) rfl rfl fun _ _ K M=>?_;refine Qg 7 K M ?_;intro _ K;refine G5 K rfl (fun h58=>?_) fun h58=>?_
 ·refine Qg 5 K M ?_;intro _ K;refine Qe ⟨.inr rfl,_,(Uo (QY K rfl) (QY K rfl) (QY K rfl)),?_⟩;refine⟨congrArg kT (a₁:=(0,((XO sc false a w l).getD (0,0)).1,((XO sc false a w l).getD (0,0)).2)) (a₂:=Jb sc (.mk o s z a l)) (Eq.symm ?_),M.qt⟩;rw[Gf (by assumption) (by assumption) (by assumption) hw]
  cases hl:XO sc false a w l with
  |none=>rw[hl]at h58;exact absurd rfl h58
  |some r=>rfl
 refine Qg 3 K M ?_;intro _ K;refine Qe ⟨.inr rfl,_,(Uo (QY K rfl) (QY K rfl) (QY K rfl)),?_⟩;refine⟨congrArg kT (a₁:=(2,0,0)) (a₂:=Jb sc (.mk o s z a l)) (Eq.symm ?_),M.qt⟩;rw[Gf (by assumption) (by assumption) (by assumption) hw]
 cases hl:XO sc false a w l with
 |none=>rfl
 |some r=>rw[hl]at h58;exact absurd h58 (SE hl)
end Go.Proofs.YtadjjadimlkkgaaGreatDoor
end
section
namespace Go.Proofs.YtadjjadimlkkgaaGreatDoor
open Go Go.RowKit

def pT(r:Int×Int):AV:=.tup [.int .i64 r.1,.int .i64 r.2]

end Go.Proofs.YtadjjadimlkkgaaGreatDoor
end
section
namespace Go.Proofs.YtadjjadimlkkgaaGreatDoor
open Go Go.RowKit

noncomputable def qp(kb:AV)(n:Nat):AV:=match kb with
 |.sl c m off len z=>.sl c m off n z
 |_=>.nils
theorem uo{P:Program}{G:Env}{K:List (Nat×AV)}{st:St}{h:Hp}{t:TypeId}{x:Operand}{hi:Option Operand}{kb:AV}{X:List Nat}{z n:Nat}{ls:List (List AV)}(r:J1 h X z ls kb)(h0:0<ls.length)(he:Uz P t=some z)(hx:JS G K x=some kb)(hh:Zz (JS G K) hi ls.length=some n)(hn:n≤ls.length):
  ZP P G K (.slice t x none hi none) st (qp kb n) st:=by
 obtain⟨c,m,off,cells,rfl,_⟩:=r.at_ 0 _ (List.getElem?_eq_getElem h0);have h1:=FP (st:=st) (lo:=none) he hx rfl hh (Nat.zero_le _) hn;rw[Nat.zero_mul,Nat.add_zero,Nat.sub_zero]at h1;exact h1
theorem jZ{h:Hp}{X:List Nat}{z n:Nat}{ls:List (List AV)}{kb:AV}(r:J1 h X z ls kb)(h0:0<ls.length)(hn:n≤ls.length):J1 h X z (ls.take n) (qp kb n):=by
 obtain⟨c,m,off,cells,rfl,_⟩:=r.at_ 0 _ (List.getElem?_eq_getElem h0)
 have hl:(ls.take n).length=n:=by rw[List.length_take];omega
 have hb:=r.ZJ;refine⟨by rw[hl];rfl,by rw[hl];omega,rfl,fun i cs hi=>?_,fun c' m' off' n' z' e'=>?_⟩
 ·have hlt:=(List.getElem?_eq_some_iff.1 hi).1;rw[hl]at hlt;rw[List.getElem?_take_of_lt hlt]at hi;obtain⟨c2,m2,off2,cells2,e1,e2,e3,e4,e5⟩:=r.at_ _ _ hi
  injection e1 with x1 x2 x3 x4 x5
  subst x1 x2 x3;exact⟨c,m,off,cells2,by rw[hl];rfl,e2,e3,e4,e5⟩
 ·injection e' with x1 x2 x3 x4 x5
  subst x1 x2 x3 x4;obtain⟨h1,cs,h2,h3⟩:=r.alive c m off _ z rfl;refine⟨h1,cs,h2,Nat.le_trans (Nat.add_le_add_left (Nat.mul_le_mul_right z hn) off) h3⟩
theorem VV.head{K:Type}{h:Hp}{z n:Nat}{R:K→List AV→Prop}{l:List K}{kk:AV}{ls:List (List AV)}(H:VV h z R l kk ls)(h0:0<l.length)(hn:n≤l.length):VV h z R (l.take n) (qp kk n) (ls.take n):=
 ⟨jZ H.r (by rw[H.ln];exact h0) (by rw[H.ln];exact hn),by rw[List.length_take,List.length_take,H.ln],fun i k hi=>by
  have hlt:=(List.getElem?_eq_some_iff.1 hi).1;rw[List.length_take]at hlt;rw[List.getElem?_take_of_lt (by omega)]at hi;obtain⟨cs,h1,h2⟩:=H.at_ _ _ hi
  exact⟨cs,by rw[List.getElem?_take_of_lt (by omega)];exact h1,h2⟩⟩
end Go.Proofs.YtadjjadimlkkgaaGreatDoor
end
section
namespace Go.Proofs.YtadjjadimlkkgaaGreatDoor
open Go Go.RowKit

def twT(r:Option Int):AV:=match r with
 |some a=>.tup [.int .i64 a,.bool true]
 |none=>.tup [.int .i64 0,.bool false]
def vc(r:Option Int):AV:=match r with
 |some a=>.tup [.int .i64 a,.int .i64 6]
 |none=>.tup [.int .i64 0,.int .i64 0]

theorem TJ{st:St}(hf:Q6 st){l:List Dc}{kd:AV}{ld:List (List AV)}(hD:Xs st.h.get l kd ld): ∃v st',Ev Tryz.prog Ja 44 [kd] st v st'∧v=vc (UH [] l)∧Qt st st':=by
 have hln:=hD.ln;have hbn:=hD.ZJ;refine QC rfl Tryz.func44 rfl Tryz.ntmps44 rfl fun T hT=>?_;have K:Jm [(0,_)] T:=(.cons (hT 0) .nil);have M:=Mem.start hf;refine Qg 3 K M ?_;intro _ K;refine o1 K (Jd U9 rfl rfl hD.len) rfl fun _ K=>?_;refine Qg 1 K M ?_;intro _ K;refine U8 (fun mm1 T st9=> ∃(i:Nat),mm1=l.length-i∧Jm [(0,kd),(6,kd),(7,.int .i64 (((l.length:Nat):Int))),(8,.int .i64 (((i:Nat):Int)))] T∧Mem st.h.get st.n [] st9 []∧i≤l.length∧UH [] l=UH (l.take i) (l.drop i)) (fun mm1 T st9 hI=>?_) _ _ _ ⟨0,rfl,(.cons (K _ _ rfl) (.cons (K _ _ rfl) (.cons (K _ _ rfl) (.cons (K _ _ rfl) .nil)))),M.less (.refl _),(Nat.zero_le _),rfl⟩;obtain⟨i,rfl,K,M,hi,hx⟩:=hI;refine Qg 1 K M ?_;intro _ K;refine Z0 K rfl (fun h9=>?_) fun h9=>?_
 ·refine Qg 1 K M ?_;intro _ K;obtain⟨⟨dn11,do11,da11⟩,hi11⟩: ∃k,l[i]? =some k:=⟨_,List.getElem?_eq_getElem (by omega)⟩;have hm11:=En hi11;obtain⟨_,hc11,rfl,hy11⟩:=hD.at_ _ _ hi11;obtain⟨x11,m11,f11,q11,_,la11,lo11,lp11⟩:=(hD.r.mem M (by simp)).load (i:=i) (cs:=_) hc11;refine o1 K (Qr (j:=i) Z7 (congrArg some q11) rfl (by rw[hD.ln];omega)) rfl fun _ K=>o1 K (Qx rfl (la11 _ VJ)) rfl fun _ K=>?_;refine au 3 K M ?_;intro c5 _ _ K _ M;refine Jk (l:=[(0,0),(1,0),(2,0),(3,0),(4,0),(5,0),(6,0)]) (by kernel_rfl) ?_;refine d1 rfl K (Qb rfl) rfl rfl fun _ K=>d1 rfl K (Qb rfl) rfl rfl fun _ K=>d1 rfl K (uo (n:=i) hD.r (by omega) Z7 rfl rfl (by omega)) rfl rfl fun _ K=>d1 rfl K (Qf E9 rfl) rfl rfl fun _ K=>d1 rfl K (Qx rfl (M.load (k:=0) rfl (Qk JI rfl))) rfl rfl fun _ K=>?_;obtain⟨v18,st18,ev18,rfl,q18⟩:=Nv M.fresh (Xs.mono M.rows (VV.head hD (n:=i) (by omega) (by omega))) dn11;refine dA rfl K (Qc rfl ev18) rfl rfl fun _ K=>?_;replace M:=M.quiet q18;refine d1 rfl K (HG rfl rfl) rfl rfl fun _ K=>J0 ?_;show W _ _ _ _ _ _ _;refine Z0 K rfl (fun h19=>?_) fun h19=>?_
  ·refine Qg 4 K M ?_;intro _ K;refine Qe ⟨.inr rfl,_,Ah K rfl rfl,?_⟩;exact⟨by rw[hx,KM hi11,if_pos (by omega)];rfl,M.qt⟩
  refine QT ?_;show W _ _ _ _ _ _ _;refine Qh<|o1 K (Jn rfl rfl (by omega) (by omega)) rfl fun _ K=>o1 K (Qb rfl) rfl fun _ K=>Q5 ?_;exact⟨_,(by omega),i+1,rfl,(.cons (K _ _ rfl) (.cons (K _ _ rfl) (.cons (K _ _ rfl) (.cons (K _ _ rfl) .nil)))),M.less (.cons _ (.refl _)),(by omega),(by rw[hx,KM hi11,if_neg (by omega)])⟩
 refine Uc ?_;show W _ _ _ _ _ _ _;refine Qg 2 K M ?_;intro _ K;refine Qe ⟨.inr rfl,_,Ah K rfl rfl,?_⟩;exact⟨by rw[hx,Zi (by omega)];rfl,M.qt⟩
end Go.Proofs.YtadjjadimlkkgaaGreatDoor
end
section
namespace Go.Proofs.YtadjjadimlkkgaaGreatDoor
open Go Go.RowKit

theorem SS{α:Type}(p:α→Bool): ∀(l:List α) (i:Nat),(AB p l i= -1∧l.find? p=none)∨ ∃j k,AB p l i=((i+j:Nat):Int)∧l[j]? =some k∧l.find? p=some k:=by
 intro l
 induction l with
 |nil=>intro i;exact .inl ⟨rfl,rfl⟩
 |cons k l ih=>
  intro i;rw[AB,List.find?_cons]
  cases hp:p k with
  |true=>exact .inr ⟨0,k,by simp,rfl,rfl⟩
  |false=>
   rcases ih (i+1)with⟨h1,h2⟩|⟨j,q,h1,h2,h3⟩
   ·exact .inl ⟨by rw[if_neg (by decide)];exact h1,h2⟩
   ·exact .inr ⟨j+1,q,by rw[if_neg (by decide),h1];congr 1;omega,h2,h3⟩
theorem PB{ps:List Pd}{sc:List Dc}{s:List Nat}{a:Int}{l:List Nd}(h:ps.find? (fun p=>decide (p.name=s))=none):Vl ps sc s a l=(a,5):=by unfold Vl;rw[h]
theorem AJ{ps:List Pd}{sc:List Dc}{s:List Nat}{a:Int}{l:List Nd}{p:Pd}(h:ps.find? (fun p=>decide (p.name=s))=some p):Vl ps sc s a l=if p.params.length≠l.length then(a,7)else FD sc a p.params l:=by unfold Vl;rw[h]

end Go.Proofs.YtadjjadimlkkgaaGreatDoor
end
section
namespace Go.Proofs.YtadjjadimlkkgaaGreatDoor
open Go

theorem XN{P:Program}{G:Env}{K:List (Nat×AV)}{st:St}{t e:TypeId}{x i:Operand}{c m off n z:Nat}{k:IntKind}{j:Nat}(he:FB P t=some (n,e))(hz:P.cellsOf e=z)(hx:JS G K x=some (.ptr c m off))(hi:JS G K i=some (.int k (j:Int)))(hj:j<n):
  ZP P G K (.indexAddr t x i) st (.ptr c m (off+j *z)) st:=.of fun T hT cc d ty pos af g=>by
 show ret (ob (QR G T x) fun x=>ob (QR G T i) fun i=>US P t x i) st=_;rw[hT.QR hx,hT.QR hi,QD,QD];show ret (ob (Ly (j:Int)) fun i=>ob (FB P t) fun q=>Js (Nat.ble (i+1) q.1) (Yq (off+i *P.cellsOf q.2) fun o=>some (AV.ptr c m o))) st=_;show ret (ob (FB P t) fun q=>Js (Nat.ble (j+1) q.1) (Yq (off+j *P.cellsOf q.2) fun o=>some (AV.ptr c m o))) st=_;rw[he,QD];show ret (Js (Nat.ble (j+1) n) (Yq (off+j *P.cellsOf e) fun o=>some (AV.ptr c m o))) st=_;rw[Nat.ble_eq_true_of_le hj,hz];show ret (Yq (off+j *z) fun o=>some (AV.ptr c m o)) st=_;rw[JL];rfl
theorem Es:FB Tryz.prog 164=some (2,3):=by kernel_rfl
theorem Xn:Program.cellsOf Tryz.prog 3=1:=by kernel_rfl
theorem I0:Tryz.prog.underlying 164=some (.array 2 3):=by kernel_rfl
theorem VO{P:Program}{G:Env}{K:List (Nat×AV)}{st:St}{t e:TypeId}{parts:Array (Nat×Operand)}{n k:Nat}{z r:List AV}{ps:List (Nat×AV)}(u:P.underlying t=some (.array n e))(ue:(P.underlying e).isSome=true)(hk:P.cellsOf e=k)(hz:zeroOf P t=some z)(hp:Ve (JS G K) parts=some ps)(hf:WW (fun i=>some (i *k,k)) ps z=some r):
  ZP P G K (.build t parts) st (.agg r) st:=.of fun T hT c d ty pos af g=>by
 show ret (ED P t parts (QR G T)) st=_;unfold ED;simp only[u,ue,JW,hz,QD,hT.parts hp,hk,hf,UC];rfl
theorem LM:(Tryz.prog.underlying 3).isSome=true:=by kernel_rfl
theorem Te(a b x y:Int):Vw Tryz.prog 164 [.int .i64 a,.int .i64 b] [.int .i64 x,.int .i64 y]=some (Qu (Om a x) (Om b y) false):=by kernel_rfl
theorem Sz{G:Env}{K:List (Nat×AV)}{st:St}{x y:Operand}{yt:TypeId}{a b c d:Int}(hx:JS G K x=some (.agg [.int .i64 a,.int .i64 b]))(hy:JS G K y=some (.agg [.int .i64 c,.int .i64 d])):ZP Tryz.prog G K (.binOp .eql 164 x y yt) st (.bool (decide ((a,b)=(c,d)))) st:=
 X9 hx hy (by
  show ob (Vw Tryz.prog 164 [.int .i64 a,.int .i64 b] [.int .i64 c,.int .i64 d]) (fun r=>some (AV.bool r))=_;rw[Te,IQ,IQ,QD]
  by_cases h1:a=c<;>by_cases h2:b=d<;>simp[h1,h2,Ji,QX])
def xg:AV→Bool
 |.nils=>true
 |_=>false
theorem Sy{P:Program}{G:Env}{K:List (Nat×AV)}{st:St}{t yt e:TypeId}{x y:Operand}{kb:AV}{n:Nat}(hn:ZF kb=some n)(ht:P.underlying t=some (.slice e))(hx:JS G K x=some kb)(hy:JS G K y=some .nils):ZP P G K (.binOp .eql t x y yt) st (.bool (xg kb)) st:=
 X9 hx hy (by
  cases kb<;>first|(cases hn;done)|skip
  all_goals
   show Js (NK (P.underlying t) _) (ob (Ld _ .nils) fun b=>some (AV.bool b))=_
   rw[ht];rfl)
theorem uy{kb:AV}(h:xg kb=true):kb=.nils:=by cases kb<;>first|rfl|cases h
end Go.Proofs.YtadjjadimlkkgaaGreatDoor
end
section
namespace Go.Proofs.YtadjjadimlkkgaaGreatDoor
open Go Go.RowKit

def Kk(o:List Nat):AV:=.agg [.int .i64 (Y1 o).1,.int .i64 (Y1 o).2]

theorem TD{st:St}(hf:Q6 st)(o:List Nat): ∃v st',Ev Tryz.prog Ja 147 [.str o] st v st'∧v=Kk o∧Qt st st':=by
 refine QC rfl Tryz.func147 rfl Tryz.ntmps147 rfl fun T hT=>?_;have K:Jm [(0,_)] T:=(.cons (hT 0) .nil);have M:=Mem.start hf;refine au 2 K M ?_;intro c2 _ _ K _ M;refine o1 K (QV (b:=[108,116]) rfl rfl) rfl fun _ K=>?_;refine Qg 1 K M ?_;intro _ K;refine Qn (K.QR rfl) (fun h4=>?_) (fun h4=>?_)
 ·have hb4:=h4;replace h4:=of_decide_eq_true h4;refine QT ?_;show W _ _ _ _ _ _ _;refine Qn (t:=true) ((K.QR rfl).trans (congrArg (fun b=>some (AV.bool b)) hb4)) (fun _=>?_) (fun h=>by cases h);refine Qq<|Qh<|o1 K (VO I0 LM Xn Ww rfl rfl) rfl fun _ K=>?_;refine au 1 K M ?_;intro _ _ K _ M;refine Qe ⟨.inr rfl,_,YI 0 K M rfl rfl rfl,?_⟩;refine⟨?_,M.qt⟩;unfold Kk Y1
  simp_all
 have hb4:=h4;replace h4:=of_decide_eq_false h4;refine Qh<|o1 K (QV (b:=[108,101]) rfl rfl) rfl fun _ K=>?_;refine Qg 1 K M ?_;intro _ K;refine Qn (K.QR rfl) (fun h4=>?_) (fun h4=>?_)
 ·have hb4:=h4;replace h4:=of_decide_eq_true h4;refine Qq<|Qh<|o1 K (VO I0 LM Xn Ww rfl rfl) rfl fun _ K=>?_;refine au 1 K M ?_;intro _ _ K _ M;refine Qe ⟨.inr rfl,_,YI 0 K M rfl rfl rfl,?_⟩;refine⟨?_,M.qt⟩;unfold Kk Y1
  simp_all
 have hb4:=h4;replace h4:=of_decide_eq_false h4;refine Qq<|Qq<|Qh<|o1 K (QV (b:=[105,110]) rfl rfl) rfl fun _ K=>?_;refine Qg 1 K M ?_;intro _ K;refine Qn (K.QR rfl) (fun h8=>?_) (fun h8=>?_)
 ·have hb8:=h8;replace h8:=of_decide_eq_true h8;refine QT ?_;show W _ _ _ _ _ _ _;refine Qn (t:=true) ((K.QR rfl).trans (congrArg (fun b=>some (AV.bool b)) hb8)) (fun _=>?_) (fun h=>by cases h);refine Qq<|Qh<|o1 K (VO I0 LM Xn Ww rfl rfl) rfl fun _ K=>?_;refine au 1 K M ?_;intro _ _ K _ M;refine Qe ⟨.inr rfl,_,YI 0 K M rfl rfl rfl,?_⟩;refine⟨?_,M.qt⟩;unfold Kk Y1
  simp_all
 have hb8:=h8;replace h8:=of_decide_eq_false h8;refine Qh<|o1 K (QV (b:=[110,111,116,105,110]) rfl rfl) rfl fun _ K=>?_;refine Qg 1 K M ?_;intro _ K;refine Qn (K.QR rfl) (fun h8=>?_) (fun h8=>?_)
 ·have hb8:=h8;replace h8:=of_decide_eq_true h8;refine Qq<|Qh<|o1 K (VO I0 LM Xn Ww rfl rfl) rfl fun _ K=>?_;refine au 1 K M ?_;intro _ _ K _ M;refine Qe ⟨.inr rfl,_,YI 0 K M rfl rfl rfl,?_⟩;refine⟨?_,M.qt⟩;unfold Kk Y1
  simp_all
 have hb8:=h8;replace h8:=of_decide_eq_false h8;refine QT ?_;show W _ _ _ _ _ _ _;refine Qq<|Qh<|o1 K (VO I0 LM Xn Ww rfl rfl) rfl fun _ K=>?_;refine au 1 K M ?_;intro _ _ K _ M;refine Qe ⟨.inr rfl,_,YI 0 K M rfl rfl rfl,?_⟩;refine⟨?_,M.qt⟩;unfold Kk Y1
 simp_all
end Go.Proofs.YtadjjadimlkkgaaGreatDoor
end
section
namespace Go.Proofs.YtadjjadimlkkgaaGreatDoor
open Go Go.RowKit

theorem Aw{st:St}{cs:List AV}(hf:Q6 st){sc:List Dc}{kd:AV}{ld:List (List AV)}(hD:Xs st.h.get sc kd ld){o s:List Nat}{z a:Int}{l:List Nd}(hr:Vn st.h.get (.mk o s z a l) cs){k j:Nd}(hl2:l=[k,j])(hTm: ∀k∈l,Jw k=true)(cp:AV): ∃v st',Ev Tryz.prog Ja 93 [cp,kd,.agg cs] st v st'∧v=pT (Ya sc o a k j)∧Qt st st':=by
 have hr0:=hr;obtain⟨kk,ls,rfl,hK,hb⟩:=hr.Ua;have hln:=hK.ln;have hbn:=hK.ZJ
 have hl3:l.length=2:=by rw[hl2];rfl
 refine QC rfl Tryz.func93 rfl Tryz.ntmps93 rfl fun T hT=>?_;have K:Jm [(0,_),(1,_),(2,_)] T:=(.cons (hT 0) (.cons (hT 1) (.cons (hT 2) .nil)));have M:=Mem.start hf;refine Qq<|Qh ?_;refine J2 K M rfl (Qa rfl (Qa rfl (Qa rfl (Qa rfl (Qa hK.cell Qv))))) (by decide) fun c5 _ _ K M=>?_;refine au 5 K M ?_;intro c8 _ _ K _ M;refine o1 K (Jd J5 rfl rfl hK.len) rfl fun _ K=>?_;refine Qg 1 K M ?_;intro _ K;refine Uq ?_;refine Qg 1 K M ?_;intro _ K;refine Qn (K.QR rfl) (fun h19=>?_) (fun h19=>?_)
 ·have hb19:=h19;replace h19:=of_decide_eq_true h19;refine Qg 1 K M ?_;intro _ K;obtain⟨⟨o21,s21,z21,a21,l21⟩,hi21⟩: ∃k,l[0]? =some k:=⟨_,List.getElem?_eq_getElem (by first|omega|(have:=Y8 ht (by assumption);omega))⟩;have hm21:=Yb hi21;obtain⟨_,hc21,hn21⟩:=hK.at_ _ _ hi21;have hp21:=hn21;obtain⟨kk21,ls21,rfl,hK21,hb21⟩:=hp21.Ua;obtain⟨x21,m21,f21,q21,_,la21,lo21,lp21⟩:=(hK.r.mem M (by simp)).load (i:=0) (cs:=_) hc21;refine o1 K (Qr (j:=0) JH (congrArg some q21) rfl (by rw[hK.ln];first|omega|(have:=Y8 ht (by assumption);omega))) rfl fun _ K=>o1 K (Qx rfl (la21 _ QO)) rfl fun _ K=>?_;refine au 2 K M ?_;intro c10 _ _ K _ M;refine QB (k:=0) K M rfl rfl rfl QH rfl (Qa rfl (Qa rfl (Qa rfl (Qa rfl (Qa hK21.cell Qv))))) rfl fun _ M=>?_;refine Qg 2 K M ?_;intro _ K;obtain⟨v26,st26,ev26,rfl,q26⟩:=Bb _ _ _ M.fresh (Xs.mono M.rows hD) (hn21.mono M.rows) (hTm _ hm21);refine o1 K (Qc rfl ev26) rfl fun _ K=>?_;replace M:=M.quiet q26;refine Qg 9 K M ?_;intro _ K;refine Qn (K.QR rfl) (fun h31=>?_) (fun h31=>?_)
  ·have hb31:=h31
   replace h31: ¬((Jb sc (.mk o21 s21 z21 a21 l21)).2.2=0):=by simpa using h31
   refine Qg 4 K M ?_;intro _ K;refine Qe ⟨.inr rfl,_,Ah K rfl rfl,?_⟩;refine⟨congrArg pT (a₁:=((Jb sc (.mk o21 s21 z21 a21 l21)).2.1,(Jb sc (.mk o21 s21 z21 a21 l21)).2.2)) (a₂:=Ya sc o a k j) (Eq.symm ?_),M.qt⟩;rw[hl2]at hi21;have hk:k=_:=Option.some.inj hi21
   try clear M
   try clear ih
   try clear hr
   try clear hr0
   try clear hp
   try clear hn
   try clear hK
   try clear hb
   try clear hc
   try clear hm
   try clear hp21
   try clear hn21
   try clear hK21
   try clear hb21
   try clear hc21
   try clear hm21
   try clear hln
   try clear hbn
   try clear hf
   try clear K
   try clear hD
   try clear hTm
   try clear hl2
   try clear hf
   try clear hi21
   try clear hi21b
   try clear hm21
   try clear hm21b
   try clear Mq
   try clear Mp
   unfold Ya;subst hk
   generalize Jb sc (.mk o21 s21 z21 a21 l21)=q1 at *
   obtain⟨q11,q12,q13⟩:=q1
   try generalize Y1 o=w at *
   try obtain⟨w1,w2⟩:=w
   try simp only[]at *
   repeat' split
   all_goals first|rfl|(exfalso;simp_all<;>omega)|(simp_all;done)|(exfalso;omega)
  have hb31:=h31
  replace h31:((Jb sc (.mk o21 s21 z21 a21 l21)).2.2=0):=by simpa using h31
  refine Qg 2 K M ?_;intro _ K;refine o1 K (XN (j:=0) Es Xn rfl rfl (by decide)) rfl fun _ K=>?_;refine au 1 K M ?_;intro _ _ K _ M;refine o1 K (Jn rfl rfl (by omega) (by omega)) rfl fun _ K=>?_;refine Qg 1 K M ?_;intro _ K;refine Uq ?_;refine Qg 1 K M ?_;intro _ K;refine Qn (K.QR rfl) (fun h19=>?_) (fun h19=>?_)
  ·have hb19:=h19;replace h19:=of_decide_eq_true h19;refine Qg 1 K M ?_;intro _ K;obtain⟨⟨o21b,s21b,z21b,a21b,l21b⟩,hi21b⟩: ∃k,l[1]? =some k:=⟨_,List.getElem?_eq_getElem (by first|omega|(have:=Y8 ht (by assumption);omega))⟩;have hm21b:=Yb hi21b;obtain⟨_,hc21b,hn21b⟩:=hK.at_ _ _ hi21b;have hp21b:=hn21b;obtain⟨kk21b,ls21b,rfl,hK21b,hb21b⟩:=hp21b.Ua;obtain⟨x21,m21,f21,q21,_,la21,lo21,lp21⟩:=(hK.r.mem M (by simp)).load (i:=1) (cs:=_) hc21b;refine o1 K (Qr (j:=1) JH (congrArg some q21) rfl (by rw[hK.ln];first|omega|(have:=Y8 ht (by assumption);omega))) rfl fun _ K=>o1 K (Qx rfl (la21 _ QO)) rfl fun _ K=>?_;refine au 2 K M ?_;intro c10 _ _ K _ M;refine QB (k:=0) K M rfl rfl rfl QH rfl (Qa rfl (Qa rfl (Qa rfl (Qa rfl (Qa hK21b.cell Qv))))) rfl fun _ M=>?_;refine Qg 2 K M ?_;intro _ K;obtain⟨v26,st26,ev26,rfl,q26⟩:=Bb _ _ _ M.fresh (Xs.mono M.rows hD) (hn21b.mono M.rows) (hTm _ hm21b);refine o1 K (Qc rfl ev26) rfl fun _ K=>?_;replace M:=M.quiet q26;refine Qg 9 K M ?_;intro _ K;refine Qn (K.QR rfl) (fun h31=>?_) (fun h31=>?_)
   ·have hb31:=h31
    replace h31: ¬((Jb sc (.mk o21b s21b z21b a21b l21b)).2.2=0):=by simpa using h31
    refine Qg 4 K M ?_;intro _ K;refine Qe ⟨.inr rfl,_,Ah K rfl rfl,?_⟩;refine⟨congrArg pT (a₁:=((Jb sc (.mk o21b s21b z21b a21b l21b)).2.1,(Jb sc (.mk o21b s21b z21b a21b l21b)).2.2)) (a₂:=Ya sc o a k j) (Eq.symm ?_),M.qt⟩;rw[hl2]at hi21;have hk:k=_:=Option.some.inj hi21;rw[hl2]at hi21b;have hj:j=_:=Option.some.inj hi21b
    try clear M
    try clear ih
    try clear hr
    try clear hr0
    try clear hp
    try clear hn
    try clear hK
    try clear hb
    try clear hc
    try clear hm
    try clear hp21
    try clear hn21
    try clear hK21
    try clear hb21
    try clear hc21
    try clear hm21
    try clear hp21b
    try clear hn21b
    try clear hK21b
    try clear hb21b
    try clear hc21b
    try clear hm21b
    try clear hln
    try clear hbn
    try clear hf
    try clear K
    try clear hD
    try clear hTm
    try clear hl2
    try clear hf
    try clear hi21
    try clear hi21b
    try clear hm21
    try clear hm21b
    try clear Mq
    try clear Mp
    unfold Ya;subst hk
    generalize Jb sc (.mk o21 s21 z21 a21 l21)=q1 at *
    obtain⟨q11,q12,q13⟩:=q1;subst hj
    generalize Jb sc (.mk o21b s21b z21b a21b l21b)=q2 at *
    obtain⟨q21,q22,q23⟩:=q2
    try generalize Y1 o=w at *
    try obtain⟨w1,w2⟩:=w
    try simp only[]at *
    repeat' split
    all_goals first|rfl|(exfalso;simp_all<;>omega)|(simp_all;done)|(exfalso;omega)
   have hb31:=h31
   replace h31:((Jb sc (.mk o21b s21b z21b a21b l21b)).2.2=0):=by simpa using h31
   refine Qg 2 K M ?_;intro _ K;refine o1 K (XN (j:=1) Es Xn rfl rfl (by decide)) rfl fun _ K=>?_;refine au 1 K M ?_;intro _ _ K _ M;refine o1 K (Jn rfl rfl (by omega) (by omega)) rfl fun _ K=>?_;refine Qg 1 K M ?_;intro _ K;refine Uq ?_;refine Qg 1 K M ?_;intro _ K;refine Qn (K.QR rfl) (fun h19=>?_) (fun h19=>?_)
   ·have hb19:=h19;replace h19:=of_decide_eq_true h19
    exfalso;omega
   have hb19:=h19;replace h19:=of_decide_eq_false h19;refine Uc ?_;show W _ _ _ _ _ _ _;refine Qq ?_;refine Jk (l:=[(1,0),(2,0),(3,0),(0,1),(4,0),(5,0)]) (by kernel_rfl) ?_;have Mq:=M;refine d1 rfl K (Qf VE rfl) rfl rfl fun _ K=>d1 rfl K (Qx rfl (M.load (k:=3) rfl (Qk JI rfl))) rfl rfl fun _ K=>?_;obtain⟨v41,st41,ev41,rfl,q41⟩:=TD M.fresh o;refine dA rfl K (Qc rfl ev41) rfl rfl fun _ K=>?_;replace M:=M.quiet q41;have Mp:=Mq;have Mq:=M;refine QZ rfl K rfl (M.load (k:=2) rfl (QG Km rfl)) (Mp.load (k:=2) rfl (QG Km rfl)) (Zx rfl) rfl (by decide) fun _ K=>?_;refine d1 rfl K (Sz rfl rfl) rfl rfl fun _ K=>d1 rfl K (QM rfl) rfl rfl fun _ K=>J0 ?_;show W _ _ _ _ _ _ _;refine Qg 2 K M ?_;intro _ K;refine o1 K (QV (b:=[101,113]) rfl rfl) rfl fun _ K=>?_;refine oB K (Qb rfl) rfl fun b46 _ e46 K=>?_;cases b46
   ·replace e46:=of_decide_eq_false e46;refine Qg 2 K M ?_;intro _ K;refine og K rfl rfl (QV (b:=[110,101]) rfl rfl) rfl fun _ K=>?_;refine Qg 1 K M ?_;intro _ K;refine Z0 K rfl (fun h50=>?_) fun h50=>?_
    ·refine Qh<|o1 K (XN (j:=0) Es Xn rfl rfl (by decide)) rfl fun _ K=>?_;refine Qg 1 K M ?_;intro _ K;refine o1 K (XN (j:=1) Es Xn rfl rfl (by decide)) rfl fun _ K=>?_;refine Qg 2 K M ?_;intro _ K;refine oB K (Qb rfl) rfl fun b56 _ e56 K=>?_;cases b56
     ·replace e56:=of_decide_eq_false e56;refine Qg 7 K M ?_;intro _ K;refine Qn (t:=true) (K.QR rfl) (fun _=>?_) (fun h=>by cases h);refine Qg 4 K M ?_;intro _ K;refine Qe ⟨.inr rfl,_,Ah K rfl rfl,?_⟩;refine⟨congrArg pT (a₁:=(a,7)) (a₂:=Ya sc o a k j) (Eq.symm ?_),M.qt⟩;rw[hl2]at hi21;have hk:k=_:=Option.some.inj hi21;rw[hl2]at hi21b;have hj:j=_:=Option.some.inj hi21b
      try clear M
      try clear ih
      try clear hr
      try clear hr0
      try clear hp
      try clear hn
      try clear hK
      try clear hb
      try clear hc
      try clear hm
      try clear hp21
      try clear hn21
      try clear hK21
      try clear hb21
      try clear hc21
      try clear hm21
      try clear hp21b
      try clear hn21b
      try clear hK21b
      try clear hb21b
      try clear hc21b
      try clear hm21b
      try clear hln
      try clear hbn
      try clear hf
      try clear K
      try clear hD
      try clear hTm
      try clear hl2
      try clear hf
      try clear hi21
      try clear hi21b
      try clear hm21
      try clear hm21b
      try clear Mq
      try clear Mp
      unfold Ya;subst hk
      generalize Jb sc (.mk o21 s21 z21 a21 l21)=q1 at *
      obtain⟨q11,q12,q13⟩:=q1;subst hj
      generalize Jb sc (.mk o21b s21b z21b a21b l21b)=q2 at *
      obtain⟨q21,q22,q23⟩:=q2
      try generalize Y1 o=w at *
      try obtain⟨w1,w2⟩:=w
      try simp only[]at *
      repeat' split
      all_goals first|rfl|(exfalso;simp_all<;>omega)|(simp_all;done)|(exfalso;omega)
     replace e56:=of_decide_eq_true e56;refine og K rfl rfl (XN (j:=0) Es Xn rfl rfl (by decide)) rfl fun _ K=>?_;refine Qg 6 K M ?_;intro _ K;refine Qn (K.QR rfl) (fun h62=>?_) (fun h62=>?_)
     ·have hb62:=h62
      replace h62: ¬(0<(Jb sc (.mk o21 s21 z21 a21 l21)).1):=by simpa using h62
      refine Qg 4 K M ?_;intro _ K;refine Qe ⟨.inr rfl,_,Ah K rfl rfl,?_⟩;refine⟨congrArg pT (a₁:=(a,7)) (a₂:=Ya sc o a k j) (Eq.symm ?_),M.qt⟩;rw[hl2]at hi21;have hk:k=_:=Option.some.inj hi21;rw[hl2]at hi21b;have hj:j=_:=Option.some.inj hi21b
      try clear M
      try clear ih
      try clear hr
      try clear hr0
      try clear hp
      try clear hn
      try clear hK
      try clear hb
      try clear hc
      try clear hm
      try clear hp21
      try clear hn21
      try clear hK21
      try clear hb21
      try clear hc21
      try clear hm21
      try clear hp21b
      try clear hn21b
      try clear hK21b
      try clear hb21b
      try clear hc21b
      try clear hm21b
      try clear hln
      try clear hbn
      try clear hf
      try clear K
      try clear hD
      try clear hTm
      try clear hl2
      try clear hf
      try clear hi21
      try clear hi21b
      try clear hm21
      try clear hm21b
      try clear Mq
      try clear Mp
      unfold Ya;subst hk
      generalize Jb sc (.mk o21 s21 z21 a21 l21)=q1 at *
      obtain⟨q11,q12,q13⟩:=q1;subst hj
      generalize Jb sc (.mk o21b s21b z21b a21b l21b)=q2 at *
      obtain⟨q21,q22,q23⟩:=q2
      try generalize Y1 o=w at *
      try obtain⟨w1,w2⟩:=w
      try simp only[]at *
      repeat' split
      all_goals first|rfl|(exfalso;simp_all<;>omega)|(simp_all;done)|(exfalso;omega)
     have hb62:=h62
     replace h62:(0<(Jb sc (.mk o21 s21 z21 a21 l21)).1):=by simpa using h62
     refine Qg 2 K M ?_;intro _ K;refine Qe ⟨.inr rfl,_,Ah K rfl rfl,?_⟩;refine⟨congrArg pT (a₁:=(0,0)) (a₂:=Ya sc o a k j) (Eq.symm ?_),M.qt⟩;rw[hl2]at hi21;have hk:k=_:=Option.some.inj hi21;rw[hl2]at hi21b;have hj:j=_:=Option.some.inj hi21b
     try clear M
     try clear ih
     try clear hr
     try clear hr0
     try clear hp
     try clear hn
     try clear hK
     try clear hb
     try clear hc
     try clear hm
     try clear hp21
     try clear hn21
     try clear hK21
     try clear hb21
     try clear hc21
     try clear hm21
     try clear hp21b
     try clear hn21b
     try clear hK21b
     try clear hb21b
     try clear hc21b
     try clear hm21b
     try clear hln
     try clear hbn
     try clear hf
     try clear K
     try clear hD
     try clear hTm
     try clear hl2
     try clear hf
     try clear hi21
     try clear hi21b
     try clear hm21
     try clear hm21b
     try clear Mq
     try clear Mp
     unfold Ya;subst hk
     generalize Jb sc (.mk o21 s21 z21 a21 l21)=q1 at *
     obtain⟨q11,q12,q13⟩:=q1;subst hj
     generalize Jb sc (.mk o21b s21b z21b a21b l21b)=q2 at *
     obtain⟨q21,q22,q23⟩:=q2
     try generalize Y1 o=w at *
     try obtain⟨w1,w2⟩:=w
     try simp only[]at *
     repeat' split
     all_goals first|rfl|(exfalso;simp_all<;>omega)|(simp_all;done)|(exfalso;omega)
    refine Qg 2 K M ?_;intro _ K;refine Qn (K.QR rfl) (fun h62=>?_) (fun h62=>?_)
    ·have hb62:=h62
     replace h62: ¬(((Jb sc (.mk o21 s21 z21 a21 l21)).1,(Jb sc (.mk o21b s21b z21b a21b l21b)).1)=((Y1 o).1,(Y1 o).2)):=by intro hq;rw[decide_eq_true hq]at h62;cases h62
     refine Qg 4 K M ?_;intro _ K;refine Qe ⟨.inr rfl,_,Ah K rfl rfl,?_⟩;refine⟨congrArg pT (a₁:=(a,7)) (a₂:=Ya sc o a k j) (Eq.symm ?_),M.qt⟩;rw[hl2]at hi21;have hk:k=_:=Option.some.inj hi21;rw[hl2]at hi21b;have hj:j=_:=Option.some.inj hi21b
     try clear M
     try clear ih
     try clear hr
     try clear hr0
     try clear hp
     try clear hn
     try clear hK
     try clear hb
     try clear hc
     try clear hm
     try clear hp21
     try clear hn21
     try clear hK21
     try clear hb21
     try clear hc21
     try clear hm21
     try clear hp21b
     try clear hn21b
     try clear hK21b
     try clear hb21b
     try clear hc21b
     try clear hm21b
     try clear hln
     try clear hbn
     try clear hf
     try clear K
     try clear hD
     try clear hTm
     try clear hl2
     try clear hf
     try clear hi21
     try clear hi21b
     try clear hm21
     try clear hm21b
     try clear Mq
     try clear Mp
     unfold Ya;subst hk
     generalize Jb sc (.mk o21 s21 z21 a21 l21)=q1 at *
     obtain⟨q11,q12,q13⟩:=q1;subst hj
     generalize Jb sc (.mk o21b s21b z21b a21b l21b)=q2 at *
     obtain⟨q21,q22,q23⟩:=q2
     try generalize Y1 o=w at *
     try obtain⟨w1,w2⟩:=w
     try simp only[]at *
     repeat' split
     all_goals first|rfl|(exfalso;simp_all<;>omega)|(simp_all;done)|(exfalso;omega)
    have hb62:=h62
    replace h62:(((Jb sc (.mk o21 s21 z21 a21 l21)).1,(Jb sc (.mk o21b s21b z21b a21b l21b)).1)=((Y1 o).1,(Y1 o).2)):=by by_cases hq:((Jb sc (.mk o21 s21 z21 a21 l21)).1,(Jb sc (.mk o21b s21b z21b a21b l21b)).1)=((Y1 o).1,(Y1 o).2);exact hq;rw[decide_eq_false hq]at h62;cases h62
    refine Qg 2 K M ?_;intro _ K;refine Qe ⟨.inr rfl,_,Ah K rfl rfl,?_⟩;refine⟨congrArg pT (a₁:=(0,0)) (a₂:=Ya sc o a k j) (Eq.symm ?_),M.qt⟩;rw[hl2]at hi21;have hk:k=_:=Option.some.inj hi21;rw[hl2]at hi21b;have hj:j=_:=Option.some.inj hi21b
    try clear M
    try clear ih
    try clear hr
    try clear hr0
    try clear hp
    try clear hn
    try clear hK
    try clear hb
    try clear hc
    try clear hm
    try clear hp21
    try clear hn21
    try clear hK21
    try clear hb21
    try clear hc21
    try clear hm21
    try clear hp21b
    try clear hn21b
    try clear hK21b
    try clear hb21b
    try clear hc21b
    try clear hm21b
    try clear hln
    try clear hbn
    try clear hf
    try clear K
    try clear hD
    try clear hTm
    try clear hl2
    try clear hf
    try clear hi21
    try clear hi21b
    try clear hm21
    try clear hm21b
    try clear Mq
    try clear Mp
    unfold Ya;subst hk
    generalize Jb sc (.mk o21 s21 z21 a21 l21)=q1 at *
    obtain⟨q11,q12,q13⟩:=q1;subst hj
    generalize Jb sc (.mk o21b s21b z21b a21b l21b)=q2 at *
    obtain⟨q21,q22,q23⟩:=q2
    try generalize Y1 o=w at *
    try obtain⟨w1,w2⟩:=w
    try simp only[]at *
    repeat' split
    all_goals first|rfl|(exfalso;simp_all<;>omega)|(simp_all;done)|(exfalso;omega)
   replace e46:=of_decide_eq_true e46;refine Qg 4 K M ?_;intro _ K;refine Qn (t:=true) (K.QR rfl) (fun _=>?_) (fun h=>by cases h);refine Qh<|o1 K (XN (j:=0) Es Xn rfl rfl (by decide)) rfl fun _ K=>?_;refine Qg 1 K M ?_;intro _ K;refine o1 K (XN (j:=1) Es Xn rfl rfl (by decide)) rfl fun _ K=>?_;refine Qg 2 K M ?_;intro _ K;refine oB K (Qb rfl) rfl fun b56 _ e56 K=>?_;cases b56
   ·replace e56:=of_decide_eq_false e56;refine Qg 7 K M ?_;intro _ K;refine Qn (t:=true) (K.QR rfl) (fun _=>?_) (fun h=>by cases h);refine Qg 4 K M ?_;intro _ K;refine Qe ⟨.inr rfl,_,Ah K rfl rfl,?_⟩;refine⟨congrArg pT (a₁:=(a,7)) (a₂:=Ya sc o a k j) (Eq.symm ?_),M.qt⟩;rw[hl2]at hi21;have hk:k=_:=Option.some.inj hi21;rw[hl2]at hi21b;have hj:j=_:=Option.some.inj hi21b
    try clear M
    try clear ih
    try clear hr
    try clear hr0
    try clear hp
    try clear hn
    try clear hK
    try clear hb
    try clear hc
    try clear hm
    try clear hp21
    try clear hn21
    try clear hK21
    try clear hb21
    try clear hc21
    try clear hm21
    try clear hp21b
    try clear hn21b
    try clear hK21b
    try clear hb21b
    try clear hc21b
    try clear hm21b
    try clear hln
    try clear hbn
    try clear hf
    try clear K
    try clear hD
    try clear hTm
    try clear hl2
    try clear hf
    try clear hi21
    try clear hi21b
    try clear hm21
    try clear hm21b
    try clear Mq
    try clear Mp
    unfold Ya;subst hk
    generalize Jb sc (.mk o21 s21 z21 a21 l21)=q1 at *
    obtain⟨q11,q12,q13⟩:=q1;subst hj
    generalize Jb sc (.mk o21b s21b z21b a21b l21b)=q2 at *
    obtain⟨q21,q22,q23⟩:=q2
    try generalize Y1 o=w at *
    try obtain⟨w1,w2⟩:=w
    try simp only[]at *
    repeat' split
    all_goals first|rfl|(exfalso;simp_all<;>omega)|(simp_all;done)|(exfalso;omega)
   replace e56:=of_decide_eq_true e56;refine og K rfl rfl (XN (j:=0) Es Xn rfl rfl (by decide)) rfl fun _ K=>?_;refine Qg 6 K M ?_;intro _ K;refine Qn (K.QR rfl) (fun h62=>?_) (fun h62=>?_)
   ·have hb62:=h62
    replace h62: ¬(0<(Jb sc (.mk o21 s21 z21 a21 l21)).1):=by simpa using h62
    refine Qg 4 K M ?_;intro _ K;refine Qe ⟨.inr rfl,_,Ah K rfl rfl,?_⟩;refine⟨congrArg pT (a₁:=(a,7)) (a₂:=Ya sc o a k j) (Eq.symm ?_),M.qt⟩;rw[hl2]at hi21;have hk:k=_:=Option.some.inj hi21;rw[hl2]at hi21b;have hj:j=_:=Option.some.inj hi21b
    try clear M
    try clear ih
    try clear hr
    try clear hr0
    try clear hp
    try clear hn
    try clear hK
    try clear hb
    try clear hc
    try clear hm
    try clear hp21
    try clear hn21
    try clear hK21
    try clear hb21
    try clear hc21
    try clear hm21
    try clear hp21b
    try clear hn21b
    try clear hK21b
    try clear hb21b
    try clear hc21b
    try clear hm21b
    try clear hln
    try clear hbn
    try clear hf
    try clear K
    try clear hD
    try clear hTm
    try clear hl2
    try clear hf
    try clear hi21
    try clear hi21b
    try clear hm21
    try clear hm21b
    try clear Mq
    try clear Mp
    unfold Ya;subst hk
    generalize Jb sc (.mk o21 s21 z21 a21 l21)=q1 at *
    obtain⟨q11,q12,q13⟩:=q1;subst hj
    generalize Jb sc (.mk o21b s21b z21b a21b l21b)=q2 at *
    obtain⟨q21,q22,q23⟩:=q2
    try generalize Y1 o=w at *
    try obtain⟨w1,w2⟩:=w
    try simp only[]at *
    repeat' split
    all_goals first|rfl|(exfalso;simp_all<;>omega)|(simp_all;done)|(exfalso;omega)
   have hb62:=h62
   replace h62:(0<(Jb sc (.mk o21 s21 z21 a21 l21)).1):=by simpa using h62
   refine Qg 2 K M ?_;intro _ K;refine Qe ⟨.inr rfl,_,Ah K rfl rfl,?_⟩;refine⟨congrArg pT (a₁:=(0,0)) (a₂:=Ya sc o a k j) (Eq.symm ?_),M.qt⟩;rw[hl2]at hi21;have hk:k=_:=Option.some.inj hi21;rw[hl2]at hi21b;have hj:j=_:=Option.some.inj hi21b
   try clear M
   try clear ih
   try clear hr
   try clear hr0
   try clear hp
   try clear hn
   try clear hK
   try clear hb
   try clear hc
   try clear hm
   try clear hp21
   try clear hn21
   try clear hK21
   try clear hb21
   try clear hc21
   try clear hm21
   try clear hp21b
   try clear hn21b
   try clear hK21b
   try clear hb21b
   try clear hc21b
   try clear hm21b
   try clear hln
   try clear hbn
   try clear hf
   try clear K
   try clear hD
   try clear hTm
   try clear hl2
   try clear hf
   try clear hi21
   try clear hi21b
   try clear hm21
   try clear hm21b
   try clear Mq
   try clear Mp
   unfold Ya;subst hk
   generalize Jb sc (.mk o21 s21 z21 a21 l21)=q1 at *
   obtain⟨q11,q12,q13⟩:=q1;subst hj
   generalize Jb sc (.mk o21b s21b z21b a21b l21b)=q2 at *
   obtain⟨q21,q22,q23⟩:=q2
   try generalize Y1 o=w at *
   try obtain⟨w1,w2⟩:=w
   try simp only[]at *
   repeat' split
   all_goals first|rfl|(exfalso;simp_all<;>omega)|(simp_all;done)|(exfalso;omega)
  have hb19:=h19;replace h19:=of_decide_eq_false h19
  exfalso;omega
 have hb19:=h19;replace h19:=of_decide_eq_false h19
 exfalso;omega
end Go.Proofs.YtadjjadimlkkgaaGreatDoor
end
