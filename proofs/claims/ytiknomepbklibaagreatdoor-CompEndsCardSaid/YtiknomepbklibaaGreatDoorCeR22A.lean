/-
  The reference's automata: may one be, are two one, where does a word lead to.
-/
import Derived.Test.YtiknomepbklibaaGreatDoorCePrJ
set_option maxHeartbeats 8000000
set_option maxRecDepth 100000
set_option linter.unnecessarySimpa false
set_option linter.unusedSimpArgs false
set_option linter.unusedVariables false
section
namespace Go.Proofs.YtiknomepbklibaaGreatDoor
open Go Go.RowKit

theorem FJ{α:Type}{Q:α→Prop}{l:List α}{i:Nat}{x:α}(h: ∀(j:Nat) (x:α),j<i→l[j]? =some x→Q x)(hi:l[i]? =some x)(hx:Q x): ∀(j:Nat) (x:α),j<i+1→l[j]? =some x→Q x:=fun j y hj hy=>by
 rcases Nat.lt_succ_iff_lt_or_eq.1 hj with h1|h1
 ·exact h j y h1 hy
 ·subst h1;rw[hi]at hy
  injection hy with hy
  exact hy▸hx
end Go.Proofs.YtiknomepbklibaaGreatDoor
end
section
namespace Go.Proofs.YtiknomepbklibaaGreatDoor
open Go Go.RowKit

theorem zF{k c u:Nat}(hu:u≤1):(c % 2^k+u *2^k)|||c/2^k *2^(k+1)=UQ k c u:=by rw[←Bo hu,qW hu]
theorem vL{c k:Nat}(h:c≤64):c/2^k *2^(k+1)≤9223372036854775807:=by
 have h1:c/2^k *2^k≤c:=Nat.div_mul_le_self c (2^k);rw[Nat.pow_succ,←Nat.mul_assoc];omega

end Go.Proofs.YtiknomepbklibaaGreatDoor
end
section
namespace Go.Proofs.YtiknomepbklibaaGreatDoor
open Go Go.RowKit
variable {st:St}

theorem Qk.add{st0:St}{X0:Fp}{M:QT}{Os:List Ob}{o:Ob}(B:Qk st0 X0 st M Os)(h:o.H st.h.get)(hi: ∀c,o.F c→c<st.n∧st0.n≤c)(hd: ∀p∈Os,∀c,o.F c→ ¬p.F c)(hM: ∀c m l,(c,m,l)∈M→ ¬o.F c):Qk st0 X0 st M (o::Os):=by
 refine⟨B.fresh,B.le,B.row,B.nodup,B.lo,fun p hp=>?_,fun p hp c hc=>?_,List.pairwise_cons.2 ⟨hd,B.dj⟩,fun p hp c m l hm=>?_,B.J5⟩
 ·rcases List.mem_cons.1 hp with rfl|hp
  ·exact h
  ·exact B.obj p hp
 ·rcases List.mem_cons.1 hp with rfl|hp
  ·exact⟨(hi c hc).1,.inl (hi c hc).2⟩
  ·exact B.hi p hp c hc
 ·rcases List.mem_cons.1 hp with rfl|hp
  ·exact hM c m l hm
  ·exact B.djM p hp c m l hm
theorem Qk.Zq{st0 st':St}{X0:Fp}{M:QT}{Os:List Ob}{o om om':Ob}{k:Nat}(B0:Qk st0 X0 st M Os)(hk:Os[k]? =some om)(hF:om'.F=om.F)(B:Qk st0 X0 st' M (Os.set k om'))(h:o.H st'.h.get)(hn:ZK st st' o.F):Qk st0 X0 st' M (o::Os.set k om'):=by
 refine B.add h (fun c hc=>⟨(hn c hc).2,Nat.le_trans B0.le (hn c hc).1⟩) (fun p hp c hc hpc=>?_) (fun c m l hm hc=>?_)
 ·have h1:=(hn c hc).1;rcases List.mem_or_eq_of_mem_set hp with hp|rfl
  ·have:=(B0.hi p hp c hpc).1;omega
  ·rw[hF]at hpc;have:=B0.Y1 hk c hpc;omega
 ·have h1:=(hn c hc).1;have:=(B0.row c m l hm).lt B0.fresh;omega
theorem UA{st':St}{F:Fp}(h: ∀c,F c→c<st'.n):WN st st' F F:=fun c hc=>⟨.inl hc,h c hc⟩

end Go.Proofs.YtiknomepbklibaaGreatDoor
end
section
namespace Go.Proofs.YtiknomepbklibaaGreatDoor
open Go Go.RowKit
variable {a:Au} {l:List (Nat×Nat)} {st:St}

def KF(l:List (Nat×Nat)):List (List AV):=l.map fun p=>[.int .i64 (p.1:Nat),.int .i64 (p.2:Nat)]
theorem Yp(l:List (Nat×Nat)):(KF l).length=l.length:=by simp[KF]
theorem WW{i:Nat}{p:Nat×Nat}(h:l[i]? =some p):(KF l)[i]? =some [.int .i64 (p.1:Nat),.int .i64 (p.2:Nat)]:=by rw[KF,List.getElem?_map,h];rfl
theorem Da(l:List (Nat×Nat))(p:Nat×Nat):KF (l++[p])=KF l++[[.int .i64 (p.1:Nat),.int .i64 (p.2:Nat)]]:=by simp[KF]
theorem RA(a b x y:Int):Yw Tryz.prog 77 [.int .i64 a,.int .i64 b] [.int .i64 x,.int .i64 y]=Qo (FH a x) (Qo (FH b y) (some true) (some false)) (some false):=by kernel_rfl
theorem zV{G:Env}{K:List (Nat×AV)}{x y:Operand}{yt:TypeId}{p q:Nat×Nat}(hx:QW G K x=some (.agg [.int .i64 (p.1:Nat),.int .i64 (p.2:Nat)]))(hy:QW G K y=some (.agg [.int .i64 (q.1:Nat),.int .i64 (q.2:Nat)])):U0 Tryz.prog G K (.binOp .eql 77 x y yt) st (.bool (decide (p=q))) st:=
 UK hx hy (by
  show ob (Yw Tryz.prog 77 _ _) (fun r=>some (AV.bool r))=_;rw[RA,Ys,Ys]
  have e:p=q↔((p.1:Nat):Int)=((q.1:Nat):Int)∧((p.2:Nat):Int)=((q.2:Nat):Int):=by
   rw[Prod.ext_iff];omega
  by_cases h1:((p.1:Nat):Int)=((q.1:Nat):Int)<;>by_cases h2:((p.2:Nat):Int)=((q.2:Nat):Int)<;>simp[e,h1,h2,Q5,Qx,Qm])
def Kx(l:List (Nat×Nat))(p:Nat×Nat)(l':List (Nat×Nat))(k:Nat)(was:Bool):Prop:=(was=true∧l'=l∧l[k]? =some p)∨(was=false∧p∉l∧l'=l++[p]∧k=l.length)
theorem Kx.len{p:Nat×Nat}{l':List (Nat×Nat)}{k:Nat}{was:Bool}(H:Kx l p l' k was):l.length≤l'.length∧l'.length≤l.length+1∧(was=true→l'.length=l.length)∧(was=false→l'.length=l.length+1):=by
 rcases H with⟨h1,h2,h3⟩|⟨h1,h2,h3,h4⟩
 ·subst h1 h2;exact⟨Nat.le_refl _,by omega,fun _=>rfl,fun h=>by cases h⟩
 ·subst h1 h3;simp
theorem Kx.take{l:List (Nat×Nat)}{p:Nat×Nat}{l':List (Nat×Nat)}{k:Nat}{was:Bool}(H:Kx l p l' k was){n:Nat}(hn:n≤l.length):l'.take n=l.take n:=by
 rcases H with⟨h1,h2,h3⟩|⟨h1,h2,h3,h4⟩
 ·rw[h2]
 ·rw[h3,List.take_append_of_le_length hn]
theorem Kx.pr{b:Au}{K:Nat}{l':List (Nat×Nat)}{rows:List (List Int)}{row:List Int}(P:Vo (Og a b) (0,0) K l rows row)(hr:row.length<K){p:Nat×Nat}(hp:l[rows.length]? =some p){q:Nat×Nat}(hq:Og a b p row.length=q){k:Nat}{was:Bool}(H:Kx l q l' k was):Vo (Og a b) (0,0) K l' rows (row++[((k:Nat):Int)]):=by
 subst hq;rcases H with⟨h1,h2,h3⟩|⟨h1,h2,h3,h4⟩
 ·rw[h2];exact P.J5 hr hp h3
 ·rw[h3,h4];exact P.new hr hp h2
theorem Vo.jh{b:Au}(Wa:Zl a)(Wb:Zl b)(ht:b.tr=a.tr){rows:List (List Int)}{row:List Int}(P:Vo (Og a b) (0,0) (2^a.tr) l rows row): ∀p∈l,p.1<a.n∧p.2<b.n:=fun p hp=>
 P.all (Q:=fun p=>p.1<a.n∧p.2<b.n) ⟨Wa.pos,Wb.pos⟩ (fun s c h hc=>⟨Wa.UN h.1 hc,Wb.UN h.2 (by show c<2^b.tr;rw[ht];exact hc)⟩) (Nat.two_pow_pos _) hp
theorem Qk.C7{st0:St}{X0:Fp}{M A:QT}{Os:List Ob}{om:Ob}{F:Fp}{ka kn:AV}{vs:List AV}(B:Qk st0 X0 st (M++(A++[])) (BM F kn vs a.nx::om::Os))(hX: ∀c,X0 c→om.F c)(hA:Acc 0 1 A ka (bC a.acc)):A6 st0 st a (.agg [.int .i64 (a.tr:Nat),ka,kn]):=by
 have hn:=B.nodup;rw[List.append_nil,List.map_append]at hn;refine⟨ka,kn,vs,A,F,rfl,hA,B.at_ (k:=0) rfl,fun c hc=>⟨(B.Li (k:=0) rfl c hc).resolve_right fun h=>(List.pairwise_cons.1 B.dj).1 om Q7 c hc (hX c h),B.Y1 (k:=0) rfl c hc⟩,(List.nodup_append.1 hn).2.1,fun c m l hm=>⟨B.row c m l (by simp[hm]),(B.lo c m l (by simp[hm])).resolve_right fun h=>B.djM om Q7 c m l (by simp[hm]) (hX c h),B.djM _ (List.mem_cons_self ..) c m l (by simp[hm])⟩⟩
theorem TU(hf:Qj st){F:Fp}{kl:AV}(hO:UU st.h.get F 2 kl (KF l))(hi: ∀c,F c→c<st.n)(hl:l.length≤1000)(p:Nat×Nat): ∃v st',Ev Tryz.prog Q0 45 [kl,.agg [iZ (p.1:Nat),iZ (p.2:Nat)]] st v st'∧ ∃kl' k was l' F',v=.tup [kl',iN k,.bool was]∧UU st'.h.get F' 2 kl' (KF l')∧WN st st' F F'∧UO F st st'∧Kx l p l' k was:=by
 have B:=Qk.UI (o:=Wk F 2 kl (KF l)) hf hO hi;obtain⟨A,hA,B⟩:=B.B7;refine JB Tryz.func45 Tryz.ntmps45 fun T K=>?_;have M:=B.mem;refine au 5 K M ?_;intro c3 _ _ K _ M;refine Jd (fun mm1 T st9=> ∃(i:Nat),mm1=l.length-i∧QX [(0,kl),(3,.ptr c3 0 0),(7,iN i)] T∧Qk st (Wk F 2 kl (KF l)).F st9 ((c3,0,[iZ (p.1:Nat),iZ (p.2:Nat)])::(A++[])) []∧i≤l.length∧(∀(j:Nat) (x:Nat×Nat),j<i→l[j]? =some x→x≠p)) (fun mm1 T st9 hI=>?_) _ _ _ ⟨0,rfl,(K.sub rfl),(B.step M).less (.refl _),(Nat.zero_le _),(fun j x hj=>absurd hj (Nat.not_lt_zero j))⟩;obtain⟨i,rfl,K,B,hil,hne⟩:=hI;have M:=B.mem;refine Qc 2 K M ?_;intro _ K;refine p1 K (QA Ui rfl rfl (hA.len.trans (congrArg some (Yp _)))) fun _ K=>?_;refine Qc 1 K M ?_;intro _ K;refine JN K rfl (fun h11=>?_) fun h11=>?_
 ·refine Qc 0 K M ?_;intro _ K;refine QF (l:=[(0,0),(1,0),(2,0),(3,0),(4,0),(5,0)]) (by kernel_rfl) ?_;refine Jn 2 K M ?_;intro _ K;obtain⟨pr16,hi16⟩:=U1 l i Qe;obtain⟨x16,m16,f16,q16,_,la16,lo16,lp16⟩:=(Mem.Yx (L:=[(c3,0,[iZ (p.1:Nat),iZ (p.2:Nat)])]) (A:=A) (B:=[]) M hA).load (i:=i) (cs:=_) (WW hi16);refine q1 rfl K (Qa (j:=i) Um (congrArg some q16) rfl (by rw[Yp];omega)) fun _ K=>q1 rfl K (Qd rfl (la16 _ Vs)) fun _ K=>?_;refine Jn 1 K M ?_;intro _ K;refine q1 rfl K (zV (p:=pr16) (q:=p) rfl rfl) fun _ K=>QI ?_;show W _ _ _ _ _ _ _;refine JN K rfl (fun h19=>?_) fun h19=>?_
  ·refine Qc 5 K M ?_;intro _ K;refine Ju ⟨.inr rfl,_,(Jt (Q8 K rfl) (Q8 K rfl) (Q8 K rfl)),?_⟩;replace B:=(B.step M).less (.cons _ (.refl _));obtain⟨F',B'⟩:=Qk.V9 (M:=[]) (A:=A) B hA;exact⟨_,i,true,l,F',rfl,B'.at_ (k:=0) rfl,fun c hc=>⟨(B'.Li (k:=0) rfl c hc).symm,B'.Y1 (k:=0) rfl c hc⟩,B'.JM,.inl ⟨rfl,rfl,by rw[hi16];first|(rw[←h19])|(rw[h19])⟩⟩
  refine Qc 3 K M ?_;intro _ K;exact⟨_,Qe,i+1,rfl,(K.sub rfl),(B.step M).less (.refl _),Qe,(FJ hne hi16 h19)⟩
 refine QU ?_;show W _ _ _ _ _ _ _;refine QC ?_
 have hno:p∉l:=fun hm=>by obtain⟨j,hj⟩:=List.getElem?_of_mem hm;exact hne j p (by have:=(List.getElem?_eq_some_iff.1 hj).1;omega) hj rfl
 refine au 3 K M ?_;intro c24 _ _ K _ M;refine QZ (k2:=0) (L:=[(c24,0,[iZ (p.1:Nat),iZ (p.2:Nat)]),(c3,0,[iZ (p.1:Nat),iZ (p.2:Nat)])]) (A:=A) (B:=[]) K M hA X4 rfl rfl rfl rfl (by rw[Yp];omega) rfl fun ks25 A25 _ _ K hA25 M=>?_;refine Qc 1 K M ?_;intro _ K;refine p1 K (QA Ui rfl rfl (hA.len.trans (congrArg some (Yp _)))) fun _ K=>?_;refine Qc 3 K M ?_;intro _ K;refine Ju ⟨.inr rfl,_,(Jt (Q8 K rfl) (Q8 K rfl) (Q8 K rfl)),?_⟩;replace B:=(B.step M).less (.cons _ (.cons _ (.refl _)));obtain⟨F',B'⟩:=Qk.V9 (M:=[]) (A:=A25) (ls:=KF (l++[p])) B (by rw[Da];exact hA25);exact⟨_,l.length,false,l++[p],F',rfl,B'.at_ (k:=0) rfl,fun c hc=>⟨(B'.Li (k:=0) rfl c hc).symm,B'.Y1 (k:=0) rfl c hc⟩,B'.JM,.inr ⟨rfl,fun hm=>hno hm,rfl,rfl⟩⟩
end Go.Proofs.YtiknomepbklibaaGreatDoor
end
section
namespace Go.Proofs.YtiknomepbklibaaGreatDoor
open Go Go.RowKit
variable {F:Fp} {st:St}

theorem Mem.ao{h0:Hp}{n0:Nat}{X:List Nat}{st':St}{L A:QT}{kl ks:AV}{l l':List Int}(h:Mem h0 n0 X st (L++(A++[])))(hA:Acc n0 1 A kl (zC l))(q:Qt st st')(r:En st st' 1 ks (zC l')∨(ks=kl∧l'=l)): ∃A2,Acc n0 1 A2 ks (zC l')∧Mem h0 n0 X st' (L++(A2++[])):=by
 rcases r with r|⟨rfl,rfl⟩
 ·obtain⟨A2,hA2,M⟩:=h.Yt q r;exact⟨A2,hA2,M.less (by rw[List.append_assoc];exact List.Sublist.append_left (List.sublist_append_right _ _) _)⟩
 ·exact⟨A,hA,h.quiet q⟩
theorem PD{l:List Int}{x y:Int}:JP (l++[x,y])=Xa y (Xa x (JP l)):=by unfold JP;rw[List.foldl_append];rfl
theorem TE: ∀l:List Int,(JP l).length≤l.length:=by
 have h: ∀(l:List Int) (o:List Int),(l.foldl (fun o x=>Xa x o) o).length≤o.length+l.length:=by
  intro l
  induction l with
  |nil=>intro o;simp
  |cons x l ih=>intro o;have:=ih (Xa x o);have:=HB x o;rw[List.foldl_cons,List.length_cons];omega
 intro l;have:=h l []
 simpa [JP]using this
def OT(L:List (List Int))(vs:List AV)(q:List Int)(kq:AV)(L':List (List Int))(vs':List AV)(k:Nat)(was:Bool):Prop:=(was=true∧L'=L∧vs'=vs∧L[k]? =some q)∨(was=false∧q∉L∧L'=L++[q]∧vs'=vs++[kq]∧k=L.length)
section
variable {L L':List (List Int)} {vs vs':List AV} {q:List Int} {kq:AV} {k:Nat} {was:Bool}
theorem OT.len(H:OT L vs q kq L' vs' k was):L.length≤L'.length∧L'.length≤L.length+1∧(was=true→L'.length=L.length)∧(was=false→L'.length=L.length+1):=by
 rcases H with⟨h1,h2,h3,h4⟩|⟨h1,h2,h3,h4,h5⟩
 ·subst h1 h2;exact⟨Nat.le_refl _,by omega,fun _=>rfl,fun h=>by cases h⟩
 ·subst h1 h3;simp
theorem OT.take(H:OT L vs q kq L' vs' k was){n:Nat}(hn:n≤L.length):L'.take n=L.take n:=by
 rcases H with⟨h1,h2,h3,h4⟩|⟨h1,h2,h3,h4,h5⟩
 ·rw[h2]
 ·rw[h3,List.take_append_of_le_length hn]
theorem OT.pr{a:Au}{t K:Nat}{rows:List (List Int)}{row s:List Int}(P:Vo (JK a t) [0] K L rows row)(hr:row.length<K)(hs:L[rows.length]? =some s)(hq:JK a t s row.length=q)(H:OT L vs q kq L' vs' k was):Vo (JK a t) [0] K L' rows (row++[((k:Nat):Int)]):=by
 subst hq;rcases H with⟨h1,h2,h3,h4⟩|⟨h1,h2,h3,h4,h5⟩
 ·rw[h2];exact P.J5 hr hs h4
 ·rw[h3,h5];exact P.new hr hs h2
theorem Qk.wA{st0:St}{X0:Fp}{A:QT}{Os:List Ob}{L0 B0:QT}{n0:Nat}(B:Qk st0 X0 st (L0++(A++B0)) (ED F vs L::Os))(H:OT L vs q kq L' vs' k was)(hA:Acc n0 1 A kq (zC q))(hz:Xp q): ∃F',Qk st0 X0 st (L0++B0) (ED F' vs' L'::Os):=by
 rcases H with⟨h1,h2,h3,h4⟩|⟨h1,h2,h3,h4,h5⟩
 ·subst h2 h3;exact⟨F,B.less (List.Sublist.append_left (List.sublist_append_right _ _) _)⟩
 ·subst h3 h4;exact B.Z7 hA hz
end
def Lw(vs:List AV):List (List AV):=vs.map fun w=>[w]
theorem XY(vs:List AV):(Lw vs).length=vs.length:=by simp[Lw]
theorem KX{vs:List AV}{i:Nat}{w:AV}(h:vs[i]? =some w):(Lw vs)[i]? =some [w]:=by rw[Lw,List.getElem?_map,h];rfl
theorem qs(vs:List AV)(w:AV):Lw (vs++[w])=Lw vs++[[w]]:=by simp[Lw]
theorem YO.rowAt{h:Hp}{vs:List AV}{L:List (List Int)}(H:YO h F vs L){i:Nat}{s:List Int}{w:AV}(hs:L[i]? =some s)(hw:vs[i]? =some w):Jj h [] 1 (zC s) w:=by
 obtain⟨w',h1,h2,_⟩:=H.at_ _ _ hs
 rw[hw]at h1;injection h1 with h1;subst h1;exact h2
theorem Kl(hf:Qj st){c k u:Nat}(hc:c≤64)(hk:k≤6)(hu:u≤1): ∃v st',Ev Tryz.prog Q0 153 [iN c,iN k,iN u] st v st'∧v=iZ (UQ k c u:Nat)∧Qt st st':=by
 have hp6:=JF hk;have hcm:c % 2^k≤c:=Nat.mod_le _ _;have huk:u *2^k≤64:=Nat.le_trans (Nat.mul_le_mul_right _ hu) Qe;have hp0:0<2^k:=Nat.two_pow_pos _;refine JB Tryz.func153 Tryz.ntmps153 fun T K=>?_;have M:=Mem.start hf;refine Qc 3 K M ?_;intro _ K;refine p1 K (YW (c:=((k:Nat):Int)) Ze Yg rfl (IntWalk.u64_in _ Qe)) fun _ K=>p1 K (Yq (n:=k) rfl rfl Qe) fun _ K=>?_;refine Qc 1 K M ?_;intro _ K;refine p1 K (SH (k:=k) (c:=c) rfl rfl Qe Qe) fun _ K=>?_;refine Qc 4 K M ?_;intro _ K;refine p1 K (YW (c:=((k:Nat):Int)) Ze Yg rfl (IntWalk.u64_in _ Qe)) fun _ K=>p1 K (SD (a:=u) (n:=k) rfl rfl Qe Qe) fun _ K=>p1 K (LU (Bo (k:=k) (c:=c) (u:=u) hu) rfl rfl Qe Qe) fun _ K=>?_;refine Qc 3 K M ?_;intro _ K;refine p1 K (ju (k:=k) (c:=c) rfl rfl Qe) fun _ K=>p1 K (LU (zF (k:=k) (c:=c) (u:=u) hu) rfl rfl Qe (vL Qe)) fun _ K=>?_;refine Qc 1 K M ?_;exact⟨rfl,M.qt⟩

theorem Mk(hf:Qj st){a:Au}(wf:Zl a){ka kn:AV}{ls:List (List AV)}(hac:Qu ka=true)(hN:Oi st.h.get a.nx kn ls){q:List Int}{kq:AV}(hq:Jj st.h.get [] 1 (zC q) kq)(hqs: ∀z∈q,0≤z∧z<((a.n:Nat):Int))(hql:q.length≤400){c k:Nat}(hk:k<a.tr)(hc:c<2^(a.tr-1)): ∃v st',Ev Tryz.prog Q0 129 [.agg [iZ (a.tr:Nat),ka,kn],kq,iN c,iN k] st v st'∧ ∃kr,v=kr∧En st st' 1 kr (zC (JK a k q c))∧Qt st st':=by
 have htr:=wf.tr;have hlen:=wf.len;have hmo:=wf.most;have hc64:c≤64:=by have:=JF (T:=a.tr-1) Qe;omega
 have hu0:=Iw hk hc (u:=0) QD;have hu1:=Iw hk hc (u:=1) QD;have hp6:=JF htr;have hnc:=hN.r.cell;have hqc:=hq.cell;refine JB Tryz.func129 Tryz.ntmps129 fun T K=>?_;have M:=Mem.start hf;refine QC<|Qw ?_;refine J1 K M rfl (Qb rfl (Qb hac (Qb hN.r.cell Q6))) QD fun c4 _ _ K M=>?_;refine Qc 3 K M ?_;intro _ K;refine Jd (fun mm1 T st9=> ∃(i:Nat) (ko:AV) (A:U7),mm1=q.length-i∧QX [(1,kq),(2,iN c),(3,iN k),(4,.ptr c4 0 0),(8,.nils),(9,ko),(10,iN i)] T∧Mem st.h.get st.n [] st9 ((c4,0,[iZ (a.tr:Nat),ka,kn])::(A++[]))∧i≤q.length∧Acc st.n 1 A ko (zC (JP (W3 a k c (q.take i))))) (fun mm1 T st9 hI=>?_) _ _ _ ⟨0,.nils,[],rfl,(K.sub rfl),M.less (.refl _),(Nat.zero_le _),(by rw[List.take_zero];exact .none)⟩;obtain⟨i,ko,A,rfl,K,M,hiq,hA⟩:=hI
 have hsl:=TE (W3 a k c (q.take i));have hnl:=I2 a k c (q.take i);have htl:(q.take i).length≤i:=by rw[List.length_take];omega
 refine Qc 2 K M ?_;intro _ K;refine p1 K (QA Jh rfl rfl (hq.len.trans (congrArg some (Ql _)))) fun _ K=>?_;refine Qc 1 K M ?_;intro _ K;refine JN K rfl (fun h14=>?_) fun h14=>?_
 ·refine Qc 0 K M ?_;intro _ K;refine QF (l:=[(9,0),(10,0),(11,0),(0,0),(1,0),(2,1),(3,0),(4,0),(5,0),(6,1),(7,0),(8,1),(12,0),(13,0),(14,0),(15,0),(16,0),(17,0),(18,0)]) (by kernel_rfl) ?_;have Mq:=M;refine Jn 2 K M ?_;intro _ K;obtain⟨v29,st29,ev29,rfl,q29⟩:=Kl M.fresh (c:=c) (k:=k) (u:=0) hc64 Qe QD;refine qA rfl K (Qh rfl ev29) fun _ K=>?_;replace M:=M.quiet q29;have Mp:=Mq;have Mq:=M;refine Jn 2 K M ?_;intro _ K;refine Js rfl K rfl (M.load (k:=0) rfl (Qf Q9 rfl)) (Mp.load (k:=0) rfl (Qf Q9 rfl)) (JQ (Ul hN.len)) rfl QD fun _ K=>?_;refine Jn 2 K M ?_;intro _ K;obtain⟨y23,hi23⟩:=U1 q i Qe;have hb23:=hqs y23 (List.mem_of_getElem? hi23);obtain⟨z23,rfl⟩: ∃m:Nat,y23=((m:Nat):Int):=⟨_,(Int.toNat_of_nonneg hb23.1).symm⟩;obtain⟨x23,m23,f23,q23,_,la23,lo23,lp23,la'23,lo'23,lp'23⟩:=Jj.Nn (Jj.mem M hq Q7) (Jj.mem Mp hq Q7) (i:=i) (cs:=_) (Jo hi23);refine q1 rfl K (Qa (j:=i) Qv (congrArg some q23) rfl (by rw[Ql];omega)) fun _ K=>?_;refine Js rfl K rfl (lo23 _ 0 _ Qr rfl) (lo'23 _ 0 _ Qr rfl) (JQ rfl) rfl QD fun _ K=>?_;obtain⟨s25,hi25⟩:=U1 a.nx z23 Qe;obtain⟨_,hc25,w25,rfl,hr25,hz25⟩:=hN.at_ _ _ hi25;have hw25:=wf.row s25 (List.mem_of_getElem? hi25);have hl25:s25.length=2^a.tr:=hw25.1;obtain⟨x25,m25,f25,q25,_,la25,lo25,lp25,la'25,lo'25,lp'25⟩:=Jj.Nn (Jj.mem M hN.r Q7) (Jj.mem Mp hN.r Q7) (i:=z23) (cs:=_) hc25;refine q1 rfl K (Qa (j:=z23) QY (congrArg some q25) rfl (by rw[hN.ln];omega)) fun _ K=>?_;refine Js rfl K rfl (lo25 _ 0 _ Ja rfl) (lo'25 _ 0 _ Ja rfl) (JQ (Ul (hr25.len.trans (congrArg some (Ql _))))) rfl QD fun _ K=>?_;obtain⟨y30,hi30⟩:=U1 s25 ((UQ k c 0)) Qe;have hb30:=hw25.2 y30 (List.mem_of_getElem? hi30);obtain⟨z30,rfl⟩: ∃m:Nat,y30=((m:Nat):Int):=⟨_,(Int.toNat_of_nonneg hb30.1).symm⟩;obtain⟨x30,m30,f30,q30,_,la30,lo30,lp30⟩:=(Jj.mem M hr25 Q7).load (i:=(UQ k c 0)) (cs:=_) (Jo hi30);refine q1 rfl K (Qa (j:=(UQ k c 0)) Qv (congrArg some q30) rfl (by rw[Ql];omega)) fun _ K=>q1 rfl K (Qd rfl (lo30 _ 0 _ Qr rfl)) fun _ K=>?_;have hi0:=HB ((z30:Nat):Int) (JP (W3 a k c (q.take i)));obtain⟨v32,st32,ev32,ko32,b32,rfl,had32,q32⟩:=Pv M.fresh (Mem.Yx (L:=[(c4,0,[iZ (a.tr:Nat),ka,kn])]) (A:=A) (B:=[]) M hA) hA.SK Qe z30 Qe;refine qA rfl K (Qh rfl ev32) fun _ K=>?_;obtain⟨A32,hA32,M⟩:=Mem.ao (L:=[(c4,0,[iZ (a.tr:Nat),ka,kn])]) (A:=A) M hA q32 had32;simp only[List.append_assoc,List.cons_append,List.nil_append,List.set_cons_zero,List.set_cons_succ]at M;have Mp:=Mq;have Mq:=M;refine Jn 4 K M ?_;intro _ K;refine QI ?_;show W _ _ _ _ _ _ _;refine QF (l:=[(9,0),(10,0),(11,0),(0,0),(1,0),(2,1),(3,0),(4,0),(5,0),(6,1),(7,0),(8,1),(12,0),(13,0),(14,0),(15,0),(16,0),(17,0),(18,0)]) (by kernel_rfl) ?_;have Mq:=M;refine Jn 2 K M ?_;intro _ K;obtain⟨v47,st47,ev47,rfl,q47⟩:=Kl M.fresh (c:=c) (k:=k) (u:=1) hc64 Qe QD;refine qA rfl K (Qh rfl ev47) fun _ K=>?_;replace M:=M.quiet q47;have Mp:=Mq;have Mq:=M;refine Jn 2 K M ?_;intro _ K;refine Js rfl K rfl (M.load (k:=0) rfl (Qf Q9 rfl)) (Mp.load (k:=0) rfl (Qf Q9 rfl)) (JQ (Ul hN.len)) rfl QD fun _ K=>?_;refine Jn 2 K M ?_;intro _ K;obtain⟨x41,m41,f41,q41,_,la41,lo41,lp41,la'41,lo'41,lp'41⟩:=Jj.Nn (Jj.mem M hq Q7) (Jj.mem Mp hq Q7) (i:=i) (cs:=_) (Jo hi23);refine q1 rfl K (Qa (j:=i) Qv (congrArg some q41) rfl (by rw[Ql];omega)) fun _ K=>?_;refine Js rfl K rfl (lo41 _ 0 _ Qr rfl) (lo'41 _ 0 _ Qr rfl) (JQ rfl) rfl QD fun _ K=>?_;obtain⟨s43,hi43⟩:=U1 a.nx z23 Qe;obtain⟨_,hc43,w43,rfl,hr43,hz43⟩:=hN.at_ _ _ hi43;have hw43:=wf.row s43 (List.mem_of_getElem? hi43);have hl43:s43.length=2^a.tr:=hw43.1;obtain⟨x43,m43,f43,q43,_,la43,lo43,lp43,la'43,lo'43,lp'43⟩:=Jj.Nn (Jj.mem M hN.r Q7) (Jj.mem Mp hN.r Q7) (i:=z23) (cs:=_) hc43;refine q1 rfl K (Qa (j:=z23) QY (congrArg some q43) rfl (by rw[hN.ln];omega)) fun _ K=>?_;refine Js rfl K rfl (lo43 _ 0 _ Ja rfl) (lo'43 _ 0 _ Ja rfl) (JQ (Ul (hr43.len.trans (congrArg some (Ql _))))) rfl QD fun _ K=>?_;obtain⟨y48,hi48⟩:=U1 s43 ((UQ k c 1)) Qe;have hb48:=hw43.2 y48 (List.mem_of_getElem? hi48);obtain⟨z48,rfl⟩: ∃m:Nat,y48=((m:Nat):Int):=⟨_,(Int.toNat_of_nonneg hb48.1).symm⟩;obtain⟨x48,m48,f48,q48,_,la48,lo48,lp48⟩:=(Jj.mem M hr43 Q7).load (i:=(UQ k c 1)) (cs:=_) (Jo hi48);refine q1 rfl K (Qa (j:=(UQ k c 1)) Qv (congrArg some q48) rfl (by rw[Ql];omega)) fun _ K=>q1 rfl K (Qd rfl (lo48 _ 0 _ Qr rfl)) fun _ K=>?_;have hi0:=HB ((z48:Nat):Int) (Xa ((z30:Nat):Int) (JP (W3 a k c (q.take i))));obtain⟨v50,st50,ev50,ko50,b50,rfl,had50,q50⟩:=Pv M.fresh (Mem.Yx (L:=[(c4,0,[iZ (a.tr:Nat),ka,kn])]) (A:=A32) (B:=[]) M hA32) hA32.SK Qe z48 Qe;refine qA rfl K (Qh rfl ev50) fun _ K=>?_;obtain⟨A50,hA50,M⟩:=Mem.ao (L:=[(c4,0,[iZ (a.tr:Nat),ka,kn])]) (A:=A32) M hA32 q50 had50;simp only[List.append_assoc,List.cons_append,List.nil_append,List.set_cons_zero,List.set_cons_succ]at M;have Mp:=Mq;have Mq:=M;refine Jn 4 K M ?_;intro _ K;refine QI ?_;show W _ _ _ _ _ _ _;refine Qc 3 K M ?_;intro _ K;exact⟨_,Qe,i+1,ko50,A50,rfl,(K.sub rfl),M.less (.refl _),Qe,(by rw[Nd hi23,PD,Int.toNat_natCast,JG hi25 hi30,JG hi43 hi48];exact hA50)⟩
 refine QU ?_;show W _ _ _ _ _ _ _;refine Qc 2 K M ?_;rw[List.take_of_length_le Qe]at hA;refine⟨_,rfl,?_,M.qt⟩;exact Mem.BC (L:=[(c4,0,[iZ (a.tr:Nat),ka,kn])]) (A:=A) (B:=[]) M hA

theorem Dl(hf:Qj st){Fv:Fp}{kl kq:AV}{vs:List AV}{L:List (List Int)}{q:List Int}(hO:UU st.h.get F 1 kl (Lw vs))(hi: ∀c,F c→c<st.n)(hV:YO st.h.get Fv vs L)(hvn: ∀c,Fv c→c<st.n)(hvd: ∀c,Fv c→ ¬F c)(hl:L.length≤1000)(hq:Jj st.h.get [] 1 (zC q) kq)(hX: ∀c m o n y,kq=.sl c m o n y→ ¬F c): ∃v st',Ev Tryz.prog Q0 128 [kl,kq] st v st'∧ ∃kl' k was L' vs' F',v=.tup [kl',iN k,.bool was]∧UU st'.h.get F' 1 kl' (Lw vs')∧WN st st' F F'∧UO F st st'∧OT L vs q kq L' vs' k was:=by
 have hvl:=hV.ln;have hqc:=hq.cell;have B:=Qk.UI (o:=Wk F 1 kl (Lw vs)) hf hO hi;obtain⟨A,hA,B⟩:=B.B7;refine JB Tryz.func128 Tryz.ntmps128 fun T K=>?_;have M:=B.mem;refine Qc 4 K M ?_;intro _ K;refine Jd (fun mm1 T st9=> ∃(i:Nat),mm1=L.length-i∧QX [(0,kl),(1,kq),(7,iN i)] T∧Qk st (Wk F 1 kl (Lw vs)).F st9 (A++[]) []∧i≤L.length∧(∀(j:Nat) (x:List Int),j<i→L[j]? =some x→x≠q)) (fun mm1 T st9 hI=>?_) _ _ _ ⟨0,rfl,(K.sub rfl),(B.step M).less (.refl _),(Nat.zero_le _),(fun j x hj=>absurd hj (Nat.not_lt_zero j))⟩;obtain⟨i,rfl,K,B,hil,hne⟩:=hI;have M:=B.mem;refine Qc 2 K M ?_;intro _ K;refine p1 K (QA JU rfl rfl (hA.len.trans (congrArg some ((XY _).trans hvl)))) fun _ K=>?_;refine Qc 1 K M ?_;intro _ K;refine JN K rfl (fun h11=>?_) fun h11=>?_
 ·refine Qc 2 K M ?_;intro _ K;obtain⟨s16,hi16⟩:=U1 L i Qe;obtain⟨w16,hv16,hr16,hz16,hf16⟩:=(hV.frame fun c hc=>(B.step M).J5 c (hvn c hc) (hvd c hc)).at_ _ _ hi16;obtain⟨x16,m16,f16,q16,_,la16,lo16,lp16⟩:=(Mem.Yx (L:=[]) (A:=A) (B:=[]) M hA).load (i:=i) (cs:=_) (KX hv16);refine p1 K (Qa (j:=i) QY (congrArg some q16) rfl (by rw[XY];omega)) fun _ K=>p1 K (Qd rfl (lo16 _ 0 _ Ja rfl)) fun _ K=>?_;refine Qc 1 K M ?_;intro _ K;refine oQ K M (CP M.fresh (YO.rowAt (hV.frame fun c hc=>(B.step M).J5 c (hvn c hc) (hvd c hc)) hi16 hv16) ((B.step M).rd hf hq hX)) rfl rfl fun _ _ K M=>?_;refine Up ?_;show W _ _ _ _ _ _ _;refine JN K rfl (fun h19=>?_) fun h19=>?_
  ·refine Qc 5 K M ?_;intro _ K;refine Ju ⟨.inr rfl,_,(Jt (Q8 K rfl) (Q8 K rfl) (Q8 K rfl)),?_⟩;replace B:=(B.step M).less (.refl _);obtain⟨F',B'⟩:=Qk.V9 (M:=[]) (A:=A) B hA;exact⟨_,i,true,L,vs,F',rfl,B'.at_ (k:=0) rfl,fun c hc=>⟨(B'.Li (k:=0) rfl c hc).symm,B'.Y1 (k:=0) rfl c hc⟩,B'.JM,.inl ⟨rfl,rfl,rfl,by rw[hi16,h19]⟩⟩
  refine Qc 3 K M ?_;intro _ K;exact⟨_,Qe,i+1,rfl,(K.sub rfl),(B.step M).less (.refl _),Qe,(FJ hne hi16 h19)⟩
 refine QU ?_;show W _ _ _ _ _ _ _;refine QC ?_
 have hno:q∉L:=fun hm=>by obtain⟨j,hj⟩:=List.getElem?_of_mem hm;exact hne j q (by have:=(List.getElem?_eq_some_iff.1 hj).1;omega) hj rfl
 refine Qc 2 K M ?_;intro _ K;refine Xy K M QS Ut rfl ((J8 rfl hqc rfl).trans rfl) (Qb hqc Q6) rfl rfl fun c24 _ _ K M=>?_;refine QZ (k2:=0) (L:=[(c24,0,[kq])]) (A:=A) (B:=[]) K M hA QS rfl rfl rfl rfl (by rw[XY];omega) rfl fun ks25 A25 _ _ K hA25 M=>?_;refine Qc 1 K M ?_;intro _ K;refine p1 K (QA JU rfl rfl (hA.len.trans (congrArg some ((XY _).trans hvl)))) fun _ K=>?_;refine Qc 3 K M ?_;intro _ K;refine Ju ⟨.inr rfl,_,(Jt (Q8 K rfl) (Q8 K rfl) (Q8 K rfl)),?_⟩;replace B:=(B.step M).less (.cons _ (.refl _));obtain⟨F',B'⟩:=Qk.V9 (M:=[]) (A:=A25) (ls:=Lw (vs++[kq])) B (by rw[qs];exact hA25);exact⟨_,L.length,false,L++[q],_,F',rfl,B'.at_ (k:=0) rfl,fun c hc=>⟨(B'.Li (k:=0) rfl c hc).symm,B'.Y1 (k:=0) rfl c hc⟩,B'.JM,.inr ⟨rfl,fun hm=>hno hm,rfl,rfl,rfl⟩⟩
end Go.Proofs.YtiknomepbklibaaGreatDoor
end
