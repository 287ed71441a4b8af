/-
  The reference's automata: may one be, are two one, where does a word lead to.
-/
import Derived.Test.YtiknomepbklibaaGreatDoorQhPrJ
set_option maxHeartbeats 8000000
set_option maxRecDepth 100000
set_option linter.unnecessarySimpa false
set_option linter.unusedSimpArgs false
set_option linter.unusedVariables false
namespace Go.Proofs.YtiknomepbklibaaGreatDoor
section
open Go Go.RowKit

theorem at_mem{α:Type}{Q:α→Prop}{l:List α}{i:Nat}(hi:l.length≤i)(h: ∀(j:Nat) (x:α),j<i→l[j]? =some x→Q x): ∀x∈l,Q x:=fun x hx=>by
 obtain⟨j,hj,rfl⟩:=List.mem_iff_getElem.1 hx;exact h j _ Qc (List.getElem?_eq_getElem hj)
theorem E5{α:Type}{Q:α→Prop}{l:List α}{i:Nat}{x:α}(h: ∀(j:Nat) (x:α),j<i→l[j]? =some x→Q x)(hi:l[i]? =some x)(hx:Q x): ∀(j:Nat) (x:α),j<i+1→l[j]? =some x→Q x:=fun j y hj hy=>by
 rcases Nat.lt_succ_iff_lt_or_eq.1 hj with h1|h1
 ·exact h j y h1 hy
 ·subst h1;rw[hi]at hy
  injection hy with hy
  exact hy▸hx
end
section
open Go Go.RowKit

theorem x8{k c u:Nat}(hu:u≤1):(c % 2^k+u *2^k)|||c/2^k *2^(k+1)=Vl k c u:=by rw[←B8 hu,jK hu]
theorem wI{c k:Nat}(h:c≤64):c/2^k *2^(k+1)≤9223372036854775807:=by
 have h1:c/2^k *2^k≤c:=Nat.div_mul_le_self c (2^k);rw[Nat.pow_succ,←Nat.mul_assoc];omega

end
section
open Go Go.RowKit
variable {st:St}

theorem Qk.add{st0:St}{X0:Fp}{M:QS}{Os:List Ob}{o:Ob}(B:Qk st0 X0 st M Os)(h:o.H st.h.get)(hi: ∀c,o.F c→c<st.n∧st0.n≤c)(hd: ∀p∈Os,∀c,o.F c→ ¬p.F c)(hM: ∀c m l,(c,m,l)∈M→ ¬o.F c):Qk st0 X0 st M (o::Os):=by
 refine⟨B.fresh,B.le,B.row,B.nodup,B.lo,fun p hp=>?_,fun p hp c hc=>?_,List.pairwise_cons.2 ⟨hd,B.dj⟩,fun p hp c m l hm=>?_,B.JB⟩
 ·rcases List.mem_cons.1 hp with rfl|hp
  ·exact h
  ·exact B.obj p hp
 ·rcases List.mem_cons.1 hp with rfl|hp
  ·exact⟨(hi c hc).1,.inl (hi c hc).2⟩
  ·exact B.hi p hp c hc
 ·rcases List.mem_cons.1 hp with rfl|hp
  ·exact hM c m l hm
  ·exact B.djM p hp c m l hm
theorem Qk.Zr{st0 st':St}{X0:Fp}{M:QS}{Os:List Ob}{o om om':Ob}{k:Nat}(B0:Qk st0 X0 st M Os)(hk:Os[k]? =some om)(hF:om'.F=om.F)(B:Qk st0 X0 st' M (Os.set k om'))(h:o.H st'.h.get)(hn:ZQ st st' o.F):Qk st0 X0 st' M (o::Os.set k om'):=by
 refine B.add h (fun c hc=>⟨(hn c hc).2,Nat.le_trans B0.le (hn c hc).1⟩) (fun p hp c hc hpc=>?_) (fun c m l hm hc=>?_)
 ·have h1:=(hn c hc).1;rcases List.mem_or_eq_of_mem_set hp with hp|rfl
  ·have:=(B0.hi p hp c hpc).1;omega
  ·rw[hF]at hpc;have:=B0.Y4 hk c hpc;omega
 ·have h1:=(hn c hc).1;have:=(B0.row c m l hm).lt B0.fresh;omega
theorem aH{w:List Int}{K:Nat}(h: ∀c∈w,0≤c∧c<((K:Nat):Int)): ∃wn,w=zN wn∧VO K wn:=by
 refine⟨w.map Int.toNat,?_,fun c hc=>?_⟩
 ·unfold zN;rw[List.map_map];refine(List.map_id w).symm.trans (List.map_congr_left fun c hc=>?_);exact(Int.toNat_of_nonneg (h c hc).1).symm
 ·obtain⟨z,hz,rfl⟩:=List.mem_map.1 hc;have:=h z hz;omega
theorem UD{st':St}{F:Fp}(h: ∀c,F c→c<st'.n):Ef st st' F F:=fun c hc=>⟨.inl hc,h c hc⟩

end
section
open Go Go.RowKit
variable {a:Au} {l:List (Nat×Nat)} {st:St}

def KS(l:List (Nat×Nat)):List (List AV):=l.map fun p=>[.int .i64 (p.1:Nat),.int .i64 (p.2:Nat)]
theorem YN(l:List (Nat×Nat)):(KS l).length=l.length:=by simp[KS]
theorem El{i:Nat}{p:Nat×Nat}(h:l[i]? =some p):(KS l)[i]? =some [.int .i64 (p.1:Nat),.int .i64 (p.2:Nat)]:=by rw[KS,List.getElem?_map,h];rfl
theorem Dv(l:List (Nat×Nat))(p:Nat×Nat):KS (l++[p])=KS l++[[.int .i64 (p.1:Nat),.int .i64 (p.2:Nat)]]:=by simp[KS]
theorem Sb(a b x y:Int):Y2 Tryz.prog 77 [.int .i64 a,.int .i64 b] [.int .i64 x,.int .i64 y]=Qj (Hb a x) (Qj (Hb b y) (some true) (some false)) (some false):=by kernel_rfl
theorem xN{G:Env}{K:List (Nat×AV)}{x y:Operand}{yt:TypeId}{p q:Nat×Nat}(hx:QV G K x=some (.agg [.int .i64 (p.1:Nat),.int .i64 (p.2:Nat)]))(hy:QV G K y=some (.agg [.int .i64 (q.1:Nat),.int .i64 (q.2:Nat)])):U3 Tryz.prog G K (.binOp .eql 77 x y yt) st (.bool (decide (p=q))) st:=
 UP hx hy (by
  show ob (Y2 Tryz.prog 77 _ _) (fun r=>some (AV.bool r))=_;rw[Sb,Yy,Yy]
  have e:p=q↔((p.1:Nat):Int)=((q.1:Nat):Int)∧((p.2:Nat):Int)=((q.2:Nat):Int):=by
   rw[Prod.ext_iff];omega
  by_cases h1:((p.1:Nat):Int)=((q.1:Nat):Int)<;>by_cases h2:((p.2:Nat):Int)=((q.2:Nat):Int)<;>simp[e,h1,h2,Qz,Qu,Ql])
def KL(l:List (Nat×Nat))(p:Nat×Nat)(l':List (Nat×Nat))(k:Nat)(was:Bool):Prop:=(was=true∧l'=l∧l[k]? =some p)∨(was=false∧p∉l∧l'=l++[p]∧k=l.length)
theorem KL.len{p:Nat×Nat}{l':List (Nat×Nat)}{k:Nat}{was:Bool}(H:KL l p l' k was):l.length≤l'.length∧l'.length≤l.length+1∧(was=true→l'.length=l.length)∧(was=false→l'.length=l.length+1):=by
 rcases H with⟨h1,h2,h3⟩|⟨h1,h2,h3,h4⟩
 ·subst h1 h2;exact⟨Nat.le_refl _,by omega,fun _=>rfl,fun h=>by cases h⟩
 ·subst h1 h3;simp
theorem KL.take{l:List (Nat×Nat)}{p:Nat×Nat}{l':List (Nat×Nat)}{k:Nat}{was:Bool}(H:KL l p l' k was){n:Nat}(hn:n≤l.length):l'.take n=l.take n:=by
 rcases H with⟨h1,h2,h3⟩|⟨h1,h2,h3,h4⟩
 ·rw[h2]
 ·rw[h3,List.take_append_of_le_length hn]
theorem KL.pr{b:Au}{K:Nat}{l':List (Nat×Nat)}{rows:List (List Int)}{row:List Int}(P:Vw (O4 a b) (0,0) K l rows row)(hr:row.length<K){p:Nat×Nat}(hp:l[rows.length]? =some p){q:Nat×Nat}(hq:O4 a b p row.length=q){k:Nat}{was:Bool}(H:KL l q l' k was):Vw (O4 a b) (0,0) K l' rows (row++[((k:Nat):Int)]):=by
 subst hq;rcases H with⟨h1,h2,h3⟩|⟨h1,h2,h3,h4⟩
 ·rw[h2];exact P.JB hr hp h3
 ·rw[h3,h4];exact P.new hr hp h2
theorem Vw.jV{b:Au}(Wa:Zs a)(Wb:Zs b)(ht:b.tr=a.tr){rows:List (List Int)}{row:List Int}(P:Vw (O4 a b) (0,0) (2^a.tr) l rows row): ∀p∈l,p.1<a.n∧p.2<b.n:=fun p hp=>
 P.all (Q:=fun p=>p.1<a.n∧p.2<b.n) ⟨Wa.pos,Wb.pos⟩ (fun s c h hc=>⟨Wa.UR h.1 hc,Wb.UR h.2 (by show c<2^b.tr;rw[ht];exact hc)⟩) (Nat.two_pow_pos _) hp
theorem Qk.CL{st0:St}{X0:Fp}{M A:QS}{Os:List Ob}{om:Ob}{F:Fp}{ka kn:AV}{vs:List AV}(B:Qk st0 X0 st (M++(A++[])) (BY F kn vs a.nx::om::Os))(hX: ∀c,X0 c→om.F c)(hA:Acc 0 1 A ka (bC a.acc)):AK st0 st a (.agg [.int .i64 (a.tr:Nat),ka,kn]):=by
 have hn:=B.nodup;rw[List.append_nil,List.map_append]at hn;refine⟨ka,kn,vs,A,F,rfl,hA,B.at_ (k:=0) rfl,fun c hc=>⟨(B.Lx (k:=0) rfl c hc).resolve_right fun h=>(List.pairwise_cons.1 B.dj).1 om Q7 c hc (hX c h),B.Y4 (k:=0) rfl c hc⟩,(List.nodup_append.1 hn).2.1,fun c m l hm=>⟨B.row c m l (by simp[hm]),(B.lo c m l (by simp[hm])).resolve_right fun h=>B.djM om Q7 c m l (by simp[hm]) (hX c h),B.djM _ (List.mem_cons_self ..) c m l (by simp[hm])⟩⟩
theorem M3(hf:Qi st){F:Fp}{kl:AV}(hO:Ya st.h.get F 2 kl (KS l))(hi: ∀c,F c→c<st.n)(hl:l.length≤1000)(p:Nat×Nat): ∃v st',Jh 45 [kl,.agg [iZ (p.1:Nat),iZ (p.2:Nat)]] st v st'∧ ∃kl' k was l' F',v=.tup [kl',iN k,.bool was]∧Ya st'.h.get F' 2 kl' (KS l')∧Ef st st' F F'∧US F st st'∧KL l p l' k was:=by
 have B:=Qk.UN (o:=Wz F 2 kl (KS l)) hf hO hi;obtain⟨A,hA,B⟩:=B.BK;refine JA Tryz.func45 Tryz.ntmps45 fun T K=>?_;have M:=B.mem;refine au 5 K M ?_;intro c3 _ _ K _ M;refine QY (fun mm1 T st9=> ∃(i:Nat),mm1=l.length-i∧QT [(0,kl),(3,.ptr c3 0 0),(7,iN i)] T∧Qk st (Wz F 2 kl (KS l)).F st9 ((c3,0,[iZ (p.1:Nat),iZ (p.2:Nat)])::(A++[])) []∧i≤l.length∧(∀(j:Nat) (x:Nat×Nat),j<i→l[j]? =some x→x≠p)) (fun mm1 T st9 hI=>?_) _ _ _ ⟨0,rfl,(K.sub rfl),(B.step M).less (.refl _),(Nat.zero_le _),(fun j x hj=>absurd hj (Nat.not_lt_zero j))⟩;obtain⟨i,rfl,K,B,hil,hne⟩:=hI;have M:=B.mem;refine Qb 2 K M fun _ K=>?_;refine p1 K (Q5 Ul rfl rfl (hA.len.trans (congrArg some (YN _)))) fun _ K=>?_;refine Qb 1 K M fun _ K=>?_;refine Jy K rfl (fun h11=>?_) fun h11=>?_
 ·refine Qb 0 K M fun _ K=>?_;refine QC (l:=[(0,0),(1,0),(2,0),(3,0),(4,0),(5,0)]) (by kernel_rfl) ?_;refine Jo 2 K M fun _ K=>?_;obtain⟨pr16,hi16⟩:=Uw l i Qc;refine iB rfl rfl (Mem.Y6 (L:=[(c3,0,[iZ (p.1:Nat),iZ (p.2:Nat)])]) (A:=A) (B:=[]) M hA) (El hi16) K Up Vz rfl rfl fun _ _ _ _ K=>?_;refine Jo 1 K M fun _ K=>?_;refine q1 rfl K (xN (p:=pr16) (q:=p) rfl rfl) fun _ K=>QF ?_;show W _ _ _ _ _ _ _;refine Jy K rfl (fun h19=>?_) fun h19=>?_
  ·refine Qb 5 K M fun _ K=>?_;refine Jw ⟨.inr rfl,_,(Jv (Q6 K rfl) (Q6 K rfl) (Q6 K rfl)),?_⟩;replace B:=(B.step M).less (.cons _ (.refl _));obtain⟨F',B'⟩:=Qk.VJ (M:=[]) (A:=A) B hA;exact⟨_,i,true,l,F',rfl,B'.at_ (k:=0) rfl,fun c hc=>⟨(B'.Lx (k:=0) rfl c hc).symm,B'.Y4 (k:=0) rfl c hc⟩,B'.JN,.inl ⟨rfl,rfl,by rw[hi16];first|(rw[←h19])|(rw[h19])⟩⟩
  refine Qb 3 K M fun _ K=>?_;exact⟨_,Qc,i+1,rfl,(K.sub rfl),(B.step M).less (.refl _),Qc,(E5 hne hi16 h19)⟩
 refine QM ?_;show W _ _ _ _ _ _ _;refine Jz ?_
 have hno:p∉l:=fun hm=>by obtain⟨j,hj⟩:=List.getElem?_of_mem hm;exact hne j p (by have:=(List.getElem?_eq_some_iff.1 hj).1;omega) hj rfl
 refine au 3 K M ?_;intro c24 _ _ K _ M;refine Jf (k2:=0) (L:=[(c24,0,[iZ (p.1:Nat),iZ (p.2:Nat)]),(c3,0,[iZ (p.1:Nat),iZ (p.2:Nat)])]) (A:=A) (B:=[]) K M hA XA rfl rfl rfl rfl (by rw[YN];omega) rfl fun ks25 A25 _ _ K hA25 M=>?_;refine Qb 1 K M fun _ K=>?_;refine p1 K (Q5 Ul rfl rfl (hA.len.trans (congrArg some (YN _)))) fun _ K=>?_;refine Qb 3 K M fun _ K=>?_;refine Jw ⟨.inr rfl,_,(Jv (Q6 K rfl) (Q6 K rfl) (Q6 K rfl)),?_⟩;replace B:=(B.step M).less (.cons _ (.cons _ (.refl _)));obtain⟨F',B'⟩:=Qk.VJ (M:=[]) (A:=A25) (ls:=KS (l++[p])) B (by rw[Dv];exact hA25);exact⟨_,l.length,false,l++[p],F',rfl,B'.at_ (k:=0) rfl,fun c hc=>⟨(B'.Lx (k:=0) rfl c hc).symm,B'.Y4 (k:=0) rfl c hc⟩,B'.JN,.inr ⟨rfl,fun hm=>hno hm,rfl,rfl⟩⟩
end
section
open Go Go.RowKit
variable {F:Fp} {st:St}

theorem Mem.fq{h0:Hp}{n0:Nat}{X:List Nat}{st':St}{L A:QS}{kl ks:AV}{l l':List Int}(h:Mem h0 n0 X st (L++(A++[])))(hA:Acc n0 1 A kl (zC l))(q:Qt st st')(r:EA st st' 1 ks (zC l')∨(ks=kl∧l'=l)): ∃A2,Acc n0 1 A2 ks (zC l')∧Mem h0 n0 X st' (L++(A2++[])):=by
 rcases r with r|⟨rfl,rfl⟩
 ·obtain⟨A2,hA2,M⟩:=h.Yz q r;exact⟨A2,hA2,M.less (by rw[List.append_assoc];exact List.Sublist.append_left (List.sublist_append_right _ _) _)⟩
 ·exact⟨A,hA,h.quiet q⟩
theorem PX{l:List Int}{x y:Int}:JP (l++[x,y])=Xj y (Xj x (JP l)):=by unfold JP;rw[List.foldl_append];rfl
theorem Mj: ∀l:List Int,(JP l).length≤l.length:=by
 have h: ∀(l:List Int) (o:List Int),(l.foldl (fun o x=>Xj x o) o).length≤o.length+l.length:=by
  intro l
  induction l with
  |nil=>intro o;simp
  |cons x l ih=>intro o;have:=ih (Xj x o);have:=HX x o;rw[List.foldl_cons,List.length_cons];omega
 intro l;have:=h l []
 simpa [JP]using this
def Gi(L:List (List Int))(vs:List AV)(q:List Int)(kq:AV)(L':List (List Int))(vs':List AV)(k:Nat)(was:Bool):Prop:=(was=true∧L'=L∧vs'=vs∧L[k]? =some q)∨(was=false∧q∉L∧L'=L++[q]∧vs'=vs++[kq]∧k=L.length)
section
variable {L L':List (List Int)} {vs vs':List AV} {q:List Int} {kq:AV} {k:Nat} {was:Bool}
theorem Gi.len(H:Gi L vs q kq L' vs' k was):L.length≤L'.length∧L'.length≤L.length+1∧(was=true→L'.length=L.length)∧(was=false→L'.length=L.length+1):=by
 rcases H with⟨h1,h2,h3,h4⟩|⟨h1,h2,h3,h4,h5⟩
 ·subst h1 h2;exact⟨Nat.le_refl _,by omega,fun _=>rfl,fun h=>by cases h⟩
 ·subst h1 h3;simp
theorem Gi.take(H:Gi L vs q kq L' vs' k was){n:Nat}(hn:n≤L.length):L'.take n=L.take n:=by
 rcases H with⟨h1,h2,h3,h4⟩|⟨h1,h2,h3,h4,h5⟩
 ·rw[h2]
 ·rw[h3,List.take_append_of_le_length hn]
theorem Gi.pr{a:Au}{t K:Nat}{rows:List (List Int)}{row s:List Int}(P:Vw (Uv a t) [0] K L rows row)(hr:row.length<K)(hs:L[rows.length]? =some s)(hq:Uv a t s row.length=q)(H:Gi L vs q kq L' vs' k was):Vw (Uv a t) [0] K L' rows (row++[((k:Nat):Int)]):=by
 subst hq;rcases H with⟨h1,h2,h3,h4⟩|⟨h1,h2,h3,h4,h5⟩
 ·rw[h2];exact P.JB hr hs h4
 ·rw[h3,h5];exact P.new hr hs h2
theorem Qk.eC{st0:St}{X0:Fp}{A:QS}{Os:List Ob}{L0 B0:QS}{n0:Nat}(B:Qk st0 X0 st (L0++(A++B0)) (ES F vs L::Os))(H:Gi L vs q kq L' vs' k was)(hA:Acc n0 1 A kq (zC q))(hz:Xx q): ∃F',Qk st0 X0 st (L0++B0) (ES F' vs' L'::Os):=by
 rcases H with⟨h1,h2,h3,h4⟩|⟨h1,h2,h3,h4,h5⟩
 ·subst h2 h3;exact⟨F,B.less (List.Sublist.append_left (List.sublist_append_right _ _) _)⟩
 ·subst h3 h4;exact B.ZD hA hz
end
def LJ(vs:List AV):List (List AV):=vs.map fun w=>[w]
theorem AP(vs:List AV):(LJ vs).length=vs.length:=by simp[LJ]
theorem Lj{vs:List AV}{i:Nat}{w:AV}(h:vs[i]? =some w):(LJ vs)[i]? =some [w]:=by rw[LJ,List.getElem?_map,h];rfl
theorem jf(vs:List AV)(w:AV):LJ (vs++[w])=LJ vs++[[w]]:=by simp[LJ]
theorem Zl.rowAt{h:Hp}{vs:List AV}{L:List (List Int)}(H:Zl h F vs L){i:Nat}{s:List Int}{w:AV}(hs:L[i]? =some s)(hw:vs[i]? =some w):Jj h [] 1 (zC s) w:=by
 obtain⟨w',h1,h2,_⟩:=H.at_ _ _ hs
 rw[hw]at h1;injection h1 with h1;subst h1;exact h2
theorem Kz(hf:Qi st){c k u:Nat}(hc:c≤64)(hk:k≤6)(hu:u≤1): ∃v st',Jh 153 [iN c,iN k,iN u] st v st'∧v=iZ (Vl k c u:Nat)∧Qt st st':=by
 have hp6:=J9 hk;have hcm:c % 2^k≤c:=Nat.mod_le _ _;have huk:u *2^k≤64:=Nat.le_trans (Nat.mul_le_mul_right _ hu) Qc;have hp0:0<2^k:=Nat.two_pow_pos _;refine JA Tryz.func153 Tryz.ntmps153 fun T K=>?_;have M:=Mem.start hf;refine Qb 3 K M fun _ K=>?_;refine p1 K (U9 (c:=((k:Nat):Int)) UT U1 rfl (IntWalk.u64_in _ Qc)) fun _ K=>p1 K (UU (n:=k) rfl rfl Qc) fun _ K=>?_;refine Qb 1 K M fun _ K=>?_;refine p1 K (Tq (k:=k) (c:=c) rfl rfl Qc Qc) fun _ K=>?_;refine Qb 4 K M fun _ K=>?_;refine p1 K (U9 (c:=((k:Nat):Int)) UT U1 rfl (IntWalk.u64_in _ Qc)) fun _ K=>p1 K (Ls (a:=u) (n:=k) rfl rfl Qc Qc) fun _ K=>p1 K (Ns (B8 (k:=k) (c:=c) (u:=u) hu) rfl rfl Qc Qc) fun _ K=>?_;refine Qb 3 K M fun _ K=>?_;refine p1 K (ug (k:=k) (c:=c) rfl rfl Qc) fun _ K=>p1 K (Ns (x8 (k:=k) (c:=c) (u:=u) hu) rfl rfl Qc (wI Qc)) fun _ K=>?_;refine Qb 1 K M ?_;exact⟨rfl,M.qt⟩

theorem MM(hf:Qi st){a:Au}(wf:Zs a){ka kn:AV}{ls:List (List AV)}(hac:Qs ka=true)(hN:O6 st.h.get a.nx kn ls){q:List Int}{kq:AV}(hq:Jj st.h.get [] 1 (zC q) kq)(hqs: ∀z∈q,0≤z∧z<((a.n:Nat):Int))(hql:q.length≤400){c k:Nat}(hk:k<a.tr)(hc:c<2^(a.tr-1)): ∃v st',Jh 129 [.agg [iZ (a.tr:Nat),ka,kn],kq,iN c,iN k] st v st'∧ ∃kr,v=kr∧EA st st' 1 kr (zC (Uv a k q c))∧Qt st st':=by
 have htr:=wf.tr;have hlen:=wf.len;have hmo:=wf.most;have hc64:c≤64:=by have:=J9 (T:=a.tr-1) Qc;omega
 have hu0:=Nh hk hc (u:=0) Q9;have hu1:=Nh hk hc (u:=1) Q9;have hp6:=J9 htr;have hnc:=hN.r.cell;have hqc:=hq.cell;refine JA Tryz.func129 Tryz.ntmps129 fun T K=>?_;have M:=Mem.start hf;refine Qb 0 K M fun _ K=>?_;refine Ju K M rfl (Qa rfl (Qa hac (Qa hN.r.cell Q4))) Q9 fun c4 _ _ K M=>?_;refine Qb 3 K M fun _ K=>?_;refine QY (fun mm1 T st9=> ∃(i:Nat) (ko:AV) (A:UA),mm1=q.length-i∧QT [(1,kq),(2,iN c),(3,iN k),(4,.ptr c4 0 0),(8,.nils),(9,ko),(10,iN i)] T∧Mem st.h.get st.n [] st9 ((c4,0,[iZ (a.tr:Nat),ka,kn])::(A++[]))∧i≤q.length∧Acc st.n 1 A ko (zC (JP (WK a k c (q.take i))))) (fun mm1 T st9 hI=>?_) _ _ _ ⟨0,.nils,[],rfl,(K.sub rfl),M.less (.refl _),(Nat.zero_le _),(by rw[List.take_zero];exact .none)⟩;obtain⟨i,ko,A,rfl,K,M,hiq,hA⟩:=hI
 have hsl:=Mj (WK a k c (q.take i));have hnl:=II a k c (q.take i);have htl:(q.take i).length≤i:=by rw[List.length_take];omega
 refine Qb 2 K M fun _ K=>?_;refine p1 K (Q5 Ja rfl rfl (hq.len.trans (congrArg some (Qq _)))) fun _ K=>?_;refine Qb 1 K M fun _ K=>?_;refine Jy K rfl (fun h14=>?_) fun h14=>?_
 ·refine Qb 0 K M fun _ K=>?_;refine QC (l:=[(9,0),(10,0),(11,0),(0,0),(1,0),(2,1),(3,0),(4,0),(5,0),(6,1),(7,0),(8,1),(12,0),(13,0),(14,0),(15,0),(16,0),(17,0),(18,0)]) (by kernel_rfl) ?_;have Mq:=M;refine Jo 2 K M fun _ K=>?_;obtain⟨v29,st29,ev29,rfl,q29⟩:=Kz M.fresh (c:=c) (k:=k) (u:=0) hc64 Qc Q9;refine qA rfl K (Qg rfl ev29) fun _ K=>?_;replace M:=M.quiet q29;have Mp:=Mq;have Mq:=M;refine Jo 2 K M fun _ K=>?_;refine Jt rfl K rfl (M.load (k:=0) rfl (Qd Q8 rfl)) (Mp.load (k:=0) rfl (Qd Q8 rfl)) (JQ (Uo hN.len)) rfl Q9 fun _ K=>?_;refine Jo 2 K M fun _ K=>?_;obtain⟨y23,hi23⟩:=Uw q i Qc;have hb23:=hqs y23 (List.mem_of_getElem? hi23);obtain⟨z23,rfl⟩: ∃m:Nat,y23=((m:Nat):Int):=⟨_,(Int.toNat_of_nonneg hb23.1).symm⟩;obtain⟨x23,m23,f23,q23,_,la23,lo23,lp23,la'23,lo'23,lp'23⟩:=Jj.N9 (Jj.mem M hq Q7) (Jj.mem Mp hq Q7) (i:=i) (cs:=_) (Jm hi23);refine q1 rfl K (Qe (j:=i) Qo (congrArg some q23) rfl (by rw[Qq];omega)) fun _ K=>?_;refine Jt rfl K rfl (lo23 _ 0 _ Qn rfl) (lo'23 _ 0 _ Qn rfl) (JQ rfl) rfl Q9 fun _ K=>?_;obtain⟨s25,hi25⟩:=Uw a.nx z23 Qc;obtain⟨_,hc25,w25,rfl,hr25,hz25⟩:=hN.at_ _ _ hi25;have hw25:=wf.row s25 (List.mem_of_getElem? hi25);have hl25:s25.length=2^a.tr:=hw25.1;obtain⟨x25,m25,f25,q25,_,la25,lo25,lp25,la'25,lo'25,lp'25⟩:=Jj.N9 (Jj.mem M hN.r Q7) (Jj.mem Mp hN.r Q7) (i:=z23) (cs:=_) hc25;refine q1 rfl K (Qe (j:=z23) QZ (congrArg some q25) rfl (by rw[hN.ln];omega)) fun _ K=>?_;refine Jt rfl K rfl (lo25 _ 0 _ Jb rfl) (lo'25 _ 0 _ Jb rfl) (JQ (Uo (hr25.len.trans (congrArg some (Qq _))))) rfl Q9 fun _ K=>?_;obtain⟨y30,hi30⟩:=Uw s25 ((Vl k c 0)) Qc;have hb30:=hw25.2 y30 (List.mem_of_getElem? hi30);obtain⟨z30,rfl⟩: ∃m:Nat,y30=((m:Nat):Int):=⟨_,(Int.toNat_of_nonneg hb30.1).symm⟩;refine dI rfl rfl (Jj.mem M hr25 Q7) (Jm hi30) K Qo Qn rfl rfl rfl fun _ _ _ _ K=>?_;have hi0:=HX ((z30:Nat):Int) (JP (WK a k c (q.take i)));obtain⟨v32,st32,ev32,ko32,b32,rfl,had32,q32⟩:=PD M.fresh (Mem.Y6 (L:=[(c4,0,[iZ (a.tr:Nat),ka,kn])]) (A:=A) (B:=[]) M hA) hA.Tv Qc z30 Qc;refine qA rfl K (Qg rfl ev32) fun _ K=>?_;obtain⟨A32,hA32,M⟩:=Mem.fq (L:=[(c4,0,[iZ (a.tr:Nat),ka,kn])]) (A:=A) M hA q32 had32;simp only[X3]at M;have Mp:=Mq;have Mq:=M;refine Jo 4 K M fun _ K=>?_;refine QF ?_;show W _ _ _ _ _ _ _;refine QC (l:=[(9,0),(10,0),(11,0),(0,0),(1,0),(2,1),(3,0),(4,0),(5,0),(6,1),(7,0),(8,1),(12,0),(13,0),(14,0),(15,0),(16,0),(17,0),(18,0)]) (by kernel_rfl) ?_;have Mq:=M;refine Jo 2 K M fun _ K=>?_;obtain⟨v47,st47,ev47,rfl,q47⟩:=Kz M.fresh (c:=c) (k:=k) (u:=1) hc64 Qc Q9;refine qA rfl K (Qg rfl ev47) fun _ K=>?_;replace M:=M.quiet q47;have Mp:=Mq;have Mq:=M;refine Jo 2 K M fun _ K=>?_;refine Jt rfl K rfl (M.load (k:=0) rfl (Qd Q8 rfl)) (Mp.load (k:=0) rfl (Qd Q8 rfl)) (JQ (Uo hN.len)) rfl Q9 fun _ K=>?_;refine Jo 2 K M fun _ K=>?_;obtain⟨x41,m41,f41,q41,_,la41,lo41,lp41,la'41,lo'41,lp'41⟩:=Jj.N9 (Jj.mem M hq Q7) (Jj.mem Mp hq Q7) (i:=i) (cs:=_) (Jm hi23);refine q1 rfl K (Qe (j:=i) Qo (congrArg some q41) rfl (by rw[Qq];omega)) fun _ K=>?_;refine Jt rfl K rfl (lo41 _ 0 _ Qn rfl) (lo'41 _ 0 _ Qn rfl) (JQ rfl) rfl Q9 fun _ K=>?_;obtain⟨s43,hi43⟩:=Uw a.nx z23 Qc;obtain⟨_,hc43,w43,rfl,hr43,hz43⟩:=hN.at_ _ _ hi43;have hw43:=wf.row s43 (List.mem_of_getElem? hi43);have hl43:s43.length=2^a.tr:=hw43.1;obtain⟨x43,m43,f43,q43,_,la43,lo43,lp43,la'43,lo'43,lp'43⟩:=Jj.N9 (Jj.mem M hN.r Q7) (Jj.mem Mp hN.r Q7) (i:=z23) (cs:=_) hc43;refine q1 rfl K (Qe (j:=z23) QZ (congrArg some q43) rfl (by rw[hN.ln];omega)) fun _ K=>?_;refine Jt rfl K rfl (lo43 _ 0 _ Jb rfl) (lo'43 _ 0 _ Jb rfl) (JQ (Uo (hr43.len.trans (congrArg some (Qq _))))) rfl Q9 fun _ K=>?_;obtain⟨y48,hi48⟩:=Uw s43 ((Vl k c 1)) Qc;have hb48:=hw43.2 y48 (List.mem_of_getElem? hi48);obtain⟨z48,rfl⟩: ∃m:Nat,y48=((m:Nat):Int):=⟨_,(Int.toNat_of_nonneg hb48.1).symm⟩;refine dI rfl rfl (Jj.mem M hr43 Q7) (Jm hi48) K Qo Qn rfl rfl rfl fun _ _ _ _ K=>?_;have hi0:=HX ((z48:Nat):Int) (Xj ((z30:Nat):Int) (JP (WK a k c (q.take i))));obtain⟨v50,st50,ev50,ko50,b50,rfl,had50,q50⟩:=PD M.fresh (Mem.Y6 (L:=[(c4,0,[iZ (a.tr:Nat),ka,kn])]) (A:=A32) (B:=[]) M hA32) hA32.Tv Qc z48 Qc;refine qA rfl K (Qg rfl ev50) fun _ K=>?_;obtain⟨A50,hA50,M⟩:=Mem.fq (L:=[(c4,0,[iZ (a.tr:Nat),ka,kn])]) (A:=A32) M hA32 q50 had50;simp only[X3]at M;have Mp:=Mq;have Mq:=M;refine Jo 4 K M fun _ K=>?_;refine QF ?_;show W _ _ _ _ _ _ _;refine Qb 3 K M fun _ K=>?_;exact⟨_,Qc,i+1,ko50,A50,rfl,(K.sub rfl),M.less (.refl _),Qc,(by rw[N1 hi23,PX,Int.toNat_natCast,JI hi25 hi30,JI hi43 hi48];exact hA50)⟩
 refine QM ?_;show W _ _ _ _ _ _ _;refine Qb 2 K M ?_;rw[List.take_of_length_le Qc]at hA;refine⟨_,rfl,?_,M.qt⟩;exact Mem.BO (L:=[(c4,0,[iZ (a.tr:Nat),ka,kn])]) (A:=A) (B:=[]) M hA

theorem D4(hf:Qi st){Fv:Fp}{kl kq:AV}{vs:List AV}{L:List (List Int)}{q:List Int}(hO:Ya st.h.get F 1 kl (LJ vs))(hi: ∀c,F c→c<st.n)(hV:Zl st.h.get Fv vs L)(hvn: ∀c,Fv c→c<st.n)(hvd: ∀c,Fv c→ ¬F c)(hl:L.length≤1000)(hq:Jj st.h.get [] 1 (zC q) kq)(hX: ∀c m o n y,kq=.sl c m o n y→ ¬F c): ∃v st',Jh 128 [kl,kq] st v st'∧ ∃kl' k was L' vs' F',v=.tup [kl',iN k,.bool was]∧Ya st'.h.get F' 1 kl' (LJ vs')∧Ef st st' F F'∧US F st st'∧Gi L vs q kq L' vs' k was:=by
 have hvl:=hV.ln;have hqc:=hq.cell;have B:=Qk.UN (o:=Wz F 1 kl (LJ vs)) hf hO hi;obtain⟨A,hA,B⟩:=B.BK;refine JA Tryz.func128 Tryz.ntmps128 fun T K=>?_;have M:=B.mem;refine Qb 4 K M fun _ K=>?_;refine QY (fun mm1 T st9=> ∃(i:Nat),mm1=L.length-i∧QT [(0,kl),(1,kq),(7,iN i)] T∧Qk st (Wz F 1 kl (LJ vs)).F st9 (A++[]) []∧i≤L.length∧(∀(j:Nat) (x:List Int),j<i→L[j]? =some x→x≠q)) (fun mm1 T st9 hI=>?_) _ _ _ ⟨0,rfl,(K.sub rfl),(B.step M).less (.refl _),(Nat.zero_le _),(fun j x hj=>absurd hj (Nat.not_lt_zero j))⟩;obtain⟨i,rfl,K,B,hil,hne⟩:=hI;have M:=B.mem;refine Qb 2 K M fun _ K=>?_;refine p1 K (Q5 JT rfl rfl (hA.len.trans (congrArg some ((AP _).trans hvl)))) fun _ K=>?_;refine Qb 1 K M fun _ K=>?_;refine Jy K rfl (fun h11=>?_) fun h11=>?_
 ·refine Qb 2 K M fun _ K=>?_;obtain⟨s16,hi16⟩:=Uw L i Qc;obtain⟨w16,hv16,hr16,hz16,hf16⟩:=(hV.frame fun c hc=>(B.step M).JB c (hvn c hc) (hvd c hc)).at_ _ _ hi16;refine oI (Mem.Y6 (L:=[]) (A:=A) (B:=[]) M hA) (Lj hv16) K QZ Jb rfl rfl rfl fun _ _ _ _ K=>?_;refine Qb 1 K M fun _ K=>?_;refine oQ K M (Dh M.fresh (Zl.rowAt (hV.frame fun c hc=>(B.step M).JB c (hvn c hc) (hvd c hc)) hi16 hv16) ((B.step M).rd hf hq hX)) rfl rfl fun _ _ K M=>?_;refine Qb 0 K M fun _ K=>?_;refine Jy K rfl (fun h19=>?_) fun h19=>?_
  ·refine Qb 5 K M fun _ K=>?_;refine Jw ⟨.inr rfl,_,(Jv (Q6 K rfl) (Q6 K rfl) (Q6 K rfl)),?_⟩;replace B:=(B.step M).less (.refl _);obtain⟨F',B'⟩:=Qk.VJ (M:=[]) (A:=A) B hA;exact⟨_,i,true,L,vs,F',rfl,B'.at_ (k:=0) rfl,fun c hc=>⟨(B'.Lx (k:=0) rfl c hc).symm,B'.Y4 (k:=0) rfl c hc⟩,B'.JN,.inl ⟨rfl,rfl,rfl,by rw[hi16,h19]⟩⟩
  refine Qb 3 K M fun _ K=>?_;exact⟨_,Qc,i+1,rfl,(K.sub rfl),(B.step M).less (.refl _),Qc,(E5 hne hi16 h19)⟩
 refine QM ?_;show W _ _ _ _ _ _ _;refine Jz ?_
 have hno:q∉L:=fun hm=>by obtain⟨j,hj⟩:=List.getElem?_of_mem hm;exact hne j q (by have:=(List.getElem?_eq_some_iff.1 hj).1;omega) hj rfl
 refine Qb 2 K M fun _ K=>?_;refine X5 K M QQ Uu rfl ((JD rfl hqc rfl).trans rfl) (Qa hqc Q4) rfl rfl fun c24 _ _ K M=>?_;refine Jf (k2:=0) (L:=[(c24,0,[kq])]) (A:=A) (B:=[]) K M hA QQ rfl rfl rfl rfl (by rw[AP];omega) rfl fun ks25 A25 _ _ K hA25 M=>?_;refine Qb 1 K M fun _ K=>?_;refine p1 K (Q5 JT rfl rfl (hA.len.trans (congrArg some ((AP _).trans hvl)))) fun _ K=>?_;refine Qb 3 K M fun _ K=>?_;refine Jw ⟨.inr rfl,_,(Jv (Q6 K rfl) (Q6 K rfl) (Q6 K rfl)),?_⟩;replace B:=(B.step M).less (.cons _ (.refl _));obtain⟨F',B'⟩:=Qk.VJ (M:=[]) (A:=A25) (ls:=LJ (vs++[kq])) B (by rw[jf];exact hA25);exact⟨_,L.length,false,L++[q],_,F',rfl,B'.at_ (k:=0) rfl,fun c hc=>⟨(B'.Lx (k:=0) rfl c hc).symm,B'.Y4 (k:=0) rfl c hc⟩,B'.JN,.inr ⟨rfl,fun hm=>hno hm,rfl,rfl,rfl⟩⟩
end
end Go.Proofs.YtiknomepbklibaaGreatDoor
