/-
  The reference's automata: may one be, are two one, where does a word lead to.
-/
import Derived.Test.YtiknomepbklibaaGreatDoorFzPrJ
set_option maxHeartbeats 8000000
set_option maxRecDepth 100000
set_option linter.unnecessarySimpa false
set_option linter.unusedSimpArgs false
set_option linter.unusedVariables false
section
namespace Go.Proofs.YtiknomepbklibaaGreatDoor
open Go Go.RowKit

theorem FE{α:Type}{Q:α→Prop}{l:List α}{i:Nat}{x:α}(h: ∀(j:Nat) (x:α),j<i→l[j]? =some x→Q x)(hi:l[i]? =some x)(hx:Q x): ∀(j:Nat) (x:α),j<i+1→l[j]? =some x→Q x:=fun j y hj hy=>by
 rcases Nat.lt_succ_iff_lt_or_eq.1 hj with h1|h1
 ·exact h j y h1 hy
 ·subst h1;rw[hi]at hy
  injection hy with hy
  exact hy▸hx
theorem P9{st:St}(hf:Qj st){t:Int}{acc:List Bool}{nx:List (List Int)}{ka kn ka2 kn2:AV}{ls ls2:List (List AV)}(hA:Ji st.h.get [] 1 (bC acc) ka)(hN:Lb st.h.get nx kn ls)(hA2:Ji st.h.get [] 1 (bC acc) ka2)(hN2:Lb st.h.get nx kn2 ls2): ∃v st',Ev Tryz.prog Q4 21 [.agg [iZ t,ka,kn],.agg [iZ t,ka2,kn2]] st v st'∧v=.bool true∧Qt st st':=by
 have hac:=hA.cell;have hnc:=hN.r.cell;have hac2:=hA2.cell;have hnc2:=hN2.r.cell
 have hbnacc:(acc.length:Int)≤9223372036854775807:=by have:=hA.Ew;rw[Jw]at this;exact this
 have hbn:(nx.length:Int)≤9223372036854775807:=by have:=hN.r.Ew;rw[hN.ln]at this;exact this
 refine JF Tryz.func21 Tryz.ntmps21 fun T K=>?_;have M:=Mem.start hf;refine QC<|Qv ?_;refine Jt K M rfl (Qb rfl (Qb hA.cell (Qb hN.r.cell Q7))) QE fun c2 _ _ K M=>?_;refine Jt K M rfl (Qb rfl (Qb hA2.cell (Qb hN2.r.cell Q7))) QE fun c3 _ _ K M=>?_;refine Qc 6 K M ?_;intro _ K;refine oB K (Qg rfl) rfl fun b12 _ e12 K=>?_;cases b12
 ·replace e12:(t=t):=by simpa using e12
  refine Qc 2 K M ?_;intro _ K;refine pg K rfl rfl (Q8 Ur rfl rfl (hA.len.trans (congrArg some (Jw _)))) fun _ K=>?_;refine Qc 2 K M ?_;intro _ K;refine pg K rfl rfl (Q8 Ur rfl rfl (hA2.len.trans (congrArg some (Jw _)))) fun _ K=>?_;refine Qc 2 K M ?_;intro _ K;refine oB K (Qg rfl) rfl fun b21 _ e21 K=>?_;cases b21
  ·replace e21:(((acc.length:Nat):Int)=((acc.length:Nat):Int)):=by simpa using e21
   refine Qc 1 K M ?_;intro _ K;refine pg K rfl rfl (Qd rfl (M.load (k:=1) rfl (Qf Q5 rfl))) fun _ K=>pg K rfl rfl (Q8 J4 rfl rfl hN.len) fun _ K=>?_;refine Qc 1 K M ?_;intro _ K;refine pg K rfl rfl (Qd rfl (M.load (k:=0) rfl (Qf Q5 rfl))) fun _ K=>pg K rfl rfl (Q8 J4 rfl rfl hN2.len) fun _ K=>?_;refine Qc 2 K M ?_;intro _ K;refine xP K rfl (fun h29=>?_) fun h29=>?_
   ·exact absurd rfl h29
   refine Qc 1 K M ?_;intro _ K;refine Jc (fun mm1 T st9=> ∃(i:Nat),mm1=acc.length-i∧QY [(2,.ptr c2 0 0),(3,.ptr c3 0 0),(5,iN i)] T∧Mem st.h.get st.n [] st9 [(c3,0,[iZ t,ka2,kn2]),(c2,0,[iZ t,ka,kn])]∧i≤acc.length) (fun mm1 T st9 hI=>?_) _ _ _ ⟨0,rfl,(K.sub rfl),M.less (.refl _),(Nat.zero_le _)⟩;obtain⟨i,rfl,K,M,hi⟩:=hI;refine Qc 3 K M ?_;intro _ K;refine p1 K (Q8 Ur rfl rfl (hA.len.trans (congrArg some (Jw _)))) fun _ K=>?_;refine Qc 1 K M ?_;intro _ K;refine JP K rfl (fun h34=>?_) fun h34=>?_
   ·refine Qc 0 K M ?_;intro _ K;refine QD (l:=[(0,0),(1,0),(2,0),(3,0),(4,0),(5,0),(6,0),(7,0),(8,0),(9,0),(10,0)]) (by kernel_rfl) ?_;refine Jf 3 K M ?_;intro _ K;obtain⟨y40,hi40⟩:=U8 acc i Qe;obtain⟨x40,m40,f40,q40,_,la40,lo40,lp40⟩:=(Ji.mem M hA QA).load (i:=i) (cs:=_) (VA hi40);refine q1 rfl K (Qa (j:=i) Jv (congrArg some q40) rfl (by rw[Jw];omega)) fun _ K=>q1 rfl K (Qd rfl (lo40 _ 0 _ Jy rfl)) fun _ K=>?_;refine Jf 3 K M ?_;intro _ K;obtain⟨x45,m45,f45,q45,_,la45,lo45,lp45⟩:=(Ji.mem M hA2 QA).load (i:=i) (cs:=_) (VA hi40);refine q1 rfl K (Qa (j:=i) Jv (congrArg some q45) rfl (by rw[Jw];omega)) fun _ K=>q1 rfl K (Qd rfl (lo45 _ 0 _ Jy rfl)) fun _ K=>q1 rfl K (qU Ym rfl rfl) fun _ K=>QG ?_;show W _ _ _ _ _ _ _;refine Qq (K.QI rfl) (fun h47=>?_) (fun h47=>?_)
    ·have hb47:=h47
     replace h47:(y40==y40)=false:=by simpa using h47
     (revert h47;cases y40<;>simp)
    have hb47:=h47
    replace h47:(y40==y40)=true:=by simpa using h47
    refine Qc 3 K M ?_;intro _ K;exact⟨_,Qe,i+1,rfl,(K.sub rfl),M.less (.refl _),Qe⟩
   refine QT ?_;show W _ _ _ _ _ _ _;refine Qc 1 K M ?_;intro _ K;refine Jc (fun mm2 T st9=> ∃(i:Nat),mm2=nx.length-i∧QY [(2,.ptr c2 0 0),(3,.ptr c3 0 0),(6,iN i)] T∧Mem st.h.get st.n [] st9 [(c3,0,[iZ t,ka2,kn2]),(c2,0,[iZ t,ka,kn])]∧i≤nx.length) (fun mm2 T st9 hI=>?_) _ _ _ ⟨0,rfl,(K.sub rfl),M.less (.refl _),(Nat.zero_le _)⟩;obtain⟨i,rfl,K,M,hi⟩:=hI;refine Qc 2 K M ?_;intro _ K;refine p1 K (Qd rfl (M.load (k:=1) rfl (Qf Q5 rfl))) fun _ K=>p1 K (Q8 J4 rfl rfl hN.len) fun _ K=>?_;refine Qc 1 K M ?_;intro _ K;refine JP K rfl (fun h52=>?_) fun h52=>?_
   ·refine Qc 0 K M ?_;intro _ K;refine QD (l:=[(0,0),(1,0),(2,0),(3,0),(4,0),(5,0),(6,0),(7,0),(8,0),(9,0),(10,0),(11,0)]) (by kernel_rfl) ?_;refine Jf 1 K M ?_;intro _ K;refine q1 rfl K (Qd rfl (M.load (k:=1) rfl (Qf Q5 rfl))) fun _ K=>q1 rfl K (Qg rfl) fun _ K=>?_;obtain⟨s58,hi58⟩:=U8 nx i Qe;obtain⟨_,hc58,w58,rfl,hr58,hz58⟩:=hN.at_ _ _ hi58;obtain⟨x58,m58,f58,q58,_,la58,lo58,lp58⟩:=(Ji.mem M hN.r QA).load (i:=i) (cs:=_) hc58;refine q1 rfl K (Qa (j:=i) QV (congrArg some q58) rfl (by rw[hN.ln];omega)) fun _ K=>q1 rfl K (Qd rfl (lo58 _ 0 _ QZ rfl)) fun _ K=>?_;refine Jf 1 K M ?_;intro _ K;refine q1 rfl K (Qd rfl (M.load (k:=0) rfl (Qf Q5 rfl))) fun _ K=>q1 rfl K (Qg rfl) fun _ K=>?_;obtain⟨_,hc63,w63,rfl,hr63,hz63⟩:=hN2.at_ _ _ hi58;obtain⟨x63,m63,f63,q63,_,la63,lo63,lp63⟩:=(Ji.mem M hN2.r QA).load (i:=i) (cs:=_) hc63;refine q1 rfl K (Qa (j:=i) QV (congrArg some q63) rfl (by rw[hN2.ln];omega)) fun _ K=>q1 rfl K (Qd rfl (lo63 _ 0 _ QZ rfl)) fun _ K=>?_;obtain⟨v65,st65,ev65,rfl,q65⟩:=Lw M.fresh (Ji.mem M hr58 QA) (Ji.mem M hr63 QA);refine qA rfl K (Qh rfl ev65) fun _ K=>?_;replace M:=M.quiet q65;refine q1 rfl K (Ih rfl) fun _ K=>QG ?_;show W _ _ _ _ _ _ _;refine xP K rfl (fun h66=>?_) fun h66=>?_
    ·simp at h66
    refine Qc 3 K M ?_;intro _ K;exact⟨_,Qe,i+1,rfl,(K.sub rfl),M.less (.refl _),Qe⟩
   refine QT ?_;show W _ _ _ _ _ _ _;refine Qc 1 K M ?_;exact⟨rfl,M.qt⟩
  replace e21: ¬(((acc.length:Nat):Int)=((acc.length:Nat):Int)):=by simpa using e21
  exact absurd rfl e21
 replace e12: ¬(t=t):=by simpa using e12
 exact absurd rfl e12

end Go.Proofs.YtiknomepbklibaaGreatDoor
end
section
namespace Go.Proofs.YtiknomepbklibaaGreatDoor
open Go Go.RowKit

theorem yY{k c u:Nat}(hu:u≤1):(c % 2^k+u *2^k)|||c/2^k *2^(k+1)=Zn k c u:=by rw[←GP hu,qD hu]
theorem xZ{c k:Nat}(h:c≤64):c/2^k *2^(k+1)≤9223372036854775807:=by
 have h1:c/2^k *2^k≤c:=Nat.div_mul_le_self c (2^k);rw[Nat.pow_succ,←Nat.mul_assoc];omega

end Go.Proofs.YtiknomepbklibaaGreatDoor
end
section
namespace Go.Proofs.YtiknomepbklibaaGreatDoor
open Go Go.RowKit
variable {st:St}

theorem Qk.add{st0:St}{X0:Fp}{M:QU}{Os:List Ob}{o:Ob}(B:Qk st0 X0 st M Os)(h:o.H st.h.get)(hi: ∀c,o.F c→c<st.n∧st0.n≤c)(hd: ∀p∈Os,∀c,o.F c→ ¬p.F c)(hM: ∀c m l,(c,m,l)∈M→ ¬o.F c):Qk st0 X0 st M (o::Os):=by
 refine⟨B.fresh,B.le,B.row,B.nodup,B.lo,fun p hp=>?_,fun p hp c hc=>?_,List.pairwise_cons.2 ⟨hd,B.dj⟩,fun p hp c m l hm=>?_,B.J6⟩
 ·rcases List.mem_cons.1 hp with rfl|hp
  ·exact h
  ·exact B.obj p hp
 ·rcases List.mem_cons.1 hp with rfl|hp
  ·exact⟨(hi c hc).1,.inl (hi c hc).2⟩
  ·exact B.hi p hp c hc
 ·rcases List.mem_cons.1 hp with rfl|hp
  ·exact hM c m l hm
  ·exact B.djM p hp c m l hm
theorem Qk.Za{st0 st':St}{X0:Fp}{M:QU}{Os:List Ob}{o om om':Ob}{k:Nat}(B0:Qk st0 X0 st M Os)(hk:Os[k]? =some om)(hF:om'.F=om.F)(B:Qk st0 X0 st' M (Os.set k om'))(h:o.H st'.h.get)(hn:ZJ st st' o.F):Qk st0 X0 st' M (o::Os.set k om'):=by
 refine B.add h (fun c hc=>⟨(hn c hc).2,Nat.le_trans B0.le (hn c hc).1⟩) (fun p hp c hc hpc=>?_) (fun c m l hm hc=>?_)
 ·have h1:=(hn c hc).1;rcases List.mem_or_eq_of_mem_set hp with hp|rfl
  ·have:=(B0.hi p hp c hpc).1;omega
  ·rw[hF]at hpc;have:=B0.Yu hk c hpc;omega
 ·have h1:=(hn c hc).1;have:=(B0.row c m l hm).lt B0.fresh;omega
theorem U1{st':St}{F:Fp}(h: ∀c,F c→c<st'.n):WK st st' F F:=fun c hc=>⟨.inl hc,h c hc⟩

end Go.Proofs.YtiknomepbklibaaGreatDoor
end
section
namespace Go.Proofs.YtiknomepbklibaaGreatDoor
open Go Go.RowKit
variable {a:Au} {l:List (Nat×Nat)} {st:St}

def Kp(l:List (Nat×Nat)):List (List AV):=l.map fun p=>[.int .i64 (p.1:Nat),.int .i64 (p.2:Nat)]
theorem Yo(l:List (Nat×Nat)):(Kp l).length=l.length:=by simp[Kp]
theorem WT{i:Nat}{p:Nat×Nat}(h:l[i]? =some p):(Kp l)[i]? =some [.int .i64 (p.1:Nat),.int .i64 (p.2:Nat)]:=by rw[Kp,List.getElem?_map,h];rfl
theorem CH(l:List (Nat×Nat))(p:Nat×Nat):Kp (l++[p])=Kp l++[[.int .i64 (p.1:Nat),.int .i64 (p.2:Nat)]]:=by simp[Kp]
theorem Ro(a b x y:Int):Yw Tryz.prog 77 [.int .i64 a,.int .i64 b] [.int .i64 x,.int .i64 y]=Qo (F9 a x) (Qo (F9 b y) (some true) (some false)) (some false):=by kernel_rfl
theorem zp{G:Env}{K:List (Nat×AV)}{x y:Operand}{yt:TypeId}{p q:Nat×Nat}(hx:QX G K x=some (.agg [.int .i64 (p.1:Nat),.int .i64 (p.2:Nat)]))(hy:QX G K y=some (.agg [.int .i64 (q.1:Nat),.int .i64 (q.2:Nat)])):U3 Tryz.prog G K (.binOp .eql 77 x y yt) st (.bool (decide (p=q))) st:=
 UO hx hy (by
  show ob (Yw Tryz.prog 77 _ _) (fun r=>some (AV.bool r))=_;rw[Ro,Yr,Yr]
  have e:p=q↔((p.1:Nat):Int)=((q.1:Nat):Int)∧((p.2:Nat):Int)=((q.2:Nat):Int):=by
   rw[Prod.ext_iff];omega
  by_cases h1:((p.1:Nat):Int)=((q.1:Nat):Int)<;>by_cases h2:((p.2:Nat):Int)=((q.2:Nat):Int)<;>simp[e,h1,h2,Q6,Qx,Ql])
def Kg(l:List (Nat×Nat))(p:Nat×Nat)(l':List (Nat×Nat))(k:Nat)(was:Bool):Prop:=(was=true∧l'=l∧l[k]? =some p)∨(was=false∧p∉l∧l'=l++[p]∧k=l.length)
theorem Kg.len{p:Nat×Nat}{l':List (Nat×Nat)}{k:Nat}{was:Bool}(H:Kg l p l' k was):l.length≤l'.length∧l'.length≤l.length+1∧(was=true→l'.length=l.length)∧(was=false→l'.length=l.length+1):=by
 rcases H with⟨h1,h2,h3⟩|⟨h1,h2,h3,h4⟩
 ·subst h1 h2;exact⟨Nat.le_refl _,by omega,fun _=>rfl,fun h=>by cases h⟩
 ·subst h1 h3;simp
theorem Kg.take{l:List (Nat×Nat)}{p:Nat×Nat}{l':List (Nat×Nat)}{k:Nat}{was:Bool}(H:Kg l p l' k was){n:Nat}(hn:n≤l.length):l'.take n=l.take n:=by
 rcases H with⟨h1,h2,h3⟩|⟨h1,h2,h3,h4⟩
 ·rw[h2]
 ·rw[h3,List.take_append_of_le_length hn]
theorem Kg.pr{b:Au}{K:Nat}{l':List (Nat×Nat)}{rows:List (List Int)}{row:List Int}(P:Vm (NO a b) (0,0) K l rows row)(hr:row.length<K){p:Nat×Nat}(hp:l[rows.length]? =some p){q:Nat×Nat}(hq:NO a b p row.length=q){k:Nat}{was:Bool}(H:Kg l q l' k was):Vm (NO a b) (0,0) K l' rows (row++[((k:Nat):Int)]):=by
 subst hq;rcases H with⟨h1,h2,h3⟩|⟨h1,h2,h3,h4⟩
 ·rw[h2];exact P.J6 hr hp h3
 ·rw[h3,h4];exact P.new hr hp h2
theorem Vm.qO{b:Au}(Wa:Zr a)(Wb:Zr b)(ht:b.tr=a.tr){rows:List (List Int)}{row:List Int}(P:Vm (NO a b) (0,0) (2^a.tr) l rows row): ∀p∈l,p.1<a.n∧p.2<b.n:=fun p hp=>
 P.all (Q:=fun p=>p.1<a.n∧p.2<b.n) ⟨Wa.pos,Wb.pos⟩ (fun s c h hc=>⟨Wa.UT h.1 hc,Wb.UT h.2 (by show c<2^b.tr;rw[ht];exact hc)⟩) (Nat.two_pow_pos _) hp
theorem Qk.Cj{st0:St}{X0:Fp}{M A:QU}{Os:List Ob}{om:Ob}{F:Fp}{ka kn:AV}{vs:List AV}(B:Qk st0 X0 st (M++(A++[])) (Bu F kn vs a.nx::om::Os))(hX: ∀c,X0 c→om.F c)(hA:Acc 0 1 A ka (bC a.acc)):Av st0 st a (.agg [.int .i64 (a.tr:Nat),ka,kn]):=by
 have hn:=B.nodup;rw[List.append_nil,List.map_append]at hn;refine⟨ka,kn,vs,A,F,rfl,hA,B.at_ (k:=0) rfl,fun c hc=>⟨(B.KT (k:=0) rfl c hc).resolve_right fun h=>(List.pairwise_cons.1 B.dj).1 om QA c hc (hX c h),B.Yu (k:=0) rfl c hc⟩,(List.nodup_append.1 hn).2.1,fun c m l hm=>⟨B.row c m l (by simp[hm]),(B.lo c m l (by simp[hm])).resolve_right fun h=>B.djM om QA c m l (by simp[hm]) (hX c h),B.djM _ (List.mem_cons_self ..) c m l (by simp[hm])⟩⟩
theorem T7(hf:Qj st){F:Fp}{kl:AV}(hO:UW st.h.get F 2 kl (Kp l))(hi: ∀c,F c→c<st.n)(hl:l.length≤1000)(p:Nat×Nat): ∃v st',Ev Tryz.prog Q4 45 [kl,.agg [iZ (p.1:Nat),iZ (p.2:Nat)]] st v st'∧ ∃kl' k was l' F',v=.tup [kl',iN k,.bool was]∧UW st'.h.get F' 2 kl' (Kp l')∧WK st st' F F'∧UH F st st'∧Kg l p l' k was:=by
 have B:=Qk.UM (o:=Wj F 2 kl (Kp l)) hf hO hi;obtain⟨A,hA,B⟩:=B.Bd;refine JF Tryz.func45 Tryz.ntmps45 fun T K=>?_;have M:=B.mem;refine au 5 K M ?_;intro c3 _ _ K _ M;refine Jc (fun mm1 T st9=> ∃(i:Nat),mm1=l.length-i∧QY [(0,kl),(3,.ptr c3 0 0),(7,iN i)] T∧Qk st (Wj F 2 kl (Kp l)).F st9 ((c3,0,[iZ (p.1:Nat),iZ (p.2:Nat)])::(A++[])) []∧i≤l.length∧(∀(j:Nat) (x:Nat×Nat),j<i→l[j]? =some x→x≠p)) (fun mm1 T st9 hI=>?_) _ _ _ ⟨0,rfl,(K.sub rfl),(B.step M).less (.refl _),(Nat.zero_le _),(fun j x hj=>absurd hj (Nat.not_lt_zero j))⟩;obtain⟨i,rfl,K,B,hil,hne⟩:=hI;have M:=B.mem;refine Qc 2 K M ?_;intro _ K;refine p1 K (Q8 Ug rfl rfl (hA.len.trans (congrArg some (Yo _)))) fun _ K=>?_;refine Qc 1 K M ?_;intro _ K;refine JP K rfl (fun h11=>?_) fun h11=>?_
 ·refine Qc 0 K M ?_;intro _ K;refine QD (l:=[(0,0),(1,0),(2,0),(3,0),(4,0),(5,0)]) (by kernel_rfl) ?_;refine Jf 2 K M ?_;intro _ K;obtain⟨pr16,hi16⟩:=U8 l i Qe;obtain⟨x16,m16,f16,q16,_,la16,lo16,lp16⟩:=(Mem.Yx (L:=[(c3,0,[iZ (p.1:Nat),iZ (p.2:Nat)])]) (A:=A) (B:=[]) M hA).load (i:=i) (cs:=_) (WT hi16);refine q1 rfl K (Qa (j:=i) Ui (congrArg some q16) rfl (by rw[Yo];omega)) fun _ K=>q1 rfl K (Qd rfl (la16 _ Vq)) fun _ K=>?_;refine Jf 1 K M ?_;intro _ K;refine q1 rfl K (zp (p:=pr16) (q:=p) rfl rfl) fun _ K=>QG ?_;show W _ _ _ _ _ _ _;refine JP K rfl (fun h19=>?_) fun h19=>?_
  ·refine Qc 5 K M ?_;intro _ K;refine Jx ⟨.inr rfl,_,(Ju (Q9 K rfl) (Q9 K rfl) (Q9 K rfl)),?_⟩;replace B:=(B.step M).less (.cons _ (.refl _));obtain⟨F',B'⟩:=Qk.V9 (M:=[]) (A:=A) B hA;exact⟨_,i,true,l,F',rfl,B'.at_ (k:=0) rfl,fun c hc=>⟨(B'.KT (k:=0) rfl c hc).symm,B'.Yu (k:=0) rfl c hc⟩,B'.JM,.inl ⟨rfl,rfl,by rw[hi16];first|(rw[←h19])|(rw[h19])⟩⟩
  refine Qc 3 K M ?_;intro _ K;exact⟨_,Qe,i+1,rfl,(K.sub rfl),(B.step M).less (.refl _),Qe,(FE hne hi16 h19)⟩
 refine QT ?_;show W _ _ _ _ _ _ _;refine QC ?_
 have hno:p∉l:=fun hm=>by obtain⟨j,hj⟩:=List.getElem?_of_mem hm;exact hne j p (by have:=(List.getElem?_eq_some_iff.1 hj).1;omega) hj rfl
 refine au 3 K M ?_;intro c24 _ _ K _ M;refine Je (k2:=0) (L:=[(c24,0,[iZ (p.1:Nat),iZ (p.2:Nat)]),(c3,0,[iZ (p.1:Nat),iZ (p.2:Nat)])]) (A:=A) (B:=[]) K M hA X3 rfl rfl rfl rfl (by rw[Yo];omega) rfl fun ks25 A25 _ _ K hA25 M=>?_;refine Qc 1 K M ?_;intro _ K;refine p1 K (Q8 Ug rfl rfl (hA.len.trans (congrArg some (Yo _)))) fun _ K=>?_;refine Qc 3 K M ?_;intro _ K;refine Jx ⟨.inr rfl,_,(Ju (Q9 K rfl) (Q9 K rfl) (Q9 K rfl)),?_⟩;replace B:=(B.step M).less (.cons _ (.cons _ (.refl _)));obtain⟨F',B'⟩:=Qk.V9 (M:=[]) (A:=A25) (ls:=Kp (l++[p])) B (by rw[CH];exact hA25);exact⟨_,l.length,false,l++[p],F',rfl,B'.at_ (k:=0) rfl,fun c hc=>⟨(B'.KT (k:=0) rfl c hc).symm,B'.Yu (k:=0) rfl c hc⟩,B'.JM,.inr ⟨rfl,fun hm=>hno hm,rfl,rfl⟩⟩
end Go.Proofs.YtiknomepbklibaaGreatDoor
end
section
namespace Go.Proofs.YtiknomepbklibaaGreatDoor
open Go Go.RowKit
variable {F:Fp} {st:St}

theorem Mem.en{h0:Hp}{n0:Nat}{X:List Nat}{st':St}{L A:QU}{kl ks:AV}{l l':List Int}(h:Mem h0 n0 X st (L++(A++[])))(hA:Acc n0 1 A kl (zC l))(q:Qt st st')(r:Em st st' 1 ks (zC l')∨(ks=kl∧l'=l)): ∃A2,Acc n0 1 A2 ks (zC l')∧Mem h0 n0 X st' (L++(A2++[])):=by
 rcases r with r|⟨rfl,rfl⟩
 ·obtain⟨A2,hA2,M⟩:=h.Ys q r;exact⟨A2,hA2,M.less (by rw[List.append_assoc];exact List.Sublist.append_left (List.sublist_append_right _ _) _)⟩
 ·exact⟨A,hA,h.quiet q⟩
theorem Ps{l:List Int}{x y:Int}:JQ (l++[x,y])=ZY y (ZY x (JQ l)):=by unfold JQ;rw[List.foldl_append];rfl
theorem Tp: ∀l:List Int,(JQ l).length≤l.length:=by
 have h: ∀(l:List Int) (o:List Int),(l.foldl (fun o x=>ZY x o) o).length≤o.length+l.length:=by
  intro l
  induction l with
  |nil=>intro o;simp
  |cons x l ih=>intro o;have:=ih (ZY x o);have:=H4 x o;rw[List.foldl_cons,List.length_cons];omega
 intro l;have:=h l []
 simpa [JQ]using this
def O9(L:List (List Int))(vs:List AV)(q:List Int)(kq:AV)(L':List (List Int))(vs':List AV)(k:Nat)(was:Bool):Prop:=(was=true∧L'=L∧vs'=vs∧L[k]? =some q)∨(was=false∧q∉L∧L'=L++[q]∧vs'=vs++[kq]∧k=L.length)
section
variable {L L':List (List Int)} {vs vs':List AV} {q:List Int} {kq:AV} {k:Nat} {was:Bool}
theorem O9.len(H:O9 L vs q kq L' vs' k was):L.length≤L'.length∧L'.length≤L.length+1∧(was=true→L'.length=L.length)∧(was=false→L'.length=L.length+1):=by
 rcases H with⟨h1,h2,h3,h4⟩|⟨h1,h2,h3,h4,h5⟩
 ·subst h1 h2;exact⟨Nat.le_refl _,by omega,fun _=>rfl,fun h=>by cases h⟩
 ·subst h1 h3;simp
theorem O9.take(H:O9 L vs q kq L' vs' k was){n:Nat}(hn:n≤L.length):L'.take n=L.take n:=by
 rcases H with⟨h1,h2,h3,h4⟩|⟨h1,h2,h3,h4,h5⟩
 ·rw[h2]
 ·rw[h3,List.take_append_of_le_length hn]
theorem O9.pr{a:Au}{t K:Nat}{rows:List (List Int)}{row s:List Int}(P:Vm (Uo a t) [0] K L rows row)(hr:row.length<K)(hs:L[rows.length]? =some s)(hq:Uo a t s row.length=q)(H:O9 L vs q kq L' vs' k was):Vm (Uo a t) [0] K L' rows (row++[((k:Nat):Int)]):=by
 subst hq;rcases H with⟨h1,h2,h3,h4⟩|⟨h1,h2,h3,h4,h5⟩
 ·rw[h2];exact P.J6 hr hs h4
 ·rw[h3,h5];exact P.new hr hs h2
theorem Qk.vH{st0:St}{X0:Fp}{A:QU}{Os:List Ob}{L0 B0:QU}{n0:Nat}(B:Qk st0 X0 st (L0++(A++B0)) (E8 F vs L::Os))(H:O9 L vs q kq L' vs' k was)(hA:Acc n0 1 A kq (zC q))(hz:Vh q): ∃F',Qk st0 X0 st (L0++B0) (E8 F' vs' L'::Os):=by
 rcases H with⟨h1,h2,h3,h4⟩|⟨h1,h2,h3,h4,h5⟩
 ·subst h2 h3;exact⟨F,B.less (List.Sublist.append_left (List.sublist_append_right _ _) _)⟩
 ·subst h3 h4;exact B.Z5 hA hz
end
def Lh(vs:List AV):List (List AV):=vs.map fun w=>[w]
theorem XW(vs:List AV):(Lh vs).length=vs.length:=by simp[Lh]
theorem KI{vs:List AV}{i:Nat}{w:AV}(h:vs[i]? =some w):(Lh vs)[i]? =some [w]:=by rw[Lh,List.getElem?_map,h];rfl
theorem MZ(vs:List AV)(w:AV):Lh (vs++[w])=Lh vs++[[w]]:=by simp[Lh]
theorem YN.rowAt{h:Hp}{vs:List AV}{L:List (List Int)}(H:YN h F vs L){i:Nat}{s:List Int}{w:AV}(hs:L[i]? =some s)(hw:vs[i]? =some w):Ji h [] 1 (zC s) w:=by
 obtain⟨w',h1,h2,_⟩:=H.at_ _ _ hs
 rw[hw]at h1;injection h1 with h1;subst h1;exact h2
theorem IT(hf:Qj st){c k u:Nat}(hc:c≤64)(hk:k≤6)(hu:u≤1): ∃v st',Ev Tryz.prog Q4 153 [iN c,iN k,iN u] st v st'∧v=iZ (Zn k c u:Nat)∧Qt st st':=by
 have hp6:=JE hk;have hcm:c % 2^k≤c:=Nat.mod_le _ _;have huk:u *2^k≤64:=Nat.le_trans (Nat.mul_le_mul_right _ hu) Qe;have hp0:0<2^k:=Nat.two_pow_pos _;refine JF Tryz.func153 Tryz.ntmps153 fun T K=>?_;have M:=Mem.start hf;refine Qc 3 K M ?_;intro _ K;refine p1 K (YU (c:=((k:Nat):Int)) Zd Yg rfl (IntWalk.u64_in _ Qe)) fun _ K=>p1 K (Y4 (n:=k) rfl rfl Qe) fun _ K=>?_;refine Qc 1 K M ?_;intro _ K;refine p1 K (Sr (k:=k) (c:=c) rfl rfl Qe Qe) fun _ K=>?_;refine Qc 4 K M ?_;intro _ K;refine p1 K (YU (c:=((k:Nat):Int)) Zd Yg rfl (IntWalk.u64_in _ Qe)) fun _ K=>p1 K (Sm (a:=u) (n:=k) rfl rfl Qe Qe) fun _ K=>p1 K (LC (GP (k:=k) (c:=c) (u:=u) hu) rfl rfl Qe Qe) fun _ K=>?_;refine Qc 3 K M ?_;intro _ K;refine p1 K (qZ (k:=k) (c:=c) rfl rfl Qe) fun _ K=>p1 K (LC (yY (k:=k) (c:=c) (u:=u) hu) rfl rfl Qe (xZ Qe)) fun _ K=>?_;refine Qc 1 K M ?_;exact⟨rfl,M.qt⟩

theorem TP(hf:Qj st){a:Au}(wf:Zr a){ka kn:AV}{ls:List (List AV)}(hac:Qu ka=true)(hN:Lb st.h.get a.nx kn ls){q:List Int}{kq:AV}(hq:Ji st.h.get [] 1 (zC q) kq)(hqs: ∀z∈q,0≤z∧z<((a.n:Nat):Int))(hql:q.length≤400){c k:Nat}(hk:k<a.tr)(hc:c<2^(a.tr-1)): ∃v st',Ev Tryz.prog Q4 129 [.agg [iZ (a.tr:Nat),ka,kn],kq,iN c,iN k] st v st'∧ ∃kr,v=kr∧Em st st' 1 kr (zC (Uo a k q c))∧Qt st st':=by
 have htr:=wf.tr;have hlen:=wf.len;have hmo:=wf.most;have hc64:c≤64:=by have:=JE (T:=a.tr-1) Qe;omega
 have hu0:=L4 hk hc (u:=0) QE;have hu1:=L4 hk hc (u:=1) QE;have hp6:=JE htr;have hnc:=hN.r.cell;have hqc:=hq.cell;refine JF Tryz.func129 Tryz.ntmps129 fun T K=>?_;have M:=Mem.start hf;refine QC<|Qv ?_;refine Jt K M rfl (Qb rfl (Qb hac (Qb hN.r.cell Q7))) QE fun c4 _ _ K M=>?_;refine Qc 3 K M ?_;intro _ K;refine Jc (fun mm1 T st9=> ∃(i:Nat) (ko:AV) (A:U9),mm1=q.length-i∧QY [(1,kq),(2,iN c),(3,iN k),(4,.ptr c4 0 0),(8,.nils),(9,ko),(10,iN i)] T∧Mem st.h.get st.n [] st9 ((c4,0,[iZ (a.tr:Nat),ka,kn])::(A++[]))∧i≤q.length∧Acc st.n 1 A ko (zC (JQ (W2 a k c (q.take i))))) (fun mm1 T st9 hI=>?_) _ _ _ ⟨0,.nils,[],rfl,(K.sub rfl),M.less (.refl _),(Nat.zero_le _),(by rw[List.take_zero];exact .none)⟩;obtain⟨i,ko,A,rfl,K,M,hiq,hA⟩:=hI
 have hsl:=Tp (W2 a k c (q.take i));have hnl:=Im a k c (q.take i);have htl:(q.take i).length≤i:=by rw[List.length_take];omega
 refine Qc 2 K M ?_;intro _ K;refine p1 K (Q8 Jp rfl rfl (hq.len.trans (congrArg some (Qn _)))) fun _ K=>?_;refine Qc 1 K M ?_;intro _ K;refine JP K rfl (fun h14=>?_) fun h14=>?_
 ·refine Qc 0 K M ?_;intro _ K;refine QD (l:=[(9,0),(10,0),(11,0),(0,0),(1,0),(2,1),(3,0),(4,0),(5,0),(6,1),(7,0),(8,1),(12,0),(13,0),(14,0),(15,0),(16,0),(17,0),(18,0)]) (by kernel_rfl) ?_;have Mq:=M;refine Jf 2 K M ?_;intro _ K;obtain⟨v29,st29,ev29,rfl,q29⟩:=IT M.fresh (c:=c) (k:=k) (u:=0) hc64 Qe QE;refine qA rfl K (Qh rfl ev29) fun _ K=>?_;replace M:=M.quiet q29;have Mp:=Mq;have Mq:=M;refine Jf 2 K M ?_;intro _ K;refine Js rfl K rfl (M.load (k:=0) rfl (Qf Q5 rfl)) (Mp.load (k:=0) rfl (Qf Q5 rfl)) (JR (JL hN.len)) rfl QE fun _ K=>?_;refine Jf 2 K M ?_;intro _ K;obtain⟨y23,hi23⟩:=U8 q i Qe;have hb23:=hqs y23 (List.mem_of_getElem? hi23);obtain⟨z23,rfl⟩: ∃m:Nat,y23=((m:Nat):Int):=⟨_,(Int.toNat_of_nonneg hb23.1).symm⟩;obtain⟨x23,m23,f23,q23,_,la23,lo23,lp23,la'23,lo'23,lp'23⟩:=Ji.LX (Ji.mem M hq QA) (Ji.mem Mp hq QA) (i:=i) (cs:=_) (Jr hi23);refine q1 rfl K (Qa (j:=i) Qw (congrArg some q23) rfl (by rw[Qn];omega)) fun _ K=>?_;refine Js rfl K rfl (lo23 _ 0 _ Qr rfl) (lo'23 _ 0 _ Qr rfl) (JR rfl) rfl QE fun _ K=>?_;obtain⟨s25,hi25⟩:=U8 a.nx z23 Qe;obtain⟨_,hc25,w25,rfl,hr25,hz25⟩:=hN.at_ _ _ hi25;have hw25:=wf.row s25 (List.mem_of_getElem? hi25);have hl25:s25.length=2^a.tr:=hw25.1;obtain⟨x25,m25,f25,q25,_,la25,lo25,lp25,la'25,lo'25,lp'25⟩:=Ji.LX (Ji.mem M hN.r QA) (Ji.mem Mp hN.r QA) (i:=z23) (cs:=_) hc25;refine q1 rfl K (Qa (j:=z23) QV (congrArg some q25) rfl (by rw[hN.ln];omega)) fun _ K=>?_;refine Js rfl K rfl (lo25 _ 0 _ QZ rfl) (lo'25 _ 0 _ QZ rfl) (JR (JL (hr25.len.trans (congrArg some (Qn _))))) rfl QE fun _ K=>?_;obtain⟨y30,hi30⟩:=U8 s25 ((Zn k c 0)) Qe;have hb30:=hw25.2 y30 (List.mem_of_getElem? hi30);obtain⟨z30,rfl⟩: ∃m:Nat,y30=((m:Nat):Int):=⟨_,(Int.toNat_of_nonneg hb30.1).symm⟩;obtain⟨x30,m30,f30,q30,_,la30,lo30,lp30⟩:=(Ji.mem M hr25 QA).load (i:=(Zn k c 0)) (cs:=_) (Jr hi30);refine q1 rfl K (Qa (j:=(Zn k c 0)) Qw (congrArg some q30) rfl (by rw[Qn];omega)) fun _ K=>q1 rfl K (Qd rfl (lo30 _ 0 _ Qr rfl)) fun _ K=>?_;have hi0:=H4 ((z30:Nat):Int) (JQ (W2 a k c (q.take i)));obtain⟨v32,st32,ev32,ko32,b32,rfl,had32,q32⟩:=DZ M.fresh (Mem.Yx (L:=[(c4,0,[iZ (a.tr:Nat),ka,kn])]) (A:=A) (B:=[]) M hA) hA.Sv Qe z30 Qe;refine qA rfl K (Qh rfl ev32) fun _ K=>?_;obtain⟨A32,hA32,M⟩:=Mem.en (L:=[(c4,0,[iZ (a.tr:Nat),ka,kn])]) (A:=A) M hA q32 had32;simp only[List.append_assoc,List.cons_append,List.nil_append,List.set_cons_zero,List.set_cons_succ]at M;have Mp:=Mq;have Mq:=M;refine Jf 4 K M ?_;intro _ K;refine QG ?_;show W _ _ _ _ _ _ _;refine QD (l:=[(9,0),(10,0),(11,0),(0,0),(1,0),(2,1),(3,0),(4,0),(5,0),(6,1),(7,0),(8,1),(12,0),(13,0),(14,0),(15,0),(16,0),(17,0),(18,0)]) (by kernel_rfl) ?_;have Mq:=M;refine Jf 2 K M ?_;intro _ K;obtain⟨v47,st47,ev47,rfl,q47⟩:=IT M.fresh (c:=c) (k:=k) (u:=1) hc64 Qe QE;refine qA rfl K (Qh rfl ev47) fun _ K=>?_;replace M:=M.quiet q47;have Mp:=Mq;have Mq:=M;refine Jf 2 K M ?_;intro _ K;refine Js rfl K rfl (M.load (k:=0) rfl (Qf Q5 rfl)) (Mp.load (k:=0) rfl (Qf Q5 rfl)) (JR (JL hN.len)) rfl QE fun _ K=>?_;refine Jf 2 K M ?_;intro _ K;obtain⟨x41,m41,f41,q41,_,la41,lo41,lp41,la'41,lo'41,lp'41⟩:=Ji.LX (Ji.mem M hq QA) (Ji.mem Mp hq QA) (i:=i) (cs:=_) (Jr hi23);refine q1 rfl K (Qa (j:=i) Qw (congrArg some q41) rfl (by rw[Qn];omega)) fun _ K=>?_;refine Js rfl K rfl (lo41 _ 0 _ Qr rfl) (lo'41 _ 0 _ Qr rfl) (JR rfl) rfl QE fun _ K=>?_;obtain⟨s43,hi43⟩:=U8 a.nx z23 Qe;obtain⟨_,hc43,w43,rfl,hr43,hz43⟩:=hN.at_ _ _ hi43;have hw43:=wf.row s43 (List.mem_of_getElem? hi43);have hl43:s43.length=2^a.tr:=hw43.1;obtain⟨x43,m43,f43,q43,_,la43,lo43,lp43,la'43,lo'43,lp'43⟩:=Ji.LX (Ji.mem M hN.r QA) (Ji.mem Mp hN.r QA) (i:=z23) (cs:=_) hc43;refine q1 rfl K (Qa (j:=z23) QV (congrArg some q43) rfl (by rw[hN.ln];omega)) fun _ K=>?_;refine Js rfl K rfl (lo43 _ 0 _ QZ rfl) (lo'43 _ 0 _ QZ rfl) (JR (JL (hr43.len.trans (congrArg some (Qn _))))) rfl QE fun _ K=>?_;obtain⟨y48,hi48⟩:=U8 s43 ((Zn k c 1)) Qe;have hb48:=hw43.2 y48 (List.mem_of_getElem? hi48);obtain⟨z48,rfl⟩: ∃m:Nat,y48=((m:Nat):Int):=⟨_,(Int.toNat_of_nonneg hb48.1).symm⟩;obtain⟨x48,m48,f48,q48,_,la48,lo48,lp48⟩:=(Ji.mem M hr43 QA).load (i:=(Zn k c 1)) (cs:=_) (Jr hi48);refine q1 rfl K (Qa (j:=(Zn k c 1)) Qw (congrArg some q48) rfl (by rw[Qn];omega)) fun _ K=>q1 rfl K (Qd rfl (lo48 _ 0 _ Qr rfl)) fun _ K=>?_;have hi0:=H4 ((z48:Nat):Int) (ZY ((z30:Nat):Int) (JQ (W2 a k c (q.take i))));obtain⟨v50,st50,ev50,ko50,b50,rfl,had50,q50⟩:=DZ M.fresh (Mem.Yx (L:=[(c4,0,[iZ (a.tr:Nat),ka,kn])]) (A:=A32) (B:=[]) M hA32) hA32.Sv Qe z48 Qe;refine qA rfl K (Qh rfl ev50) fun _ K=>?_;obtain⟨A50,hA50,M⟩:=Mem.en (L:=[(c4,0,[iZ (a.tr:Nat),ka,kn])]) (A:=A32) M hA32 q50 had50;simp only[List.append_assoc,List.cons_append,List.nil_append,List.set_cons_zero,List.set_cons_succ]at M;have Mp:=Mq;have Mq:=M;refine Jf 4 K M ?_;intro _ K;refine QG ?_;show W _ _ _ _ _ _ _;refine Qc 3 K M ?_;intro _ K;exact⟨_,Qe,i+1,ko50,A50,rfl,(K.sub rfl),M.less (.refl _),Qe,(by rw[LN hi23,Ps,Int.toNat_natCast,JH hi25 hi30,JH hi43 hi48];exact hA50)⟩
 refine QT ?_;show W _ _ _ _ _ _ _;refine Qc 2 K M ?_;rw[List.take_of_length_le Qe]at hA;refine⟨_,rfl,?_,M.qt⟩;exact Mem.Bh (L:=[(c4,0,[iZ (a.tr:Nat),ka,kn])]) (A:=A) (B:=[]) M hA

theorem CT(hf:Qj st){Fv:Fp}{kl kq:AV}{vs:List AV}{L:List (List Int)}{q:List Int}(hO:UW st.h.get F 1 kl (Lh vs))(hi: ∀c,F c→c<st.n)(hV:YN st.h.get Fv vs L)(hvn: ∀c,Fv c→c<st.n)(hvd: ∀c,Fv c→ ¬F c)(hl:L.length≤1000)(hq:Ji st.h.get [] 1 (zC q) kq)(hX: ∀c m o n y,kq=.sl c m o n y→ ¬F c): ∃v st',Ev Tryz.prog Q4 128 [kl,kq] st v st'∧ ∃kl' k was L' vs' F',v=.tup [kl',iN k,.bool was]∧UW st'.h.get F' 1 kl' (Lh vs')∧WK st st' F F'∧UH F st st'∧O9 L vs q kq L' vs' k was:=by
 have hvl:=hV.ln;have hqc:=hq.cell;have B:=Qk.UM (o:=Wj F 1 kl (Lh vs)) hf hO hi;obtain⟨A,hA,B⟩:=B.Bd;refine JF Tryz.func128 Tryz.ntmps128 fun T K=>?_;have M:=B.mem;refine Qc 4 K M ?_;intro _ K;refine Jc (fun mm1 T st9=> ∃(i:Nat),mm1=L.length-i∧QY [(0,kl),(1,kq),(7,iN i)] T∧Qk st (Wj F 1 kl (Lh vs)).F st9 (A++[]) []∧i≤L.length∧(∀(j:Nat) (x:List Int),j<i→L[j]? =some x→x≠q)) (fun mm1 T st9 hI=>?_) _ _ _ ⟨0,rfl,(K.sub rfl),(B.step M).less (.refl _),(Nat.zero_le _),(fun j x hj=>absurd hj (Nat.not_lt_zero j))⟩;obtain⟨i,rfl,K,B,hil,hne⟩:=hI;have M:=B.mem;refine Qc 2 K M ?_;intro _ K;refine p1 K (Q8 J4 rfl rfl (hA.len.trans (congrArg some ((XW _).trans hvl)))) fun _ K=>?_;refine Qc 1 K M ?_;intro _ K;refine JP K rfl (fun h11=>?_) fun h11=>?_
 ·refine Qc 2 K M ?_;intro _ K;obtain⟨s16,hi16⟩:=U8 L i Qe;obtain⟨w16,hv16,hr16,hz16,hf16⟩:=(hV.frame fun c hc=>(B.step M).J6 c (hvn c hc) (hvd c hc)).at_ _ _ hi16;obtain⟨x16,m16,f16,q16,_,la16,lo16,lp16⟩:=(Mem.Yx (L:=[]) (A:=A) (B:=[]) M hA).load (i:=i) (cs:=_) (KI hv16);refine p1 K (Qa (j:=i) QV (congrArg some q16) rfl (by rw[XW];omega)) fun _ K=>p1 K (Qd rfl (lo16 _ 0 _ QZ rfl)) fun _ K=>?_;refine Qc 1 K M ?_;intro _ K;refine oQ K M (Lw M.fresh (YN.rowAt (hV.frame fun c hc=>(B.step M).J6 c (hvn c hc) (hvd c hc)) hi16 hv16) ((B.step M).rd hf hq hX)) rfl rfl fun _ _ K M=>?_;refine Un ?_;show W _ _ _ _ _ _ _;refine JP K rfl (fun h19=>?_) fun h19=>?_
  ·refine Qc 5 K M ?_;intro _ K;refine Jx ⟨.inr rfl,_,(Ju (Q9 K rfl) (Q9 K rfl) (Q9 K rfl)),?_⟩;replace B:=(B.step M).less (.refl _);obtain⟨F',B'⟩:=Qk.V9 (M:=[]) (A:=A) B hA;exact⟨_,i,true,L,vs,F',rfl,B'.at_ (k:=0) rfl,fun c hc=>⟨(B'.KT (k:=0) rfl c hc).symm,B'.Yu (k:=0) rfl c hc⟩,B'.JM,.inl ⟨rfl,rfl,rfl,by rw[hi16,h19]⟩⟩
  refine Qc 3 K M ?_;intro _ K;exact⟨_,Qe,i+1,rfl,(K.sub rfl),(B.step M).less (.refl _),Qe,(FE hne hi16 h19)⟩
 refine QT ?_;show W _ _ _ _ _ _ _;refine QC ?_
 have hno:q∉L:=fun hm=>by obtain⟨j,hj⟩:=List.getElem?_of_mem hm;exact hne j q (by have:=(List.getElem?_eq_some_iff.1 hj).1;omega) hj rfl
 refine Qc 2 K M ?_;intro _ K;refine Xy K M QR Uv rfl ((J9 rfl hqc rfl).trans rfl) (Qb hqc Q7) rfl rfl fun c24 _ _ K M=>?_;refine Je (k2:=0) (L:=[(c24,0,[kq])]) (A:=A) (B:=[]) K M hA QR rfl rfl rfl rfl (by rw[XW];omega) rfl fun ks25 A25 _ _ K hA25 M=>?_;refine Qc 1 K M ?_;intro _ K;refine p1 K (Q8 J4 rfl rfl (hA.len.trans (congrArg some ((XW _).trans hvl)))) fun _ K=>?_;refine Qc 3 K M ?_;intro _ K;refine Jx ⟨.inr rfl,_,(Ju (Q9 K rfl) (Q9 K rfl) (Q9 K rfl)),?_⟩;replace B:=(B.step M).less (.cons _ (.refl _));obtain⟨F',B'⟩:=Qk.V9 (M:=[]) (A:=A25) (ls:=Lh (vs++[kq])) B (by rw[MZ];exact hA25);exact⟨_,L.length,false,L++[q],_,F',rfl,B'.at_ (k:=0) rfl,fun c hc=>⟨(B'.KT (k:=0) rfl c hc).symm,B'.Yu (k:=0) rfl c hc⟩,B'.JM,.inr ⟨rfl,fun hm=>hno hm,rfl,rfl,rfl⟩⟩
end Go.Proofs.YtiknomepbklibaaGreatDoor
end
