/-
  Size, Depth, IsTerm, IsFormula: the program's answer, the reference's. TreeIs.
-/
import Derived.Test.YtaomhhkflohhgaaGreatDoorMgTrC
set_option maxHeartbeats 8000000
set_option maxRecDepth 100000
set_option linter.unnecessarySimpa false
set_option linter.unusedSimpArgs false
set_option linter.unusedVariables false
namespace Go.Proofs.YtaomhhkflohhgaaGreatDoor
open Go Go.RowKit
section
variable {a z:Int} {cs:List AV} {l:List Nd} {o s:List Nat} {st:St}

def ZF(x:Nd)(m:Int):Bool:=decide (min ((Uj x:Nat):Int) 2001≤m)&&decide (min ((MC x:Nat):Int) 31≤30)
theorem ZQ(x:List Nat):R1 (.str x)=true:=rfl
theorem ZR(k:IntKind)(x:Int):R1 (.int k x)=true:=rfl
theorem YX(b:Bool):R1 (.bool b)=true:=rfl
theorem CG(hf:Qw st)(hr:XE st.h.get (.mk o s z a l) cs): ∃v st',Ev Tryz.prog QR 38 [.agg cs] st v st'∧v=iZ (min ((Uj (.mk o s z a l):Nat):Int) 2001)∧Qt st st':=by
 have hr0:=hr;obtain⟨kk,ls,rfl,hK,hb⟩:=hr.Jn;have hln:=hK.ln;have hbn:=hK.YZ;refine Yu Tryz.func38 Tryz.ntmps38 fun T K=>?_;have M:=Mem.start hf;refine Qc 0 K M fun _ K=>?_;refine J3 K M rfl (Qa rfl (Qa rfl (Qa rfl (Qa rfl (Qa hK.cell Qo))))) QT fun c1 _ _ K M=>?_;refine Qc 2 K M fun _ K=>?_;refine oQ K M (yO _ 2001 _ _ M.fresh (hr0.mono M.rows) QT QT) rfl rfl fun _ _ K M=>?_;refine Qc 1 K M ?_;exact⟨rfl,M.qt⟩

theorem Dd(hf:Qw st)(hr:XE st.h.get (.mk o s z a l) cs): ∃v st',Ev Tryz.prog QR 6 [.agg cs] st v st'∧v=iZ (min ((Uj (.mk o s z a l):Nat):Int) 2001)∧Qt st st':=by
 have hr0:=hr;obtain⟨kk,ls,rfl,hK,hb⟩:=hr.Jn;have hln:=hK.ln;have hbn:=hK.YZ;refine Yu Tryz.func6 Tryz.ntmps6 fun T K=>?_;have M:=Mem.start hf;refine Qc 0 K M fun _ K=>?_;refine J3 K M rfl (Qa rfl (Qa rfl (Qa rfl (Qa rfl (Qa hK.cell Qo))))) QT fun c1 _ _ K M=>?_;refine Qc 2 K M fun _ K=>?_;refine oQ K M (ME _ 2001 _ _ M.fresh (hr0.mono M.rows) QT QT) rfl rfl fun _ _ K M=>?_;refine Qc 1 K M ?_;exact⟨rfl,M.qt⟩

theorem Tp(hf:Qw st)(hr:XE st.h.get (.mk o s z a l) cs): ∃v st',Ev Tryz.prog QR 72 [.agg cs] st v st'∧v=iZ (min ((MC (.mk o s z a l):Nat):Int) 31)∧Qt st st':=by
 have hr0:=hr;obtain⟨kk,ls,rfl,hK,hb⟩:=hr.Jn;have hln:=hK.ln;have hbn:=hK.YZ;refine Yu Tryz.func72 Tryz.ntmps72 fun T K=>?_;have M:=Mem.start hf;refine Qc 0 K M fun _ K=>?_;refine J3 K M rfl (Qa rfl (Qa rfl (Qa rfl (Qa rfl (Qa hK.cell Qo))))) QT fun c1 _ _ K M=>?_;refine Qc 2 K M fun _ K=>?_;refine oQ K M (uR _ 31 _ _ M.fresh (hr0.mono M.rows) QT QT) rfl rfl fun _ _ K M=>?_;refine Qc 1 K M ?_;exact⟨rfl,M.qt⟩

theorem vh(hf:Qw st)(hr:XE st.h.get (.mk o s z a l) cs): ∃v st',Ev Tryz.prog QR 54 [.agg cs] st v st'∧v=.bool (ZF (.mk o s z a l) 2000)∧Qt st st':=by
 have hr0:=hr;obtain⟨kk,ls,rfl,hK,hb⟩:=hr.Jn;have hln:=hK.ln;have hbn:=hK.YZ;refine Yu Tryz.func54 Tryz.ntmps54 fun T K=>?_;have M:=Mem.start hf;refine Qc 0 K M fun _ K=>?_;refine J3 K M rfl (Qa rfl (Qa rfl (Qa rfl (Qa rfl (Qa hK.cell Qo))))) QT fun c1 _ _ K M=>?_;refine Qc 2 K M fun _ K=>?_;refine oQ K M (CG M.fresh (hr0.mono M.rows)) rfl rfl fun _ _ K M=>?_;refine Qc 1 K M fun _ K=>?_;refine Eh K rfl (fun _ e6 K=>?_) fun _ e6 K=>?_
 ·refine Qc 5 K M ?_;refine⟨congrArg AV.bool ?_,M.qt⟩;rw[ZF]
  simp_all<;>(intros;omega)
 refine Qc 1 K M fun _ K=>?_;obtain⟨v8,st8,ev8,rfl,q8⟩:=Tp M.fresh (hr0.mono M.rows);refine pg K rfl rfl (Qe rfl ev8) fun _ K=>?_;replace M:=M.quiet q8;refine Qc 3 K M ?_;refine⟨congrArg AV.bool ?_,M.qt⟩;rw[ZF]
 simp_all<;>(intros;omega)

theorem Hr(hf:Qw st)(hr:XE st.h.get (.mk o s z a l) cs): ∃v st',Ev Tryz.prog QR 31 [.agg cs] st v st'∧v=.bool (ZF (.mk o s z a l) 2000&&Jw (.mk o s z a l))∧Qt st st':=by
 have hr0:=hr;obtain⟨kk,ls,rfl,hK,hb⟩:=hr.Jn;have hln:=hK.ln;have hbn:=hK.YZ;refine Yu Tryz.func31 Tryz.ntmps31 fun T K=>?_;have M:=Mem.start hf;refine Qc 0 K M fun _ K=>?_;refine J3 K M rfl (Qa rfl (Qa rfl (Qa rfl (Qa rfl (Qa hK.cell Qo))))) QT fun c1 _ _ K M=>?_;refine Qc 2 K M fun _ K=>?_;refine oQ K M (vh M.fresh (hr0.mono M.rows)) rfl rfl fun _ _ K M=>?_;refine oB K (Q9 rfl) rfl fun b5 _ e5 K=>?_;cases b5
 ·refine Qc 4 K M ?_;refine⟨congrArg AV.bool ?_,M.qt⟩
  simp_all
 refine Qc 1 K M fun _ K=>?_;obtain⟨v7,st7,ev7,rfl,q7⟩:=BZ _ _ _ M.fresh (hr0.mono M.rows);refine pg K rfl rfl (Qe rfl ev7) fun _ K=>?_;replace M:=M.quiet q7;refine Qc 2 K M ?_;refine⟨congrArg AV.bool ?_,M.qt⟩
 simp_all

end
section

def Nd.num:Nd→Int
 |.mk _ _ n _ _=>n
def Kf(o s:List Nat)(z a:Int)(kk:AV):List AV→List AV
 |[.str ok,.str _,.int _ zk,.int _ _,kkk]=>if ok=ZK then [.str ZK,.str [],.int .i64 (z+zk),.int .i64 a,.nils]else if ok=US then [.str o,.str s,.int .i64 (z+zk),.int .i64 a,kkk]else [.str o,.str s,.int .i64 z,.int .i64 a,kk]
 |_=>[.str o,.str s,.int .i64 z,.int .i64 a,kk]
theorem zr{o s:List Nat}{z a:Int}{l:List Nd}{kk:AV}{ls:List (List AV)}{st:St}(hf:Qw st)(hK:Ed st.h.get l kk ls)(hz:0≤z∧z≤100000)(hkb: ∀k,l[0]? =some k→0≤k.num∧k.num≤100000): ∃v st',Ev Tryz.prog QR 96 [.agg [.str o,.str s,iZ z,iZ a,kk]] st v st'∧v=.agg (if o=US∧((l.length:Nat):Int)=1 then Kf o s z a kk (ls[0]?.getD [])else [.str o,.str s,iZ z,iZ a,kk])∧Qt st st':=by
 have hln:=hK.ln;have hbn:=hK.YZ;refine Yu Tryz.func96 Tryz.ntmps96 fun T K=>?_;have M:=Mem.start hf;refine Qc 0 K M fun _ K=>?_;refine J3 K M rfl (Qa rfl (Qa rfl (Qa rfl (Qa rfl (Qa hK.cell Qo))))) QT fun c1 _ _ K M=>?_;refine au 3 K M ?_;intro c2 _ _ K _ M;refine p1 K (VS (b:=[112,108,117,115]) rfl rfl) fun _ K=>?_;refine oB K (Q9 rfl) rfl fun b7 _ e7 K=>?_;cases b7
 ·replace e7:(o=[112,108,117,115]):=by simpa using e7
  refine Qc 2 K M fun _ K=>?_;refine pg K rfl rfl (Jg QI rfl rfl hK.len) fun _ K=>?_;refine Qc 2 K M fun _ K=>?_;refine C5 K rfl (fun h12=>?_) fun h12=>?_
  ·refine Qc 1 K M fun _ K=>?_;refine Qz (k:=0) K M rfl rfl rfl Qi rfl (Qa rfl (Qa rfl (Qa rfl (Qa rfl (Qa hK.cell Qo))))) rfl fun _ M=>?_;refine Qc 0 K M ?_;refine⟨congrArg AV.agg ?_,M.qt⟩
   simp_all [Kf,US,ZK]<;>first|done|rfl
  refine Qc 2 K M fun _ K=>?_;obtain⟨⟨o16,s16,z16,a16,l16⟩,hi16⟩: ∃k,l[0]? =some k:=⟨_,List.getElem?_eq_getElem (by first|omega|(have:=UN (m:=1) (l:=l) (by assumption);omega)|(have:=UN (m:=2) (l:=l) (by assumption);omega)|(have:=has_len (m:=1) (l:=l) (by assumption);omega))⟩;have hm16:=U7 hi16;obtain⟨_,hc16,hn16⟩:=hK.at_ _ _ hi16;have hp16:=hn16;obtain⟨kk16,ls16,rfl,hK16,hb16⟩:=hp16.Jn;have hnb16:0≤z16∧z16≤100000:=hkb _ hi16;refine OJ (hK.r.mem M Q3) hc16 K Jf Qv rfl rfl fun _ _ _ _ K=>?_;refine au 1 K M ?_;intro c3 _ _ K _ M;refine Qz (k:=0) K M rfl rfl rfl Qi rfl (Qa rfl (Qa rfl (Qa rfl (Qa rfl (Qa hK16.cell Qo))))) rfl fun _ M=>?_;refine Qc 2 K M fun _ K=>?_;refine p1 K (QU (b:=[110,117,109]) rfl rfl) fun _ K=>?_;refine Qc 1 K M fun _ K=>?_;refine Xj K rfl (fun h20=>?_) fun h20=>?_
  ·refine au 9 K M ?_;intro _ _ K _ M;refine Qc 0 K M ?_;refine⟨congrArg AV.agg ?_,M.qt⟩
   simp_all [Kf,US,ZK]<;>first|done|rfl
  refine Qc 0 K M fun _ K=>?_;refine p1 K (QU (b:=[112,108,117,115]) rfl rfl) fun _ K=>?_;refine Qc 1 K M fun _ K=>?_;refine Xj K rfl (fun h30=>?_) fun h30=>?_
  ·refine au 10 K M ?_;intro _ _ K _ M;refine Ws (k:=2) K M rfl rfl rfl YF (hK16.cell) rfl fun _ M=>?_;refine Qc 1 K M fun _ K=>?_;refine Qz (k:=1) K M rfl rfl rfl Qi rfl (Qa rfl (Qa rfl (Qa rfl (Qa rfl (Qa hK16.cell Qo))))) rfl fun _ M=>?_;refine Qc 0 K M ?_;refine⟨congrArg AV.agg ?_,M.qt⟩
   simp_all [Kf,US,ZK]<;>first|done|rfl
  refine Qc 1 K M fun _ K=>?_;refine Qz (k:=1) K M rfl rfl rfl Qi rfl (Qa rfl (Qa rfl (Qa rfl (Qa rfl (Qa hK.cell Qo))))) rfl fun _ M=>?_;refine Qc 0 K M ?_;refine⟨congrArg AV.agg ?_,M.qt⟩
  simp_all [Kf,US,ZK]<;>first|done|rfl
 replace e7: ¬(o=[112,108,117,115]):=by simpa using e7
 refine Qc 7 K M fun _ K=>?_;refine Qz (k:=0) K M rfl rfl rfl Qi rfl (Qa rfl (Qa rfl (Qa rfl (Qa rfl (Qa hK.cell Qo))))) rfl fun _ M=>?_;refine Qc 0 K M ?_;refine⟨congrArg AV.agg ?_,M.qt⟩
 simp_all [Kf,US,ZK]<;>first|done|rfl

theorem vy:Bytes [110,117,109]∧Bytes []:=⟨by unfold Bytes;decide,by unfold Bytes;decide⟩
end
section
variable {a z:Int} {b bl:List (List Nat)} {i:Nat} {kb:AV} {l:List Nd} {o s:List Nat} {st:St}

def Xq(l:List (List Nat)):List (List AV):=l.map fun s=>[AV.str s]
theorem J5(l:List (List Nat)):(Xq l).length=l.length:=by simp[Xq]
theorem B6{l:List (List Nat)}(h:l[i]? =some s):(Xq l)[i]? =some [AV.str s]:=by rw[Xq,List.getElem?_map,h];rfl
theorem Vx(a b:List (List Nat)):Xq (a++b)=Xq a++Xq b:=by simp[Xq]
theorem Wi(l:List (List Nat)): ∀cs∈Xq l,cs.length=1:=by
 intro cs h;obtain⟨s,_,rfl⟩:=List.mem_map.1 h;rfl
theorem D7{α:Type}{p:α→Bool}{l:List α}{k:α}(h:l[i]? =some k):Xa p (l.drop i) i=if p k then(i:Int)else Xa p (l.drop (i+1)) (i+1):=Vu h
def KF(kb:AV)(nb:Bool):Prop:=(kb=.nils∧nb=true)∨((∃c m off n,kb=.sl c m off n 1)∧nb=false)
theorem TN{P:Program}{G:Env}{K:List (Nat×AV)}{t yt e:TypeId}{x y:Operand}{nb:Bool}(hk:KF kb nb)(ht:P.underlying t=some (.slice e))(hx:JF G K x=some kb)(hy:JF G K y=some .nils):YK P G K (.binOp .eql t x y yt) st (.bool nb) st:=by
 rcases hk with⟨rfl,rfl⟩|⟨⟨c,m,off,n,rfl⟩,rfl⟩
 ·exact YS hx hy (by
   show QZ (F9 (P.underlying t) .nils) (ob (F8 .nils .nils) fun b=>some (AV.bool b))=_
   rw[ht];rfl)
 ·exact YS hx hy (by
   show QZ (F9 (P.underlying t) (.sl c m off n 1)) (ob (F8 (.sl c m off n 1) .nils) fun b=>some (AV.bool b))=_
   rw[ht];rfl)
theorem KF.nil{h:Hp}{X:List Nat}(hk:KF kb true)(r:QS h X 1 (Xq bl) kb):bl=[]:=by
 rcases hk with⟨rfl,_⟩|⟨_,h⟩
 ·have h:=r.len;rw[J5]at h
  injection h with h
  exact List.length_eq_zero_iff.1 h.symm
 ·cases h
theorem Acc.wz{n0:Nat}{A:List (Nat×Nat×List AV)}{ks:AV}{ls:List (List AV)}(h:Acc n0 1 A ks ls): ∃nb,KF ks nb:=by
 cases h with
 |none=>exact⟨true,.inl ⟨rfl,rfl⟩⟩
 |own=>exact⟨false,.inr ⟨⟨_,_,_,_,rfl⟩,rfl⟩⟩
def F4(s:List Nat)(l:List (List Nat)):Bool:=l.any fun x=>decide (s=x)
mutual
def QE : Nd → List (List Nat) → List (List Nat)
  | .mk op name _ _ kids, b => if op = [118, 97, 114] ∨ op = [105, 115] then (if F4 name b then [] else [name])
    else if op = [101, 120] ∨ op = [97, 108, 108] then Yq kids (b ++ [name]) else Yq kids b
def Yq : List Nd → List (List Nat) → List (List Nat)
  | [], _ => []
  | k :: l, b => QE k b ++ Yq l b
end
theorem Lu{kids:List Nd}{k:Nd}(h:kids[i]? =some k):Yq (kids.drop i) b=QE k b++Yq (kids.drop (i+1)) b:=by
 obtain⟨h1,h2⟩:=List.getElem?_eq_some_iff.1 h;rw[List.drop_eq_getElem_cons h1,Yq,h2]
mutual
theorem NI: ∀(x:Nd) (b:List (List Nat)),(QE x b).length≤Uj x
 |.mk op name n a kids,b=>by
  have h:=fun b=>Ib kids b;rw[QE,Uj]
  split
  ·split<;>simp
  ·split
   ·have:=h (b++[name]);omega
   ·have:=h b;omega
theorem Ib: ∀(l:List Nd) (b:List (List Nat)),(Yq l b).length≤FN l
 |[],b=>by simp[Yq]
 |k::l,b=>by
  have h1:=NI k b;have h2:=Ib l b;rw[Yq,FN,List.length_append];omega
end

theorem Ng(hf:Qw st)(hB:QS st.h.get [] 1 (Xq bl) kb)(x:List Nat): ∃v st',Ev Tryz.prog QR 106 [kb,.str x] st v st'∧v=iZ (Xa (fun y=>decide (x=y)) bl 0)∧Qt st st':=by
 have hbn:(bl.length:Int)≤9223372036854775807:=by have:=hB.YZ;rw[J5]at this;exact this
 refine Yu Tryz.func106 Tryz.ntmps106 fun T K=>?_;have M:=Mem.start hf;refine Qc 2 K M fun _ K=>?_;refine p1 K (Jg XG rfl rfl (hB.len.trans (congrArg some (J5 _)))) fun _ K=>?_;refine Qc 1 K M fun _ K=>?_;refine JQ (fun mm1 T st9=> ∃(i:Nat),mm1=bl.length-i∧Jr [(0,kb),(1,.str x),(7,iZ (bl.length:Nat)),(8,iN i)] T∧Mem st.h.get st.n [] st9 []∧i≤bl.length∧Xa (fun y=>decide (x=y)) bl 0=Xa (fun y=>decide (x=y)) (bl.drop i) i) (fun mm1 T st9 hI=>?_) _ _ _ ⟨0,rfl,(K.sub rfl),M.less (.refl _),(Nat.zero_le _),rfl⟩;obtain⟨i,rfl,K,M,hi,hx⟩:=hI;refine Qc 1 K M fun _ K=>?_;refine Xj K rfl (fun h9=>?_) fun h9=>?_
 ·refine Qc 5 K M fun _ K=>?_;obtain⟨y14,hi14⟩:=an bl i Qh;refine oI (QS.mem M hB Q3) (B6 hi14) K Jz J0 rfl rfl rfl fun _ _ _ _ K=>?_;refine Qc 1 K M fun _ K=>?_;refine Xj K rfl (fun h16=>?_) fun h16=>?_
  ·refine Qc 2 K M ?_;exact⟨by rw[hx,D7 hi14,if_pos (by simpa using h16)],M.qt⟩
  refine Qc 2 K M fun _ K=>?_;exact⟨_,Qh,i+1,rfl,(K.sub rfl),M.less (.refl _),Qh,(by rw[hx,D7 hi14,if_neg (by simpa using h16)])⟩
 refine Jx ?_;show W _ _ _ _ _ _ _;refine Qc 1 K M ?_;exact⟨by rw[hx,UM Qh];rfl,M.qt⟩

theorem Vw(hf:Qw st)(hB:QS st.h.get [] 1 (Xq bl) kb)(x:List Nat): ∃v st',Ev Tryz.prog QR 109 [kb,.str x] st v st'∧v=.bool (F4 x bl)∧Qt st st':=by
 refine Yu Tryz.func109 Tryz.ntmps109 fun T K=>?_;have M:=Mem.start hf;refine Qc 3 K M fun _ K=>?_;refine oQ K M (Ng M.fresh (QS.mem M hB Q3) x) rfl rfl fun _ _ K M=>?_;refine Qc 2 K M ?_;exact⟨by rw[F4,←Kh _ bl 0],M.qt⟩

theorem WW{cs:List AV}(hf:Qw st)(hr:XE st.h.get (.mk o s z a l) cs): ∃v st',Ev Tryz.prog QR 94 [.agg cs] st v st'∧v=.bool (decide (o=[101,120])||decide (o=[97,108,108]))∧Qt st st':=by
 have hr0:=hr;obtain⟨kk,ls,rfl,hK,hb⟩:=hr.Jn;have hln:=hK.ln;have hbn:=hK.YZ;refine Yu Tryz.func94 Tryz.ntmps94 fun T K=>?_;have M:=Mem.start hf;refine Qc 0 K M fun _ K=>?_;refine J3 K M rfl (Qa rfl (Qa rfl (Qa rfl (Qa rfl (Qa hK.cell Qo))))) QT fun c1 _ _ K M=>?_;refine Qc 3 K M fun _ K=>?_;refine p1 K (QU (b:=[101,120]) rfl rfl) fun _ K=>?_;refine Eh K rfl (fun _ e6 K=>?_) fun _ e6 K=>?_
 ·refine Qc 2 K M fun _ K=>?_;refine pg K rfl rfl (QU (b:=[97,108,108]) rfl rfl) fun _ K=>?_;refine Qc 2 K M ?_;refine⟨?_,M.qt⟩
  simp_all [Qp,Nd.op]<;>first|done|rfl|omega|(congr 1;done)|(congr 2;done)|(intros;omega)
 refine Qc 5 K M ?_;refine⟨?_,M.qt⟩
 simp_all [Qp,Nd.op]<;>first|done|rfl|omega|(congr 1;done)|(congr 2;done)|(intros;omega)

theorem P8(hf:Qw st)(hB:QS st.h.get [] 1 (Xq bl) kb)(hl:bl.length≤1000000){nb:Bool}(hk:KF kb nb): ∃v st',Ev Tryz.prog QR 128 [kb] st v st'∧ ∃ks,v=ks∧OE st st' 1 ks (Xq bl)∧Qt st st':=by
 have hbn:(bl.length:Int)≤9223372036854775807:=by have:=hB.YZ;rw[J5]at this;exact this
 have hcl:=J5 bl;refine Yu Tryz.func128 Tryz.ntmps128 fun T K=>?_;have M:=Mem.start hf;refine Qc 2 K M fun _ K=>?_;refine p1 K (TN hk XG rfl rfl) fun _ K=>?_;refine Qc 0 K M fun _ K=>?_;refine JU K rfl (fun h4=>?_) fun h4=>?_
 ·have hb4:=h4;refine Qc 1 K M ?_;have hbl:=KF.nil (h4▸hk) hB;exact⟨.nils,rfl,⟨[],by rw[hbl];exact .none,fun _ _ _ h=>by cases h⟩,M.qt⟩
 have hb4:=h4;refine au 2 K M ?_;intro c5 _ _ K _ M;replace M:=Mem.cast (M':=([(c5,0,[])]++[])) (Mem.perm M (List.perm_append_comm (l₁:=[(c5,0,[])]))) (by simp only[List.append_assoc,List.cons_append,List.nil_append,List.append_nil,List.set_cons_zero,List.set_cons_succ]);have hA0c5:Acc st.n 1 [(c5,0,[])] (.sl c5 0 0 0 1) []:=Acc.own (n0:=st.n) (z:=1) (c:=c5) (m:=0) (ls:=[]) ((M.own c5 0 [] Q3).resolve_right Q3) Q3 Q3;refine Bv (L:=[]) (A:=[(c5,0,[])]) (B:=[]) K M hA0c5 UI rfl rfl (QS.mem M hB Q3) (Wi _) (by simp only[List.length_nil,List.length_cons];omega) rfl fun ks7 A7 _ _ K hA7 M=>?_;refine Qc 1 K M ?_;refine⟨_,rfl,?_,M.qt⟩;have h:=Mem.jI (L:=[]) (B:=[]) M hA7
 simpa using h

theorem Mem.wW{h0:Hp}{n0 z:Nat}{L A B:List (Nat×Nat×List AV)}{ks:AV}{ls:List (List AV)}(hM:Mem h0 n0 [] st (L++(A++B)))(h:Acc n0 z A ks ls∨(A=[]∧QS h0 [] z ls ks)):QS st.h.get [] z ls ks:=by
 rcases h with h|⟨_,h⟩
 ·exact hM.LJ h
 ·exact QS.mem hM h Q3
theorem Av(h:o=[118,97,114]∨o=[105,115]):QE (.mk o s z a l) b=if F4 s b then []else [s]:=by rw[QE,if_pos h]
theorem Dt{b2:List (List Nat)}(h: ¬(o=[118,97,114]∨o=[105,115]))(hb:b2=if o=[101,120]∨o=[97,108,108]then b++[s]else b):QE (.mk o s z a l) b=Yq l b2:=by
 rw[QE,if_neg h,hb]
 split<;>rfl

theorem jJ(x:Nd): ∀(bl:List (List Nat)) (kb:AV) (nb:Bool) (st:St) (cs:List AV),Qw st→XE st.h.get x cs→QS st.h.get [] 1 (Xq bl) kb→KF kb nb→bl.length+Uj x≤1000000→ ∃v st',Ev Tryz.prog QR 118 [.agg cs,kb] st v st'∧ ∃ks,v=ks∧OE st st' 1 ks (Xq (QE x bl))∧Qt st st':=by
 refine Uz (M:=fun x=> ∀(bl:List (List Nat)) (kb:AV) (nb:Bool) (st:St) (cs:List AV),Qw st→XE st.h.get x cs→QS st.h.get [] 1 (Xq bl) kb→KF kb nb→bl.length+Uj x≤1000000→ ∃v st',Ev Tryz.prog QR 118 [.agg cs,kb] st v st'∧ ∃ks,v=ks∧OE st st' 1 ks (Xq (QE x bl))∧Qt st st') (fun o s z a l ih=>?_) x;intro bl kb nb st cs hf hr hB hk hsz;have hr0:=hr;obtain⟨kk,ls,rfl,hK,hb⟩:=hr.Jn;have hln:=hK.ln;have hbn:=hK.YZ;rw[Uj]at hsz;have hcl:=J5 bl;refine Yu Tryz.func118 Tryz.ntmps118 fun T K=>?_;have M:=Mem.start hf;refine Qc 0 K M fun _ K=>?_;refine J3 K M rfl (Qa rfl (Qa rfl (Qa rfl (Qa rfl (Qa hK.cell Qo))))) QT fun c2 _ _ K M=>?_;refine Qc 3 K M fun _ K=>?_;refine p1 K (QU (b:=[118,97,114]) rfl rfl) fun _ K=>?_;refine Eh K rfl (fun _ e11 K=>?_) fun _ e11 K=>?_
 ·refine Qc 2 K M fun _ K=>?_;refine pg K rfl rfl (QU (b:=[105,115]) rfl rfl) fun _ K=>?_;refine Qc 1 K M fun _ K=>?_;refine Xj K rfl (fun h15=>?_) fun h15=>?_
  ·refine Qc 3 K M fun _ K=>?_;obtain⟨v19,st19,ev19,rfl,q19⟩:=Vw M.fresh (QS.mem M hB Q3) s;refine p1 K (Qe rfl ev19) fun _ K=>?_;replace M:=M.quiet q19;refine Qc 0 K M fun _ K=>?_;refine JU K rfl (fun h19=>?_) fun h19=>?_
   · have hb19:=h19;refine Qc 1 K M ?_;refine⟨_,rfl,?_,M.qt⟩;rw[Av (by simp_all),if_pos (by assumption)];exact⟨[],.none,fun _ _ _ h=>by cases h⟩
   have hb19:=h19;refine au 4 K M ?_;intro c22 _ _ K _ M;refine Qc 0 K M ?_;refine⟨_,rfl,?_,M.qt⟩;rw[Av (by simp_all),if_neg (by simp_all)];exact⟨[(c22,0,[.str s])],Acc.own (z:=1) (c:=c22) (m:=0) (ls:=[[.str s]]) ((M.own c22 0 [.str s] Q3).resolve_right Q3) Q3 Q3,fun c m l h=>M.row c m l (by simp at h;simp[h])⟩
  refine JM ?_;show W _ _ _ _ _ _ _
  have hnv: ¬(o=[118,97,114]∨o=[105,115]):=by simp_all
  refine VY (J:=fun T st9=> ∃(kb2:AV) (b2:List (List Nat)) (A2:List (Nat×Nat×List AV)) (n2:Bool),Jr [(1,kb2),(2,.ptr c2 0 0),(4,.nils)] T∧Mem st.h.get st.n [] st9 ((c2,0,[.str o,.str s,iZ z,iZ a,kk])::(A2++[]))∧(Acc st.n 1 A2 kb2 (Xq b2)∨(A2=[]∧QS st.h.get [] 1 (Xq b2) kb2))∧KF kb2 n2∧b2=(if o=[101,120]∨o=[97,108,108]then bl++[s]else bl)) ?_ (fun T st9 hJ=>?_)
  ·refine Qc 1 K M fun _ K=>?_;refine oQ K M (WW M.fresh (hr0.mono M.rows)) rfl rfl fun _ _ K M=>?_;refine Qc 0 K M fun _ K=>?_;refine JU K rfl (fun h24=>?_) fun h24=>?_
   · have hb24:=h24;refine Ja (l:=[(0,0),(1,0),(2,0),(3,1),(4,0),(5,0),(6,0)]) (by kernel_rfl) ?_;refine q1 rfl K (Q9 rfl) fun _ K=>?_;obtain⟨v26,st26,ev26,ks26,rfl,nr26,q26⟩:=P8 M.fresh (QS.mem M hB Q3) Qh hk;refine qA rfl K (Qe rfl ev26) fun _ K=>?_;have Mp:=M;obtain⟨A26,hA26,M⟩:=M.Wp q26 nr26;refine Ui 1 K M fun _ K=>?_;refine QL rfl K rfl (M.load (k:=0) rfl (Qj J0 rfl)) (Mp.load (k:=0) rfl (Qj J0 rfl)) (J2 rfl) rfl QT fun _ K=>?_;refine Z3 rfl K M UI EB rfl rfl rfl rfl rfl fun c29 _ _ K M=>?_;refine XT (k2:=0) (L:=[(c29,0,[.str s]),(c2,0,[.str o,.str s,iZ z,iZ a,kk])]) (B:=[]) rfl K M hA26 UI rfl rfl rfl rfl (by rw[J5];omega) rfl fun ks30 A30 _ _ K hA30 M=>?_;refine q1 rfl K (JH rfl) fun _ K=>Ji ?_;obtain⟨nb30,hnb30⟩:=hA30.wz;exact⟨ks30,bl++[s],A30,nb30,(K.sub rfl),M.less (.cons _ (.refl _)),(by first|exact .inl (by rw[Vx];exact hA30)|exact .inr ⟨rfl,hB⟩),hnb30,(by simp_all)⟩
   have hb24:=h24;refine JM ?_;have hnb30:=hk;exact⟨kb,bl,[],nb,(K.sub rfl),M.less (.refl _),(by first|exact .inl (by rw[Vx];exact hA30)|exact .inr ⟨rfl,hB⟩),hnb30,(by simp_all)⟩
  obtain⟨kb2,b2,A2,n2,K,M,hA2,hn2,hb2⟩:=hJ
  have hbl2:b2.length≤bl.length+1:=by rw[hb2];split<;>simp
  refine Qc 3 K M fun _ K=>?_;refine p1 K (Jg QI rfl rfl hK.len) fun _ K=>?_;refine Qc 1 K M fun _ K=>?_;refine JQ (fun mm1 T st9=> ∃(i:Nat) (nl:List (List Nat)) (ks:AV) (A:List (Nat×Nat×List AV)),mm1=l.length-i∧Jr [(1,kb2),(4,.nils),(5,ks),(32,kk),(33,iZ (l.length:Nat)),(34,iN i)] T∧Mem st.h.get st.n [] st9 ((c2,0,[.str o,.str s,iZ z,iZ a,kk])::(A2++(A++[])))∧Acc st.n 1 A ks (Xq nl)∧i≤l.length∧Yq l b2=nl++Yq (l.drop i) b2) (fun mm1 T st9 hI=>?_) _ _ _ ⟨0,[],.nils,[],rfl,(K.sub rfl),M.less (.refl _),.none,(Nat.zero_le _),rfl⟩;obtain⟨i,nl,ks,A,rfl,K,M,hA,hi,hinv⟩:=hI;refine Qc 1 K M fun _ K=>?_;refine Xj K rfl (fun h35=>?_) fun h35=>?_
  ·refine Qc 0 K M fun _ K=>?_;obtain⟨⟨o36,s36,z36,a36,l36⟩,hi36⟩: ∃k,l[i]? =some k:=⟨_,List.getElem?_eq_getElem (by first|omega|(have:=UN (m:=1) (l:=l) (by assumption);omega)|(have:=UN (m:=2) (l:=l) (by assumption);omega)|(have:=has_len (m:=1) (l:=l) (by assumption);omega))⟩;have hm36:=U7 hi36;obtain⟨_,hc36,hn36⟩:=hK.at_ _ _ hi36;have hp36:=hn36;obtain⟨kk36,ls36,rfl,hK36,hb36⟩:=hp36.Jn;refine OJ (hK.r.mem M Q3) hc36 K Jf Qv rfl rfl fun _ _ _ _ K=>?_;refine au 1 K M ?_;intro c7 _ _ K _ M;refine Qz (k:=0) K M rfl rfl rfl Qi rfl (Qa rfl (Qa rfl (Qa rfl (Qa rfl (Qa hK36.cell Qo))))) rfl fun _ M=>?_;refine Qc 3 K M fun _ K=>?_;have hkk:=Z4 hm36;obtain⟨v41,st41,ev41,ks41,rfl,nr41,q41⟩:=ih _ hm36 b2 kb2 n2 _ _ M.fresh (hn36.mono M.rows) (Mem.wW (L:=[(c7,0,[.str o36,.str s36,iZ z36,iZ a36,kk36]),(c2,0,[.str o,.str s,iZ z,iZ a,kk])]) (B:=(A++[])) M hA2) hn2 Qh;refine p1 K (Qe rfl ev41) fun _ K=>?_
   have hroom:nl.length+(QE (.mk o36 s36 z36 a36 l36) b2).length≤1000000:=by
    have h1:=Ib l b2;rw[hinv,Lu hi36,List.length_append,List.length_append]at h1;omega
   obtain⟨A41,hA41,M⟩:=M.Wp q41 nr41;replace M:=Mem.cast (M':=((c7,0,[.str o36,.str s36,iZ z36,iZ a36,kk36])::(c2,0,[.str o,.str s,iZ z,iZ a,kk])::(A2++(A++(A41++[]))))) M (by simp only[List.append_assoc,List.cons_append,List.nil_append,List.append_nil,List.set_cons_zero,List.set_cons_succ]);refine Bv (L:=((c7,0,[.str o36,.str s36,iZ z36,iZ a36,kk36])::(c2,0,[.str o,.str s,iZ z,iZ a,kk])::(A2++[]))) (B:=(A41++[])) K (Mem.cast M (by simp only[List.append_assoc,List.cons_append,List.nil_append,List.append_nil,List.set_cons_zero,List.set_cons_succ])) hA UI rfl rfl (Mem.LJ (L:=((c7,0,[.str o36,.str s36,iZ z36,iZ a36,kk36])::(c2,0,[.str o,.str s,iZ z,iZ a,kk])::(A2++(A++[])))) (B:=[]) (Mem.cast M (by simp only[List.append_assoc,List.cons_append,List.nil_append,List.append_nil,List.set_cons_zero,List.set_cons_succ])) hA41) (Wi _) (by rw[J5,J5];omega) rfl fun ks42 A42 _ _ K hA42 M=>?_;replace M:=Mem.cast (M':=((c7,0,[.str o36,.str s36,iZ z36,iZ a36,kk36])::(c2,0,[.str o,.str s,iZ z,iZ a,kk])::(A2++(A42++(A41++[]))))) M (by simp only[List.append_assoc,List.cons_append,List.nil_append,List.append_nil,List.set_cons_zero,List.set_cons_succ]);refine Qc 3 K M fun _ K=>?_;exact⟨_,Qh,i+1,nl++QE (.mk o36 s36 z36 a36 l36) b2,ks42,A42,rfl,(K.sub rfl),M.less (.cons _ (.cons_cons _ (List.Sublist.append_left (List.Sublist.append_left (List.nil_sublist _) _) _))),(by rw[Vx];exact hA42),Qh,(by rw[hinv,Lu hi36,List.append_assoc])⟩
  refine Jx ?_;show W _ _ _ _ _ _ _;refine Qc 2 K M ?_;refine⟨_,rfl,?_,M.qt⟩;rw[Dt hnv hb2,hinv,UM Qh,Yq,List.append_nil];exact Mem.jI (L:=((c2,0,[.str o,.str s,iZ z,iZ a,kk])::(A2++[]))) (B:=[]) (Mem.cast M (by simp only[List.append_assoc,List.cons_append,List.nil_append,List.append_nil,List.set_cons_zero,List.set_cons_succ])) hA
 refine Qc 8 K M fun _ K=>?_;obtain⟨v19,st19,ev19,rfl,q19⟩:=Vw M.fresh (QS.mem M hB Q3) s;refine p1 K (Qe rfl ev19) fun _ K=>?_;replace M:=M.quiet q19;refine Qc 0 K M fun _ K=>?_;refine JU K rfl (fun h19=>?_) fun h19=>?_
 ·have hb19:=h19;refine Qc 1 K M ?_;refine⟨_,rfl,?_,M.qt⟩;rw[Av (by simp_all),if_pos (by assumption)];exact⟨[],.none,fun _ _ _ h=>by cases h⟩
 have hb19:=h19;refine au 4 K M ?_;intro c22 _ _ K _ M;refine Qc 0 K M ?_;refine⟨_,rfl,?_,M.qt⟩;rw[Av (by simp_all),if_neg (by simp_all)];exact⟨[(c22,0,[.str s])],Acc.own (z:=1) (c:=c22) (m:=0) (ls:=[[.str s]]) ((M.own c22 0 [.str s] Q3).resolve_right Q3) Q3 Q3,fun c m l h=>M.row c m l (by simp at h;simp[h])⟩
end
end Go.Proofs.YtaomhhkflohhgaaGreatDoor
