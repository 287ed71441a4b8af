/-
  Pools in memory.
-/
import Derived.Test.YtildagdnomiahaaGreatDoorQgFill
set_option maxRecDepth 100000
namespace Go.Proofs.YtildagdnomiahaaGreatDoor
section
open Go Go.RowKit
set_option linter.unusedVariables false
variable {ks v:AV} {vs:List AV}

def yN(h h':Hp)(c:Nat):Prop:= ∀ro ms,h c=some (.row ro ms)→h' c=h c
structure YG(h:Hp)(F:Nat→Prop)(cp:Nat)(A:Uq)(ks:AV)(vs:List AV)(L:List (List Int)):Prop where
 acc:YJ A ks vs
 row: ∀c m l,(c,m,l)∈A→Qw h c m l∧F c∧c≠cp
 ln:vs.length=L.length
 inn: ∀(i:Nat) (s:List Int),L[i]? =some s→ ∃v,vs[i]? =some v∧Je h [] 1 (zC s) v∧FE s∧(v=.nils∨ ∃c m o n,v=.sl c m o n 1)∧ ∀c m o n y,v=.sl c m o n y→F c∧c≠cp∧ ∀m' l',(c,m',l')∉A
theorem YG.frame{h h':Hp}{F:Nat→Prop}{cp:Nat}{A:Uq}{ks:AV}{vs:List AV}{L:List (List Int)}(H:YG h F cp A ks vs L)(e: ∀c,F c→h' c=h c):YG h' F cp A ks vs L:=
 ⟨H.acc,fun c m l hm=>by
  obtain⟨h1,h2,h3⟩:=H.row c m l hm
  exact⟨h1.frame (e c h2),h2,h3⟩,H.ln,fun i s hi=>by
  obtain⟨v,h1,h2,h3,h4,h5⟩:=H.inn i s hi
  exact⟨v,h1,h2.frame fun c m o n y e'=>e c (h5 c m o n y e').1,h3,h4,h5⟩⟩
theorem YG.more{h:Hp}{F F':Nat→Prop}{cp:Nat}{A:Uq}{L:List (List Int)}(H:YG h F cp A ks vs L)(e: ∀c,F c→F' c):YG h F' cp A ks vs L:=
 ⟨H.acc,fun c m l hm=>by
  obtain⟨h1,h2,h3⟩:=H.row c m l hm
  exact⟨h1,e c h2,h3⟩,H.ln,fun i s hi=>by
  obtain⟨v,h1,h2,h3,h4,h5⟩:=H.inn i s hi
  exact⟨v,h1,h2,h3,h4,fun c m o n y e'=>by
   obtain⟨k1,k2⟩:=h5 c m o n y e'
   exact⟨e c k1,k2⟩⟩⟩
theorem YG.rd{h:Hp}{F:Nat→Prop}{cp:Nat}{A:Uq}{ks:AV}{vs:List AV}{L:List (List Int)}(H:YG h F cp A ks vs L):Je h [] 1 (vs.map fun v=>[v]) ks:=H.acc.rd fun c m l hm=>(H.row c m l hm).1
theorem YG.len{h:Hp}{F:Nat→Prop}{cp:Nat}{A:Uq}{ks:AV}{vs:List AV}{L:List (List Int)}(H:YG h F cp A ks vs L):JU ks=some L.length:=by rw[←H.ln];exact H.acc.len
theorem YG.snoc{h h':Hp}{F F':Nat→Prop}{cp:Nat}{A A':Uq}{ks':AV}{L:List (List Int)}(H:YG h F cp A ks vs L){s:List Int}(hA:YJ A' ks' (vs++[v]))(hr: ∀c m l,(c,m,l)∈A'→Qw h' c m l∧F' c∧c≠cp∧((∃m l,(c,m,l)∈A)∨ ¬F c))(hF: ∀c,F c→F' c)
  (ho: ∀c,F c→c≠cp→(∀m l,(c,m,l)∉A)→yN h h' c) (hv:Je h' [] 1 (zC s) v) (hs:FE s) (hn:v=.nils∨ ∃c m o n,v=.sl c m o n 1) (hc: ∀c m o n y,v=.sl c m o n y→F' c∧c≠cp∧ ∀m' l',(c,m',l')∉A'):YG h' F' cp A' ks' (vs++[v]) (L++[s]):=by
 refine⟨hA,fun c m l hm=>?_,by rw[List.length_append,List.length_append,H.ln];rfl,fun i x hi=>?_⟩
 ·obtain⟨h1,h2,h3,_⟩:=hr c m l hm;exact⟨h1,h2,h3⟩
 ·by_cases hl:i<L.length
  ·rw[List.getElem?_append_left hl]at hi;obtain⟨u,h1,h2,h3,h4,h5⟩:=H.inn i x hi;refine⟨u,by rw[List.getElem?_append_left (by rw[H.ln];exact hl)];exact h1,?_,h3,h4,fun c m o n y e=>?_⟩
   ·exact h2.frame fun c m o n y e=>by
     obtain⟨k1,k2,k3⟩:=h5 c m o n y e;obtain⟨_,cells,⟨ro,e1,vs',ms,h6,_⟩,_⟩:=h2.alive c m o n y e;exact ho c k1 k2 k3 ro ms h6
   ·obtain⟨k1,k2,k3⟩:=h5 c m o n y e;refine⟨hF c k1,k2,fun m' l' hm=>?_⟩;obtain⟨_,_,_,h6⟩:=hr c m' l' hm;rcases h6 with⟨m2,l2,h6⟩|h6
    ·exact k3 m2 l2 h6
    ·exact h6 k1
  ·rw[List.getElem?_append_right Qe]at hi
   have h0:i-L.length=0:=by
    by_cases h:i-L.length=0
    ·exact h
    ·rw[List.getElem?_eq_none (by simp;omega)]at hi;cases hi
   rw[h0]at hi
   injection hi with hi
   subst hi;exact⟨v,by rw[List.getElem?_append_right (by rw[H.ln];omega),H.ln,h0];rfl,hv,hs,hn,hc⟩
def YH(h:Hp)(F:Nat→Prop)(cp:Nat)(L:List (List Int)):Prop:=
 ∃ks cm es k A vs,Qw h cp 0 [ks,.mp cm]∧F cp∧F cm∧h cm=some (.map es k)∧es.map zK=VE 0 L∧YG h F cp A ks vs L∧L.Nodup
theorem YH.frame{h h':Hp}{F:Nat→Prop}{cp:Nat}{L:List (List Int)}(H:YH h F cp L)(e: ∀c,F c→h' c=h c):YH h' F cp L:=by
 obtain⟨ks,cm,es,k,A,vs,h1,h2,h3,h4,h5,h6,h7⟩:=H;exact⟨ks,cm,es,k,A,vs,h1.frame (e cp h2),h2,h3,by rw[e cm h3];exact h4,h5,h6.frame e,h7⟩
structure YI(F:Nat→Prop)(st st':St):Prop where
 fresh:Qg st'
 le:st.n≤st'.n
 J0: ∀c,c<st.n→ ¬F c→st'.h.get c=st.h.get c
theorem Qt.U7{st st':St}(q:Qt st st')(F:Nat→Prop):YI F st st':=⟨q.fresh,q.le,fun c hc _=>q.J0 c hc⟩
theorem Mem.jH{st st1:St}{M0:Uq}(hf:Qg st)(hM:Mem st.h.get st.n [] st1 M0)(Rw:Uq)(hR: ∀c m l,(c,m,l)∈Rw→Qw st.h.get c m l)(hn:(Rw.map Prod.fst).Nodup):Mem st1.h.get st1.n ((Rw++M0).map Prod.fst) st1 (Rw++M0):=by
 refine Mem.Db hM.fresh (Rw++M0) (fun c m l hm=>?_) ?_
 ·rcases List.mem_append.1 hm with hm|hm
  ·exact(hR c m l hm).Lm hf hM.Lm Qx
  ·exact hM.row c m l hm
 ·rw[List.map_append];refine List.nodup_append.2 ⟨hn,hM.nodup,fun a ha b hb e=>?_⟩;subst e;obtain⟨⟨c,m,l⟩,h1,h2⟩:=List.mem_map.1 ha;obtain⟨⟨c',m',l'⟩,h3,h4⟩:=List.mem_map.1 hb;have k1:=(hR c m l h1).lt hf;simp only at h2 h4;rcases hM.own c' m' l' h3 with k2|k2
  ·omega
  ·cases k2
theorem YJ.nodup{A:Uq}(h:YJ A ks vs):(A.map Prod.fst).Nodup:=by cases h<;>simp
theorem Mem.mapped{h0:Hp}{n0:Nat}{X:List Nat}{st:St}{M:Uq}(hM:Mem h0 n0 X st M){cm n:Nat}{es:List (AV×AV×Nat)}(hc:st.h.get cm=some (.map es n))(s:List Int)(z:Int):
  Mem (V6 st cm n es s z).h.get (V6 st cm n es s z).n (M.map Prod.fst) (V6 st cm n es s z) M∧YI (fun c=>c=cm) st (V6 st cm n es s z):=by
 have hlt:cm<st.n:=Nat.lt_of_not_le fun hle=>by rw[hM.fresh cm hle]at hc;cases hc
 have hf:=B5 hM.fresh hlt n es s z;refine⟨Mem.Db hf M (fun c m l hm=>?_) hM.nodup,hf,Nat.le_refl _,fun c hc' hne=>WH _ _ _ _ _ hne⟩;have hr:=hM.row c m l hm;exact Qw.frame hr (WH _ _ _ _ _ (Qw.PS hr hc))
theorem Mem.zr{P:Program}{h0:Hp}{n0:Nat}{X:List Nat}{st:St}{L A B:Uq}(hM:Mem h0 n0 X st (L++(A++B)))(hA:YJ A ks vs){t e:TypeId}(T:AA P t e 1){k2 c2 m2:Nat}(hk:(L++(A++B))[k2]? =some (c2,m2,[v]))(hb:vs.length+1≤1000000000):
  ∃ks' A' st1,Up P [t,t] ks (.sl c2 m2 0 1 1) st=some (ks',st1)∧YJ A' ks' (vs++[v])∧Mem h0 n0 X st1 (L++(A'++B))∧ ∀c m l,(c,m,l)∈A'→(∃m l,(c,m,l)∈A)∨st.n≤c:=by
 have hr:=(hM.Uc hk).QF
 cases hA with
 |none=>
  have h1:=append_nil (st:=st) T (n:=1) (z2:=1) (Jd:=0) hr Qx Q8 Q8;refine⟨_,[(st.n,0,[v])],_,h1,?_,?_,fun c m l hm=>?_⟩
  ·exact .own (vs:=[v]) Qx
  ·have h2:=hM.alloc [v];have h3:=h2.perm (M':=L++([(st.n,0,[v])]++B)) (by simpa using(List.perm_middle (l₁:=L) (l₂:=B) (a:=(st.n,0,[v]))).symm)
   simpa using h3
  ·simp at hm;exact .inr Qe
 |own hb'=>
  rename_i c m;obtain⟨m',st1,h1,h2,_⟩:=hM.append (P:=P) T (k:=L.length) (c:=c) (m:=m) (len:=vs.length) (c2:=c2) (m2:=m2) (Jd:=0) (n:=1) (z2:=1) (l:=vs) (l2:=[v]) (Gc L B (c,m,vs)) Qx hr Qx Q8 hb;rw[O5]at h2;refine⟨_,[(c,m',vs++[v])],st1,h1,?_,by simpa using h2,fun c' m2 l hm=>?_⟩
  ·have:=YJ.own (c:=c) (m:=m') (vs:=vs++[v]) (by simpa using hb);rw[List.length_append]at this;exact this
  ·simp at hm;exact .inl ⟨m,vs,by simp[hm.1]⟩
section
variable {P:Program} {G:Env} {N:Nat} {h0:Hp} {n0:Nat} {X:List Nat} {st:St} {L A B:Uq} {T:Tr AV} {ops rest:List Oper} {K:List (Nat×AV)} {R:Tr AV→St→Prop} {d:Nat} {ty:TypeId} {pos:String} {af:Array Edge}
theorem Ej{x y:Operand}{t e:TypeId}{c2 m2 k2:Nat}(hK:QE K T)(hM:Mem h0 n0 X st (L++(A++B)))(hA:YJ A ks vs)(S:AA P t e 1)(hx:QD G K x=some ks)(hy:QD G K y=some (.sl c2 m2 0 1 1))(hk:(L++(A++B))[k2]? =some (c2,m2,[v]))(hb:vs.length+1≤1000000000)(hN:Nat.ble (d+1) N=true)
  (hn: ∀(ks':AV) A' T' st',QE ((d,ks')::K) T'→YJ A' ks' (vs++[v])→(∀c m l,(c,m,l)∈A'→(∃m l,(c,m,l)∈A)∨st.n≤c)→Mem h0 n0 X st' (L++(A'++B))→WR P G N ops rest R T' st'):WR P G N ops (⟨some d,.call {callee:=.builtin .append,args:= #[x,y],argTypes:= #[t,t]},ty,pos,af,none⟩::rest) R T st:=by
 obtain⟨ks',A',st1,h1,h2,h3,h4⟩:=hM.zr hA S hk hb;exact Wk hK (Zu rfl hx hy h1) (Nat.le_of_ble_eq_true hN) fun T' hT'=>hn ks' A' T' st1 hT' h2 h4 h3
end
theorem Ee.wk{n0:Nat}{A:Uq}{l:List Int}(h:Ee n0 A ks l):ks=.nils∨ ∃c m o n,ks=.sl c m o n 1:=by
 cases h with
 |none=>exact .inl rfl
 |own=>exact .inr ⟨_,_,_,_,rfl⟩
end
section
open Go

theorem JJ:tk Tryz.prog 199=.one:=by kernel_rfl
theorem Vw:UH Tryz.prog 199=some 1:=by kernel_rfl
theorem Vr:Tryz.prog.underlying 199=some (.slice 4):=by kernel_rfl
theorem U5:JK Tryz.prog 199=some 1:=by kernel_rfl
theorem GJ:tk Tryz.prog 201=.agg 3:=by kernel_rfl
theorem ZB:UH Tryz.prog 201=some 3:=by kernel_rfl
theorem Wy:zeroOf Tryz.prog 201=some [.int .i64 0,.nils,.nils]:=by kernel_rfl
theorem Nl:Q6 Tryz.prog 201 0=some 0:=by kernel_rfl
theorem Nk:Q6 Tryz.prog 201 1=some 1:=by kernel_rfl
theorem Nj:Q6 Tryz.prog 201 2=some 2:=by kernel_rfl
theorem Ux(l:List AV):Hi Tryz.prog 201 (.agg l) 2=ZZ Tryz.prog 167 l 2:=by kernel_rfl
theorem H8:Py Tryz.prog 201 [(0,1),(1,1),(2,1)] [.int .i64 0,.nils,.nils]:=⟨⟨_,Tryz.underlying201,by kernel_rfl,by kernel_rfl⟩,Wy⟩
theorem FN:tk Tryz.prog 86=.one:=by kernel_rfl
theorem FL:Tryz.prog.underlying 86=some (.pointer 123):=by kernel_rfl
theorem JT:tk Tryz.prog 124=.one:=by kernel_rfl
theorem EF:zeroOf Tryz.prog 124=some [.nilp]:=by kernel_rfl
theorem J2:Tryz.prog.underlying 124=some (.pointer 250):=by kernel_rfl
theorem Ww:zeroOf Tryz.prog 123=some [.int .i64 0,.bool false]:=by kernel_rfl
theorem Hf:Q6 Tryz.prog 123 0=some 0:=by kernel_rfl
theorem He:Q6 Tryz.prog 123 1=some 1:=by kernel_rfl
theorem IY:Py Tryz.prog 123 [(0,1),(1,1)] [.int .i64 0,.bool false]:=⟨⟨_,Tryz.underlying123,by kernel_rfl,by kernel_rfl⟩,Ww⟩
theorem EC:zeroOf Tryz.prog 296=some [.nilp,.nilp]:=by kernel_rfl
theorem Ie:Q6 Tryz.prog 296 0=some 0:=by kernel_rfl
theorem Ic:Q6 Tryz.prog 296 1=some 1:=by kernel_rfl
theorem LA:Py Tryz.prog 296 [(0,1),(1,1)] [.nilp,.nilp]:=⟨⟨_,Tryz.underlying296,by kernel_rfl,by kernel_rfl⟩,EC⟩
theorem Jh:tk Tryz.prog 205=.one:=by kernel_rfl
theorem YV:Tryz.prog.underlying 205=some (.pointer 257):=by kernel_rfl
theorem Hz:zeroOf Tryz.prog 250=some [.nils,.nils,.nilp]:=by kernel_rfl
theorem Na:Q6 Tryz.prog 250 0=some 0:=by kernel_rfl
theorem LZ:Q6 Tryz.prog 250 1=some 1:=by kernel_rfl
theorem LY:Q6 Tryz.prog 250 2=some 2:=by kernel_rfl
theorem H7:Py Tryz.prog 250 [(0,1),(1,1),(2,1)] [.nils,.nils,.nilp]:=⟨⟨_,Tryz.underlying250,by kernel_rfl,by kernel_rfl⟩,Hz⟩
theorem Wl:Tryz.prog.underlying 193=some (.slice 124):=by kernel_rfl
theorem Y5:JK Tryz.prog 193=some 1:=by kernel_rfl
theorem JS:tk Tryz.prog 254=.one:=by kernel_rfl
theorem EI:UH Tryz.prog 254=some 1:=by kernel_rfl
theorem Z0:Tryz.prog.underlying 254=some (.slice 328):=by kernel_rfl
theorem UP:JK Tryz.prog 254=some 1:=by kernel_rfl
theorem AK:tk Tryz.prog 255=.one:=by kernel_rfl
theorem AE:zeroOf Tryz.prog 257=some [.int .i64 0,.nils,.nilm]:=by kernel_rfl
theorem KK:Q6 Tryz.prog 257 0=some 0:=by kernel_rfl
theorem KJ:Q6 Tryz.prog 257 1=some 1:=by kernel_rfl
theorem KI:Q6 Tryz.prog 257 2=some 2:=by kernel_rfl
theorem O1:Py Tryz.prog 257 [(0,1),(1,1),(2,1)] [.int .i64 0,.nils,.nilm]:=⟨⟨_,Tryz.underlying257,by kernel_rfl,by kernel_rfl⟩,AE⟩
theorem Yg:tk Tryz.prog 328=.one:=by kernel_rfl
theorem Wx:zeroOf Tryz.prog 328=some [.nili]:=by kernel_rfl
theorem EH:UH Tryz.prog 278=some 3:=by kernel_rfl
theorem XU:zeroOf Tryz.prog 278=some [.int .i64 0,.bool false,.int .i64 0]:=by kernel_rfl
theorem Ip:Q6 Tryz.prog 278 0=some 0:=by kernel_rfl
theorem Io:Q6 Tryz.prog 278 1=some 1:=by kernel_rfl
theorem Im:Q6 Tryz.prog 278 2=some 2:=by kernel_rfl
theorem LD:Py Tryz.prog 278 [(0,1),(1,1),(2,1)] [.int .i64 0,.bool false,.int .i64 0]:=⟨⟨_,Tryz.underlying278,by kernel_rfl,by kernel_rfl⟩,XU⟩
theorem RG:tk Tryz.prog 282=.agg 3:=by kernel_rfl
theorem RH:UH Tryz.prog 282=some 3:=by kernel_rfl
theorem Nv:zeroOf Tryz.prog 282=some [.int .i64 0,.int .i64 0,.int .i64 0]:=by kernel_rfl
theorem Y2:tk Tryz.prog 286=.one:=by kernel_rfl
theorem W2:tk Tryz.prog 287=.one:=by kernel_rfl
theorem H5:UH Tryz.prog 287=some 1:=by kernel_rfl
theorem ZA:Tryz.prog.underlying 287=some (.slice 222):=by kernel_rfl
theorem Cn:JK Tryz.prog 287=some 2:=by kernel_rfl
theorem ED:zeroOf Tryz.prog 289=some [.nilm,.nils,.nilp]:=by kernel_rfl
theorem Ii:Q6 Tryz.prog 289 0=some 0:=by kernel_rfl
theorem Ih:Q6 Tryz.prog 289 1=some 1:=by kernel_rfl
theorem Ig:Q6 Tryz.prog 289 2=some 2:=by kernel_rfl
theorem LB:Py Tryz.prog 289 [(0,1),(1,1),(2,1)] [.nilm,.nils,.nilp]:=⟨⟨_,Tryz.underlying289,by kernel_rfl,by kernel_rfl⟩,ED⟩
theorem QM:tk Tryz.prog 301=.agg 3:=by kernel_rfl
theorem HY:UH Tryz.prog 301=some 3:=by kernel_rfl
theorem Wj:zeroOf Tryz.prog 301=some [.nilf,.int .i64 0,.int .i64 0]:=by kernel_rfl
theorem Fs:Q6 Tryz.prog 301 0=some 0:=by kernel_rfl
theorem Fm:Q6 Tryz.prog 301 1=some 1:=by kernel_rfl
theorem Fj:Q6 Tryz.prog 301 2=some 2:=by kernel_rfl
theorem HZ:Py Tryz.prog 301 [(0,1),(1,1),(2,1)] [.nilf,.int .i64 0,.int .i64 0]:=⟨⟨_,Tryz.underlying301,by kernel_rfl,by kernel_rfl⟩,Wj⟩
theorem Hx:zeroOf Tryz.prog 354=some [.int .i64 0]:=by kernel_rfl
theorem LU:Q6 Tryz.prog 354 0=some 0:=by kernel_rfl
theorem GU:Py Tryz.prog 354 [(0,1)] [.int .i64 0]:=⟨⟨_,Tryz.underlying354,by kernel_rfl,by kernel_rfl⟩,Hx⟩
theorem GN:UH Tryz.prog 356=some 3:=by kernel_rfl
theorem Hy:zeroOf Tryz.prog 356=some [.int .i64 0,.int .i64 0,.int .i64 0]:=by kernel_rfl
theorem LX:Q6 Tryz.prog 356 0=some 0:=by kernel_rfl
theorem LW:Q6 Tryz.prog 356 1=some 1:=by kernel_rfl
theorem LV:Q6 Tryz.prog 356 2=some 2:=by kernel_rfl
theorem GV:Py Tryz.prog 356 [(0,1),(1,1),(2,1)] [.int .i64 0,.int .i64 0,.int .i64 0]:=⟨⟨_,Tryz.underlying356,by kernel_rfl,by kernel_rfl⟩,Hy⟩
theorem EE:zeroOf Tryz.prog 338=some [.nilp,.nilf,.nilm]:=by kernel_rfl
theorem Il:Q6 Tryz.prog 338 0=some 0:=by kernel_rfl
theorem Ik:Q6 Tryz.prog 338 1=some 1:=by kernel_rfl
theorem Ij:Q6 Tryz.prog 338 2=some 2:=by kernel_rfl
theorem LC:Py Tryz.prog 338 [(0,1),(1,1),(2,1)] [.nilp,.nilf,.nilm]:=⟨⟨_,Tryz.underlying338,by kernel_rfl,by kernel_rfl⟩,EE⟩
theorem UM:AA Tryz.prog 199 4 1:=⟨Vr,by kernel_rfl,⟨_,Eh,rfl⟩,by kernel_rfl,by decide,by decide+kernel⟩
theorem UG:AA Tryz.prog 193 124 1:=⟨Wl,by kernel_rfl,⟨_,EF,rfl⟩,by kernel_rfl,by decide,by decide+kernel⟩
theorem XX:AA Tryz.prog 254 328 1:=⟨Z0,by kernel_rfl,⟨_,Wx,rfl⟩,by kernel_rfl,by decide,by decide+kernel⟩
theorem W5:AA Tryz.prog 287 222 2:=⟨ZA,by kernel_rfl,⟨_,YL,rfl⟩,by kernel_rfl,by decide,by decide+kernel⟩
end
end Go.Proofs.YtildagdnomiahaaGreatDoor
