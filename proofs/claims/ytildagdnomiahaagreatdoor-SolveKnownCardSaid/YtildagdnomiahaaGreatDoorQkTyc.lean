/-
  Pools in memory.
-/
import Derived.Test.YtildagdnomiahaaGreatDoorQkFill
set_option maxRecDepth 100000
namespace Go.Proofs.YtildagdnomiahaaGreatDoor
section
open Go Go.RowKit
set_option linter.unusedVariables false
variable {ks v:AV} {vs:List AV}

def vk(h h':Hp)(c:Nat):Prop:= ∀ro ms,h c=some (.row ro ms)→h' c=h c
structure YP(h:Hp)(F:Nat→Prop)(cp:Nat)(A:Ut)(ks:AV)(vs:List AV)(L:List (List Int)):Prop where
 acc:YS A ks vs
 row: ∀c m l,(c,m,l)∈A→Qu h c m l∧F c∧c≠cp
 ln:vs.length=L.length
 inn: ∀(i:Nat) (s:List Int),L[i]? =some s→ ∃v,vs[i]? =some v∧Jb h [] 1 (zC s) v∧FU s∧(v=.nils∨ ∃c m o n,v=.sl c m o n 1)∧ ∀c m o n y,v=.sl c m o n y→F c∧c≠cp∧ ∀m' l',(c,m',l')∉A
theorem YP.frame{h h':Hp}{F:Nat→Prop}{cp:Nat}{A:Ut}{ks:AV}{vs:List AV}{L:List (List Int)}(H:YP h F cp A ks vs L)(e: ∀c,F c→h' c=h c):YP h' F cp A ks vs L:=
 ⟨H.acc,fun c m l hm=>by
  obtain⟨h1,h2,h3⟩:=H.row c m l hm
  exact⟨h1.frame (e c h2),h2,h3⟩,H.ln,fun i s hi=>by
  obtain⟨v,h1,h2,h3,h4,h5⟩:=H.inn i s hi
  exact⟨v,h1,h2.frame fun c m o n y e'=>e c (h5 c m o n y e').1,h3,h4,h5⟩⟩
theorem YP.more{h:Hp}{F F':Nat→Prop}{cp:Nat}{A:Ut}{L:List (List Int)}(H:YP h F cp A ks vs L)(e: ∀c,F c→F' c):YP h F' cp A ks vs L:=
 ⟨H.acc,fun c m l hm=>by
  obtain⟨h1,h2,h3⟩:=H.row c m l hm
  exact⟨h1,e c h2,h3⟩,H.ln,fun i s hi=>by
  obtain⟨v,h1,h2,h3,h4,h5⟩:=H.inn i s hi
  exact⟨v,h1,h2,h3,h4,fun c m o n y e'=>by
   obtain⟨k1,k2⟩:=h5 c m o n y e'
   exact⟨e c k1,k2⟩⟩⟩
theorem YP.rd{h:Hp}{F:Nat→Prop}{cp:Nat}{A:Ut}{ks:AV}{vs:List AV}{L:List (List Int)}(H:YP h F cp A ks vs L):Jb h [] 1 (vs.map fun v=>[v]) ks:=H.acc.rd fun c m l hm=>(H.row c m l hm).1
theorem YP.len{h:Hp}{F:Nat→Prop}{cp:Nat}{A:Ut}{ks:AV}{vs:List AV}{L:List (List Int)}(H:YP h F cp A ks vs L):JZ ks=some L.length:=by rw[←H.ln];exact H.acc.len
theorem YP.snoc{h h':Hp}{F F':Nat→Prop}{cp:Nat}{A A':Ut}{ks':AV}{L:List (List Int)}(H:YP h F cp A ks vs L){s:List Int}(hA:YS A' ks' (vs++[v]))(hr: ∀c m l,(c,m,l)∈A'→Qu h' c m l∧F' c∧c≠cp∧((∃m l,(c,m,l)∈A)∨ ¬F c))(hF: ∀c,F c→F' c)
  (ho: ∀c,F c→c≠cp→(∀m l,(c,m,l)∉A)→vk h h' c) (hv:Jb h' [] 1 (zC s) v) (hs:FU s) (hn:v=.nils∨ ∃c m o n,v=.sl c m o n 1) (hc: ∀c m o n y,v=.sl c m o n y→F' c∧c≠cp∧ ∀m' l',(c,m',l')∉A'):YP h' F' cp A' ks' (vs++[v]) (L++[s]):=by
 refine⟨hA,fun c m l hm=>?_,by rw[List.length_append,List.length_append,H.ln];rfl,fun i x hi=>?_⟩
 ·obtain⟨h1,h2,h3,_⟩:=hr c m l hm;exact⟨h1,h2,h3⟩
 ·by_cases hl:i<L.length
  ·rw[List.getElem?_append_left hl]at hi;obtain⟨u,h1,h2,h3,h4,h5⟩:=H.inn i x hi;refine⟨u,by rw[List.getElem?_append_left (by rw[H.ln];exact hl)];exact h1,?_,h3,h4,fun c m o n y e=>?_⟩
   ·exact h2.frame fun c m o n y e=>by
     obtain⟨k1,k2,k3⟩:=h5 c m o n y e;obtain⟨_,cells,⟨ro,e1,vs',ms,h6,_⟩,_⟩:=h2.alive c m o n y e;exact ho c k1 k2 k3 ro ms h6
   ·obtain⟨k1,k2,k3⟩:=h5 c m o n y e;refine⟨hF c k1,k2,fun m' l' hm=>?_⟩;obtain⟨_,_,_,h6⟩:=hr c m' l' hm;rcases h6 with⟨m2,l2,h6⟩|h6
    ·exact k3 m2 l2 h6
    ·exact h6 k1
  ·rw[List.getElem?_append_right Qe]at hi
   have h0:i-L.length=0:=by
    by_cases h:i-L.length=0
    ·exact h
    ·rw[List.getElem?_eq_none (by simp;omega)]at hi;cases hi
   rw[h0]at hi
   injection hi with hi
   subst hi;exact⟨v,by rw[List.getElem?_append_right (by rw[H.ln];omega),H.ln,h0];rfl,hv,hs,hn,hc⟩
def YQ(h:Hp)(F:Nat→Prop)(cp:Nat)(L:List (List Int)):Prop:=
 ∃ks cm es k A vs,Qu h cp 0 [ks,.mp cm]∧F cp∧F cm∧h cm=some (.map es k)∧es.map wL=VP 0 L∧YP h F cp A ks vs L∧L.Nodup
theorem YQ.frame{h h':Hp}{F:Nat→Prop}{cp:Nat}{L:List (List Int)}(H:YQ h F cp L)(e: ∀c,F c→h' c=h c):YQ h' F cp L:=by
 obtain⟨ks,cm,es,k,A,vs,h1,h2,h3,h4,h5,h6,h7⟩:=H;exact⟨ks,cm,es,k,A,vs,h1.frame (e cp h2),h2,h3,by rw[e cm h3];exact h4,h5,h6.frame e,h7⟩
structure YR(F:Nat→Prop)(st st':St):Prop where
 fresh:Qh st'
 le:st.n≤st'.n
 Jx: ∀c,c<st.n→ ¬F c→st'.h.get c=st.h.get c
theorem Qt.U9{st st':St}(q:Qt st st')(F:Nat→Prop):YR F st st':=⟨q.fresh,q.le,fun c hc _=>q.Jx c hc⟩
theorem Mem.yW{st st1:St}{M0:Ut}(hf:Qh st)(hM:Mem st.h.get st.n [] st1 M0)(Rw:Ut)(hR: ∀c m l,(c,m,l)∈Rw→Qu st.h.get c m l)(hn:(Rw.map Prod.fst).Nodup):Mem st1.h.get st1.n ((Rw++M0).map Prod.fst) st1 (Rw++M0):=by
 refine Mem.DU hM.fresh (Rw++M0) (fun c m l hm=>?_) ?_
 ·rcases List.mem_append.1 hm with hm|hm
  ·exact(hR c m l hm).LY hf hM.LY Q0
  ·exact hM.row c m l hm
 ·rw[List.map_append];refine List.nodup_append.2 ⟨hn,hM.nodup,fun a ha b hb e=>?_⟩;subst e;obtain⟨⟨c,m,l⟩,h1,h2⟩:=List.mem_map.1 ha;obtain⟨⟨c',m',l'⟩,h3,h4⟩:=List.mem_map.1 hb;have k1:=(hR c m l h1).lt hf;simp only at h2 h4;rcases hM.own c' m' l' h3 with k2|k2
  ·omega
  ·cases k2
theorem YS.nodup{A:Ut}(h:YS A ks vs):(A.map Prod.fst).Nodup:=by cases h<;>simp
theorem Mem.mapped{h0:Hp}{n0:Nat}{X:List Nat}{st:St}{M:Ut}(hM:Mem h0 n0 X st M){cm n:Nat}{es:List (AV×AV×Nat)}(hc:st.h.get cm=some (.map es n))(s:List Int)(z:Int):
  Mem (VI st cm n es s z).h.get (VI st cm n es s z).n (M.map Prod.fst) (VI st cm n es s z) M∧YR (fun c=>c=cm) st (VI st cm n es s z):=by
 have hlt:cm<st.n:=Nat.lt_of_not_le fun hle=>by rw[hM.fresh cm hle]at hc;cases hc
 have hf:=Co hM.fresh hlt n es s z;refine⟨Mem.DU hf M (fun c m l hm=>?_) hM.nodup,hf,Nat.le_refl _,fun c hc' hne=>WS _ _ _ _ _ hne⟩;have hr:=hM.row c m l hm;exact Qu.frame hr (WS _ _ _ _ _ (Qu.RJ hr hc))
theorem Mem.wc{P:Program}{h0:Hp}{n0:Nat}{X:List Nat}{st:St}{L A B:Ut}(hM:Mem h0 n0 X st (L++(A++B)))(hA:YS A ks vs){t e:TypeId}(T:AK P t e 1){k2 c2 m2:Nat}(hk:(L++(A++B))[k2]? =some (c2,m2,[v]))(hb:vs.length+1≤1000000000):
  ∃ks' A' st1,Us P [t,t] ks (.sl c2 m2 0 1 1) st=some (ks',st1)∧YS A' ks' (vs++[v])∧Mem h0 n0 X st1 (L++(A'++B))∧ ∀c m l,(c,m,l)∈A'→(∃m l,(c,m,l)∈A)∨st.n≤c:=by
 have hr:=(hM.Ue hk).QH
 cases hA with
 |none=>
  have h1:=append_nil (st:=st) T (n:=1) (z2:=1) (Ja:=0) hr Q0 QA QA;refine⟨_,[(st.n,0,[v])],_,h1,?_,?_,fun c m l hm=>?_⟩
  ·exact .own (vs:=[v]) Q0
  ·have h2:=hM.alloc [v];have h3:=h2.perm (M':=L++([(st.n,0,[v])]++B)) (by simpa using(List.perm_middle (l₁:=L) (l₂:=B) (a:=(st.n,0,[v]))).symm)
   simpa using h3
  ·simp at hm;exact .inr Qe
 |own hb'=>
  rename_i c m;obtain⟨m',st1,h1,h2,_⟩:=hM.append (P:=P) T (k:=L.length) (c:=c) (m:=m) (len:=vs.length) (c2:=c2) (m2:=m2) (Ja:=0) (n:=1) (z2:=1) (l:=vs) (l2:=[v]) (GG L B (c,m,vs)) Q0 hr Q0 QA hb;rw[Gi]at h2;refine⟨_,[(c,m',vs++[v])],st1,h1,?_,by simpa using h2,fun c' m2 l hm=>?_⟩
  ·have:=YS.own (c:=c) (m:=m') (vs:=vs++[v]) (by simpa using hb);rw[List.length_append]at this;exact this
  ·simp at hm;exact .inl ⟨m,vs,by simp[hm.1]⟩
section
variable {P:Program} {G:Env} {N:Nat} {h0:Hp} {n0:Nat} {X:List Nat} {st:St} {L A B:Ut} {T:Tr AV} {ops rest:List Oper} {K:List (Nat×AV)} {R:Tr AV→St→Prop} {d:Nat} {ty:TypeId} {pos:String} {af:Array Edge}
theorem Ez{x y:Operand}{t e:TypeId}{c2 m2 k2:Nat}(hK:QG K T)(hM:Mem h0 n0 X st (L++(A++B)))(hA:YS A ks vs)(S:AK P t e 1)(hx:QE G K x=some ks)(hy:QE G K y=some (.sl c2 m2 0 1 1))(hk:(L++(A++B))[k2]? =some (c2,m2,[v]))(hb:vs.length+1≤1000000000)(hN:Nat.ble (d+1) N=true)
  (hn: ∀(ks':AV) A' T' st',QG ((d,ks')::K) T'→YS A' ks' (vs++[v])→(∀c m l,(c,m,l)∈A'→(∃m l,(c,m,l)∈A)∨st.n≤c)→Mem h0 n0 X st' (L++(A'++B))→WR P G N ops rest R T' st'):WR P G N ops (⟨some d,.call {callee:=.builtin .append,args:= #[x,y],argTypes:= #[t,t]},ty,pos,af,none⟩::rest) R T st:=by
 obtain⟨ks',A',st1,h1,h2,h3,h4⟩:=hM.wc hA S hk hb;exact Wv hK (Z3 rfl hx hy h1) (Nat.le_of_ble_eq_true hN) fun T' hT'=>hn ks' A' T' st1 hT' h2 h4 h3
end
theorem Eo.fY{n0:Nat}{A:Ut}{l:List Int}(h:Eo n0 A ks l):ks=.nils∨ ∃c m o n,ks=.sl c m o n 1:=by
 cases h with
 |none=>exact .inl rfl
 |own=>exact .inr ⟨_,_,_,_,rfl⟩
end
section
open Go

theorem JJ:tk Tryz.prog 199=.one:=by kernel_rfl
theorem V8:Yb Tryz.prog 199=some 1:=by kernel_rfl
theorem V3:Tryz.prog.underlying 199=some (.slice 4):=by kernel_rfl
theorem U8:JP Tryz.prog 199=some 1:=by kernel_rfl
theorem B8:tk Tryz.prog 201=.agg 3:=by kernel_rfl
theorem ZK:Yb Tryz.prog 201=some 3:=by kernel_rfl
theorem W9:zeroOf Tryz.prog 201=some [.int .i64 0,.nils,.nils]:=by kernel_rfl
theorem NA:Q5 Tryz.prog 201 0=some 0:=by kernel_rfl
theorem N9:Q5 Tryz.prog 201 1=some 1:=by kernel_rfl
theorem N8:Q5 Tryz.prog 201 2=some 2:=by kernel_rfl
theorem U0(l:List AV):Hz Tryz.prog 201 (.agg l) 2=Y4 Tryz.prog 167 l 2:=by kernel_rfl
theorem HT:Rk Tryz.prog 201 [(0,1),(1,1),(2,1)] [.int .i64 0,.nils,.nils]:=⟨⟨_,Tryz.underlying201,by kernel_rfl,by kernel_rfl⟩,W9⟩
theorem Hg:tk Tryz.prog 86=.one:=by kernel_rfl
theorem He:Tryz.prog.underlying 86=some (.pointer 123):=by kernel_rfl
theorem JV:tk Tryz.prog 124=.one:=by kernel_rfl
theorem ES:zeroOf Tryz.prog 124=some [.nilp]:=by kernel_rfl
theorem J1:Tryz.prog.underlying 124=some (.pointer 250):=by kernel_rfl
theorem W7:zeroOf Tryz.prog 123=some [.int .i64 0,.bool false]:=by kernel_rfl
theorem Hw:Q5 Tryz.prog 123 0=some 0:=by kernel_rfl
theorem Hv:Q5 Tryz.prog 123 1=some 1:=by kernel_rfl
theorem Kt:Rk Tryz.prog 123 [(0,1),(1,1)] [.int .i64 0,.bool false]:=⟨⟨_,Tryz.underlying123,by kernel_rfl,by kernel_rfl⟩,W7⟩
theorem EO:zeroOf Tryz.prog 296=some [.nilp,.nilp]:=by kernel_rfl
theorem Iy:Q5 Tryz.prog 296 0=some 0:=by kernel_rfl
theorem Ix:Q5 Tryz.prog 296 1=some 1:=by kernel_rfl
theorem Na:Rk Tryz.prog 296 [(0,1),(1,1)] [.nilp,.nilp]:=⟨⟨_,Tryz.underlying296,by kernel_rfl,by kernel_rfl⟩,EO⟩
theorem Je:tk Tryz.prog 205=.one:=by kernel_rfl
theorem Zf:Tryz.prog.underlying 205=some (.pointer 257):=by kernel_rfl
theorem HJ:zeroOf Tryz.prog 250=some [.nils,.nils,.nilp]:=by kernel_rfl
theorem N1:Q5 Tryz.prog 250 0=some 0:=by kernel_rfl
theorem N0:Q5 Tryz.prog 250 1=some 1:=by kernel_rfl
theorem Nz:Q5 Tryz.prog 250 2=some 2:=by kernel_rfl
theorem HS:Rk Tryz.prog 250 [(0,1),(1,1),(2,1)] [.nils,.nils,.nilp]:=⟨⟨_,Tryz.underlying250,by kernel_rfl,by kernel_rfl⟩,HJ⟩
theorem Ww:Tryz.prog.underlying 193=some (.slice 124):=by kernel_rfl
theorem YE:JP Tryz.prog 193=some 1:=by kernel_rfl
theorem JU:tk Tryz.prog 254=.one:=by kernel_rfl
theorem EV:Yb Tryz.prog 254=some 1:=by kernel_rfl
theorem ZA:Tryz.prog.underlying 254=some (.slice 328):=by kernel_rfl
theorem UR:JP Tryz.prog 254=some 1:=by kernel_rfl
theorem AY:tk Tryz.prog 255=.one:=by kernel_rfl
theorem AR:zeroOf Tryz.prog 257=some [.int .i64 0,.nils,.nilm]:=by kernel_rfl
theorem Li:Q5 Tryz.prog 257 0=some 0:=by kernel_rfl
theorem Lh:Q5 Tryz.prog 257 1=some 1:=by kernel_rfl
theorem Lg:Q5 Tryz.prog 257 2=some 2:=by kernel_rfl
theorem OT:Rk Tryz.prog 257 [(0,1),(1,1),(2,1)] [.int .i64 0,.nils,.nilm]:=⟨⟨_,Tryz.underlying257,by kernel_rfl,by kernel_rfl⟩,AR⟩
theorem Yi:tk Tryz.prog 328=.one:=by kernel_rfl
theorem W8:zeroOf Tryz.prog 328=some [.nili]:=by kernel_rfl
theorem EU:Yb Tryz.prog 278=some 3:=by kernel_rfl
theorem Vk:zeroOf Tryz.prog 278=some [.int .i64 0,.bool false,.int .i64 0]:=by kernel_rfl
theorem I7:Q5 Tryz.prog 278 0=some 0:=by kernel_rfl
theorem I6:Q5 Tryz.prog 278 1=some 1:=by kernel_rfl
theorem I5:Q5 Tryz.prog 278 2=some 2:=by kernel_rfl
theorem Nd:Rk Tryz.prog 278 [(0,1),(1,1),(2,1)] [.int .i64 0,.bool false,.int .i64 0]:=⟨⟨_,Tryz.underlying278,by kernel_rfl,by kernel_rfl⟩,Vk⟩
theorem SJ:tk Tryz.prog 282=.agg 3:=by kernel_rfl
theorem SP:Yb Tryz.prog 282=some 3:=by kernel_rfl
theorem NJ:zeroOf Tryz.prog 282=some [.int .i64 0,.int .i64 0,.int .i64 0]:=by kernel_rfl
theorem YA:tk Tryz.prog 286=.one:=by kernel_rfl
theorem WC:tk Tryz.prog 287=.one:=by kernel_rfl
theorem HP:Yb Tryz.prog 287=some 1:=by kernel_rfl
theorem ZJ:Tryz.prog.underlying 287=some (.slice 222):=by kernel_rfl
theorem Dd:JP Tryz.prog 287=some 2:=by kernel_rfl
theorem EP:zeroOf Tryz.prog 289=some [.nilm,.nils,.nilp]:=by kernel_rfl
theorem I1:Q5 Tryz.prog 289 0=some 0:=by kernel_rfl
theorem I0:Q5 Tryz.prog 289 1=some 1:=by kernel_rfl
theorem Iz:Q5 Tryz.prog 289 2=some 2:=by kernel_rfl
theorem Nb:Rk Tryz.prog 289 [(0,1),(1,1),(2,1)] [.nilm,.nils,.nilp]:=⟨⟨_,Tryz.underlying289,by kernel_rfl,by kernel_rfl⟩,EP⟩
theorem QN:tk Tryz.prog 301=.agg 3:=by kernel_rfl
theorem Ir:Yb Tryz.prog 301=some 3:=by kernel_rfl
theorem Wu:zeroOf Tryz.prog 301=some [.nilf,.int .i64 0,.int .i64 0]:=by kernel_rfl
theorem F9:Q5 Tryz.prog 301 0=some 0:=by kernel_rfl
theorem F8:Q5 Tryz.prog 301 1=some 1:=by kernel_rfl
theorem F7:Q5 Tryz.prog 301 2=some 2:=by kernel_rfl
theorem Is:Rk Tryz.prog 301 [(0,1),(1,1),(2,1)] [.nilf,.int .i64 0,.int .i64 0]:=⟨⟨_,Tryz.underlying301,by kernel_rfl,by kernel_rfl⟩,Wu⟩
theorem HF:zeroOf Tryz.prog 354=some [.int .i64 0]:=by kernel_rfl
theorem Nv:Q5 Tryz.prog 354 0=some 0:=by kernel_rfl
theorem BG:Rk Tryz.prog 354 [(0,1)] [.int .i64 0]:=⟨⟨_,Tryz.underlying354,by kernel_rfl,by kernel_rfl⟩,HF⟩
theorem BD:Yb Tryz.prog 356=some 3:=by kernel_rfl
theorem HI:zeroOf Tryz.prog 356=some [.int .i64 0,.int .i64 0,.int .i64 0]:=by kernel_rfl
theorem Ny:Q5 Tryz.prog 356 0=some 0:=by kernel_rfl
theorem Nx:Q5 Tryz.prog 356 1=some 1:=by kernel_rfl
theorem Nw:Q5 Tryz.prog 356 2=some 2:=by kernel_rfl
theorem BH:Rk Tryz.prog 356 [(0,1),(1,1),(2,1)] [.int .i64 0,.int .i64 0,.int .i64 0]:=⟨⟨_,Tryz.underlying356,by kernel_rfl,by kernel_rfl⟩,HI⟩
theorem ER:zeroOf Tryz.prog 338=some [.nilp,.nilf,.nilm]:=by kernel_rfl
theorem I4:Q5 Tryz.prog 338 0=some 0:=by kernel_rfl
theorem I3:Q5 Tryz.prog 338 1=some 1:=by kernel_rfl
theorem I2:Q5 Tryz.prog 338 2=some 2:=by kernel_rfl
theorem Nc:Rk Tryz.prog 338 [(0,1),(1,1),(2,1)] [.nilp,.nilf,.nilm]:=⟨⟨_,Tryz.underlying338,by kernel_rfl,by kernel_rfl⟩,ER⟩
theorem UP:AK Tryz.prog 199 4 1:=⟨V3,by kernel_rfl,⟨_,Ew,rfl⟩,by kernel_rfl,by decide,by decide+kernel⟩
theorem UJ:AK Tryz.prog 193 124 1:=⟨Ww,by kernel_rfl,⟨_,ES,rfl⟩,by kernel_rfl,by decide,by decide+kernel⟩
theorem Vm:AK Tryz.prog 254 328 1:=⟨ZA,by kernel_rfl,⟨_,W8,rfl⟩,by kernel_rfl,by decide,by decide+kernel⟩
theorem WH:AK Tryz.prog 287 222 2:=⟨ZJ,by kernel_rfl,⟨_,YU,rfl⟩,by kernel_rfl,by decide,by decide+kernel⟩
end
end Go.Proofs.YtildagdnomiahaaGreatDoor
