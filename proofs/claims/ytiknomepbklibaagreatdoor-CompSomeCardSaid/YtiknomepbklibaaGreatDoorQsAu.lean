/-
  Parts filled in one by one.
-/
import Derived.Test.YtiknomepbklibaaGreatDoorQsPoolX
set_option maxRecDepth 100000
set_option linter.unusedSectionVars false
set_option linter.unusedVariables false
namespace Go.Proofs.YtiknomepbklibaaGreatDoor
section
open Go

theorem JB{place:Nat→Option (Nat×Nat)}{i off:Nat}{v:AV}{ps:List (Nat×AV)}{l l1:List AV}(hp:place i=some (off,1))(hc:Qr v=true)(ho:Zn [v] off l=some l1):XP place ((i,v)::ps) l=XP place ps l1:=by
 rw[Hi,hp,Ql,Vz hc];show QJ true (ob (Zn [v] off l) _)=_;rw[ho];rfl
theorem Fi{place:Nat→Option (Nat×Nat)}{i off n:Nat}{v:AV}{ps:List (Nat×AV)}{l l1:List AV}(hp:place i=some (off,n))(hn:Nat.beq (Zh (Jn v)) n=true)(ho:Zn (Jn v) off l=some l1):XP place ((i,v)::ps) l=XP place ps l1:=by
 rw[Hi,hp,Ql];show QJ (Nat.beq (Zh (Jn v)) n) (ob (Zn (Jn v) off l) _)=_;rw[hn,ho];rfl
end
section
open Go Go.RowKit
variable {ks v:AV} {t:TypeId} {vs:List AV}

def vN(h h':Hp)(c:Nat):Prop:= ∀ro ms,h c=some (.row ro ms)→h' c=h c
structure ZF(h:Hp)(F:Nat→Prop)(cp:Nat)(A:U9)(ks:AV)(vs:List AV)(L:List (List Int)):Prop where
 acc:YS A ks vs
 row: ∀c m l,(c,m,l)∈A→Qx h c m l∧F c∧c≠cp
 ln:vs.length=L.length
 inn: ∀(i:Nat) (s:List Int),L[i]? =some s→ ∃v,vs[i]? =some v∧Jg h [] 1 (zC s) v∧X5 s∧(v=.nils∨ ∃c m o n,v=.sl c m o n 1)∧ ∀c m o n y,v=.sl c m o n y→F c∧c≠cp∧ ∀m' l',(c,m',l')∉A
theorem ZF.frame{h h':Hp}{F:Nat→Prop}{cp:Nat}{A:U9}{ks:AV}{vs:List AV}{L:List (List Int)}(H:ZF h F cp A ks vs L)(e: ∀c,F c→h' c=h c):ZF h' F cp A ks vs L:=
 ⟨H.acc,fun c m l hm=>by
  obtain⟨h1,h2,h3⟩:=H.row c m l hm
  exact⟨h1.frame (e c h2),h2,h3⟩,H.ln,fun i s hi=>by
  obtain⟨v,h1,h2,h3,h4,h5⟩:=H.inn i s hi
  exact⟨v,h1,h2.frame fun c m o n y e'=>e c (h5 c m o n y e').1,h3,h4,h5⟩⟩
theorem ZF.more{h:Hp}{F F':Nat→Prop}{cp:Nat}{A:U9}{L:List (List Int)}(H:ZF h F cp A ks vs L)(e: ∀c,F c→F' c):ZF h F' cp A ks vs L:=
 ⟨H.acc,fun c m l hm=>by
  obtain⟨h1,h2,h3⟩:=H.row c m l hm
  exact⟨h1,e c h2,h3⟩,H.ln,fun i s hi=>by
  obtain⟨v,h1,h2,h3,h4,h5⟩:=H.inn i s hi
  exact⟨v,h1,h2,h3,h4,fun c m o n y e'=>by
   obtain⟨k1,k2⟩:=h5 c m o n y e'
   exact⟨e c k1,k2⟩⟩⟩
theorem ZF.rd{h:Hp}{F:Nat→Prop}{cp:Nat}{A:U9}{ks:AV}{vs:List AV}{L:List (List Int)}(H:ZF h F cp A ks vs L):Jg h [] 1 (vs.map fun v=>[v]) ks:=H.acc.rd fun c m l hm=>(H.row c m l hm).1
theorem ZF.len{h:Hp}{F:Nat→Prop}{cp:Nat}{A:U9}{ks:AV}{vs:List AV}{L:List (List Int)}(H:ZF h F cp A ks vs L):YD ks=some L.length:=by rw[←H.ln];exact H.acc.len
theorem ZF.snoc{h h':Hp}{F F':Nat→Prop}{cp:Nat}{A A':U9}{ks':AV}{L:List (List Int)}(H:ZF h F cp A ks vs L){s:List Int}(hA:YS A' ks' (vs++[v]))(hr: ∀c m l,(c,m,l)∈A'→Qx h' c m l∧F' c∧c≠cp∧((∃m l,(c,m,l)∈A)∨ ¬F c))(hF: ∀c,F c→F' c)
  (ho: ∀c,F c→c≠cp→(∀m l,(c,m,l)∉A)→vN h h' c) (hv:Jg h' [] 1 (zC s) v) (hs:X5 s) (hn:v=.nils∨ ∃c m o n,v=.sl c m o n 1) (hc: ∀c m o n y,v=.sl c m o n y→F' c∧c≠cp∧ ∀m' l',(c,m',l')∉A'):ZF h' F' cp A' ks' (vs++[v]) (L++[s]):=by
 refine⟨hA,fun c m l hm=>?_,by rw[List.length_append,List.length_append,H.ln];rfl,fun i x hi=>?_⟩
 ·obtain⟨h1,h2,h3,_⟩:=hr c m l hm;exact⟨h1,h2,h3⟩
 ·by_cases hl:i<L.length
  ·rw[List.getElem?_append_left hl]at hi;obtain⟨u,h1,h2,h3,h4,h5⟩:=H.inn i x hi;refine⟨u,by rw[List.getElem?_append_left (by rw[H.ln];exact hl)];exact h1,?_,h3,h4,fun c m o n y e=>?_⟩
   ·exact h2.frame fun c m o n y e=>by
     obtain⟨k1,k2,k3⟩:=h5 c m o n y e;obtain⟨_,cells,⟨ro,e1,vs',ms,h6,_⟩,_⟩:=h2.alive c m o n y e;exact ho c k1 k2 k3 ro ms h6
   ·obtain⟨k1,k2,k3⟩:=h5 c m o n y e;refine⟨hF c k1,k2,fun m' l' hm=>?_⟩;obtain⟨_,_,_,h6⟩:=hr c m' l' hm;rcases h6 with⟨m2,l2,h6⟩|h6
    ·exact k3 m2 l2 h6
    ·exact h6 k1
  ·rw[List.getElem?_append_right Qc]at hi
   have h0:i-L.length=0:=by
    by_cases h:i-L.length=0
    ·exact h
    ·rw[List.getElem?_eq_none (by simp;omega)]at hi;cases hi
   rw[h0]at hi
   injection hi with hi
   subst hi;exact⟨v,by rw[List.getElem?_append_right (by rw[H.ln];omega),H.ln,h0];rfl,hv,hs,hn,hc⟩
def ZG(h:Hp)(F:Nat→Prop)(cp:Nat)(L:List (List Int)):Prop:=
 ∃ks cm es k A vs,Qx h cp 0 [ks,.mp cm]∧F cp∧F cm∧h cm=some (.map es k)∧es.map wM=WX 0 L∧ZF h F cp A ks vs L∧L.Nodup
theorem ZG.frame{h h':Hp}{F:Nat→Prop}{cp:Nat}{L:List (List Int)}(H:ZG h F cp L)(e: ∀c,F c→h' c=h c):ZG h' F cp L:=by
 obtain⟨ks,cm,es,k,A,vs,h1,h2,h3,h4,h5,h6,h7⟩:=H;exact⟨ks,cm,es,k,A,vs,h1.frame (e cp h2),h2,h3,by rw[e cm h3];exact h4,h5,h6.frame e,h7⟩
structure UQ(F:Nat→Prop)(st st':St):Prop where
 fresh:Qi st'
 le:st.n≤st'.n
 J9: ∀c,c<st.n→ ¬F c→st'.h.get c=st.h.get c
theorem Qt.JM{st st':St}(q:Qt st st')(F:Nat→Prop):UQ F st st':=⟨q.fresh,q.le,fun c hc _=>q.J9 c hc⟩
theorem Mem.zM{st st1:St}{M0:U9}(hf:Qi st)(hM:Mem st.h.get st.n [] st1 M0)(Rw:U9)(hR: ∀c m l,(c,m,l)∈Rw→Qx st.h.get c m l)(hn:(Rw.map Prod.fst).Nodup):Mem st1.h.get st1.n ((Rw++M0).map Prod.fst) st1 (Rw++M0):=by
 refine Mem.Rf hM.fresh (Rw++M0) (fun c m l hm=>?_) ?_
 ·rcases List.mem_append.1 hm with hm|hm
  ·exact(hR c m l hm).OB hf hM.OB Q4
  ·exact hM.row c m l hm
 ·rw[List.map_append];refine List.nodup_append.2 ⟨hn,hM.nodup,fun a ha b hb e=>?_⟩;subst e;obtain⟨⟨c,m,l⟩,h1,h2⟩:=List.mem_map.1 ha;obtain⟨⟨c',m',l'⟩,h3,h4⟩:=List.mem_map.1 hb;have k1:=(hR c m l h1).lt hf;simp only at h2 h4;rcases hM.own c' m' l' h3 with k2|k2
  ·omega
  ·cases k2
theorem YS.nodup{A:U9}(h:YS A ks vs):(A.map Prod.fst).Nodup:=by cases h<;>simp
theorem Mem.mapped{h0:Hp}{n0:Nat}{X:List Nat}{st:St}{M:U9}(hM:Mem h0 n0 X st M){cm n:Nat}{es:List (AV×AV×Nat)}(hc:st.h.get cm=some (.map es n))(s:List Int)(z:Int):
  Mem (WO st cm n es s z).h.get (WO st cm n es s z).n (M.map Prod.fst) (WO st cm n es s z) M∧UQ (fun c=>c=cm) st (WO st cm n es s z):=by
 have hlt:cm<st.n:=Nat.lt_of_not_le fun hle=>by rw[hM.fresh cm hle]at hc;cases hc
 have hf:=DD hM.fresh hlt n es s z;refine⟨Mem.Rf hf M (fun c m l hm=>?_) hM.nodup,hf,Nat.le_refl _,fun c hc' hne=>A3 _ _ _ _ _ hne⟩;have hr:=hM.row c m l hm;exact Qx.frame hr (A3 _ _ _ _ _ (Qx.Th hr hc))
theorem Mem.wq{P:Program}{h0:Hp}{n0:Nat}{X:List Nat}{st:St}{L A B:U9}(hM:Mem h0 n0 X st (L++(A++B)))(hA:YS A ks vs){e:TypeId}(T:FU P t e 1){k2 c2 m2:Nat}(hk:(L++(A++B))[k2]? =some (c2,m2,[v]))(hb:vs.length+1≤1000000000):
  ∃ks' A' st1,Yj P [t,t] ks (.sl c2 m2 0 1 1) st=some (ks',st1)∧YS A' ks' (vs++[v])∧Mem h0 n0 X st1 (L++(A'++B))∧ ∀c m l,(c,m,l)∈A'→(∃m l,(c,m,l)∈A)∨st.n≤c:=by
 have hr:=(hM.Ya hk).Jb
 cases hA with
 |none=>
  have h1:=append_nil (st:=st) T (n:=1) (z2:=1) (J2:=0) hr Q4 Q8 Q8;refine⟨_,[(st.n,0,[v])],_,h1,?_,?_,fun c m l hm=>?_⟩
  ·exact .own (vs:=[v]) Q4
  ·have h2:=hM.alloc [v];have h3:=h2.perm (M':=L++([(st.n,0,[v])]++B)) (by simpa using(List.perm_middle (l₁:=L) (l₂:=B) (a:=(st.n,0,[v]))).symm)
   simpa using h3
  ·simp at hm;exact .inr Qc
 |own hb'=>
  rename_i c m;obtain⟨m',st1,h1,h2,_⟩:=hM.append (P:=P) T (k:=L.length) (c:=c) (m:=m) (len:=vs.length) (c2:=c2) (m2:=m2) (J2:=0) (n:=1) (z2:=1) (l:=vs) (l2:=[v]) (Cl L B (c,m,vs)) Q4 hr Q4 Q8 hb;rw[BE]at h2;refine⟨_,[(c,m',vs++[v])],st1,h1,?_,by simpa using h2,fun c' m2 l hm=>?_⟩
  ·have:=YS.own (c:=c) (m:=m') (vs:=vs++[v]) (by simpa using hb);rw[List.length_append]at this;exact this
  ·simp at hm;exact .inl ⟨m,vs,by simp[hm.1]⟩
section
variable {P:Program} {G:Env} {N:Nat} {h0:Hp} {n0:Nat} {X:List Nat} {st:St} {L A B:U9} {T:Tr AV} {ops rest:List Oper} {K:List (Nat×AV)} {R:Tr AV→St→Prop} {d:Nat} {ty:TypeId} {pos:String} {af:Array Edge}
theorem YL{x y:Operand}{e:TypeId}{c2 m2 k2:Nat}(hK:QS K T)(hM:Mem h0 n0 X st (L++(A++B)))(hA:YS A ks vs)(S:FU P t e 1)(hx:QT G K x=some ks)(hy:QT G K y=some (.sl c2 m2 0 1 1))(hk:(L++(A++B))[k2]? =some (c2,m2,[v]))(hb:vs.length+1≤1000000000)(hN:Nat.ble (d+1) N=true)
  (hn: ∀(ks':AV) A' T' st',QS ((d,ks')::K) T'→YS A' ks' (vs++[v])→(∀c m l,(c,m,l)∈A'→(∃m l,(c,m,l)∈A)∨st.n≤c)→Mem h0 n0 X st' (L++(A'++B))→WR P G N ops rest R T' st'):WR P G N ops (⟨some d,.call {callee:=.builtin .append,args:= #[x,y],argTypes:= #[t,t]},ty,pos,af,none⟩::rest) R T st:=by
 obtain⟨ks',A',st1,h1,h2,h3,h4⟩:=hM.wq hA S hk hb;exact EF hK (ZL rfl hx hy h1) (Nat.le_of_ble_eq_true hN) fun T' hT'=>hn ks' A' T' st1 hT' h2 h4 h3
theorem AR{sn:List St}{i:Nat}{rr:List (Nat×Nat)}{x:Operand}{lo hi:Option Operand}{l:List Int}{a b:Nat}(ho:ops[i]? =some ⟨some d,.slice t x lo hi none,ty,pos,af,none⟩)(hK:QS K T)(he:Ue P t=some 1)(r:Jg st.h.get [] 1 (zC l) v)(hs:v=.nils∨ ∃c m o n,v=.sl c m o n 1)(hx:QT G K x=some v)(hl:YP (QT G K) lo=some a)(hh:YQ (QT G K) hi l.length=some b)(h1:a≤b)(h2:b≤l.length)(hN:Nat.ble (d+1) N=true)
  (hn: ∀(v2:AV) T',QS ((d,v2)::K) T'→Jg st.h.get [] 1 (zC ((l.drop a).take (b-a))) v2→Qr v2=true→WD P G N ops (rr.map (Yo ops)) R T' st sn):WD P G N ops (((i,0)::rr).map (Yo ops)) R T st sn:=by
 obtain⟨v2,h3,h4,h5⟩:=Mz (G:=G) (K:=K) (st:=st) (lo:=lo) (hi:=hi) he r hs hx hl hh h1 h2;exact Gt ho hK h3 rfl (Nat.le_of_ble_eq_true hN) fun T' hT'=>hn v2 T' hT' h4 h5
end
theorem Acc.Ti{n0:Nat}{A:U9}{ls:List (List AV)}(h:Acc n0 1 A ks ls):ks=.nils∨ ∃c m o n,ks=.sl c m o n 1:=by
 cases h with
 |none=>exact .inl rfl
 |own=>exact .inr ⟨_,_,_,_,rfl⟩
theorem AN.Ti{n0:Nat}{A:U9}{l:List Int}(h:AN n0 A ks l):ks=.nils∨ ∃c m o n,ks=.sl c m o n 1:=by
 cases h with
 |none=>exact .inl rfl
 |own=>exact .inr ⟨_,_,_,_,rfl⟩
end
section
open Go

theorem Um:tk Tryz.prog 22=.one:=by kernel_rfl
theorem UG:YM Tryz.prog 22=some 1:=by kernel_rfl
theorem Yb:Tryz.prog.underlying 22=some (.slice 4):=by kernel_rfl
theorem J4:Ue Tryz.prog 22=some 1:=by kernel_rfl
theorem Jj:tk Tryz.prog 25=.agg 3:=by kernel_rfl
theorem Q9:YM Tryz.prog 25=some 3:=by kernel_rfl
theorem Y5:zeroOf Tryz.prog 25=some [.int .i64 0,.nils,.nils]:=by kernel_rfl
theorem Gg:QH Tryz.prog 25 0=some 0:=by kernel_rfl
theorem Gf:QH Tryz.prog 25 1=some 1:=by kernel_rfl
theorem Ge:QH Tryz.prog 25 2=some 2:=by kernel_rfl
theorem Zw(l:List AV):Kc Tryz.prog 25 (.agg l) 2=Vi Tryz.prog 23 l 2:=by kernel_rfl
theorem VV:CF Tryz.prog 25 [(0,1),(1,1),(2,1)] [.int .i64 0,.nils,.nils]:=⟨⟨_,Tryz.underlying25,by kernel_rfl,by kernel_rfl⟩,Y5⟩
theorem IE:tk Tryz.prog 27=.one:=by kernel_rfl
theorem IC:Tryz.prog.underlying 27=some (.pointer 65):=by kernel_rfl
theorem UF:tk Tryz.prog 29=.one:=by kernel_rfl
theorem FH:zeroOf Tryz.prog 29=some [.nilp]:=by kernel_rfl
theorem JX:Tryz.prog.underlying 29=some (.pointer 86):=by kernel_rfl
theorem Xr:tk Tryz.prog 36=.one:=by kernel_rfl
theorem EU:zeroOf Tryz.prog 65=some [.int .i64 0,.bool false]:=by kernel_rfl
theorem Ka:QH Tryz.prog 65 0=some 0:=by kernel_rfl
theorem IZ:QH Tryz.prog 65 1=some 1:=by kernel_rfl
theorem LV:CF Tryz.prog 65 [(0,1),(1,1)] [.int .i64 0,.bool false]:=⟨⟨_,Tryz.underlying65,by kernel_rfl,by kernel_rfl⟩,EU⟩
theorem FE:zeroOf Tryz.prog 71=some [.nilp,.nilp]:=by kernel_rfl
theorem Ld:QH Tryz.prog 71 0=some 0:=by kernel_rfl
theorem Lc:QH Tryz.prog 71 1=some 1:=by kernel_rfl
theorem OF:CF Tryz.prog 71 [(0,1),(1,1)] [.nilp,.nilp]:=⟨⟨_,Tryz.underlying71,by kernel_rfl,by kernel_rfl⟩,FE⟩
theorem V4:tk Tryz.prog 77=.agg 2:=by kernel_rfl
theorem Z4:zeroOf Tryz.prog 77=some [.int .i64 0,.int .i64 0]:=by kernel_rfl
theorem AA:QH Tryz.prog 77 0=some 0:=by kernel_rfl
theorem A9:QH Tryz.prog 77 1=some 1:=by kernel_rfl
theorem FZ:CF Tryz.prog 77 [(0,1),(1,1)] [.int .i64 0,.int .i64 0]:=⟨⟨_,Tryz.underlying77,by kernel_rfl,by kernel_rfl⟩,Z4⟩
theorem Ul:Tryz.prog.underlying 78=some (.slice 77):=by kernel_rfl
theorem Uo:Ue Tryz.prog 78=some 2:=by kernel_rfl
theorem JJ:tk Tryz.prog 84=.one:=by kernel_rfl
theorem ZU:Tryz.prog.underlying 84=some (.pointer 125):=by kernel_rfl
theorem Kt:zeroOf Tryz.prog 86=some [.nils,.nils,.nilp]:=by kernel_rfl
theorem OX:QH Tryz.prog 86 0=some 0:=by kernel_rfl
theorem OW:QH Tryz.prog 86 1=some 1:=by kernel_rfl
theorem OV:QH Tryz.prog 86 2=some 2:=by kernel_rfl
theorem Ky:CF Tryz.prog 86 [(0,1),(1,1),(2,1)] [.nils,.nils,.nilp]:=⟨⟨_,Tryz.underlying86,by kernel_rfl,by kernel_rfl⟩,Kt⟩
theorem Vd:zeroOf Tryz.prog 105=some [.int .i64 0,.bool false]:=by kernel_rfl
theorem ES:QH Tryz.prog 105 0=some 0:=by kernel_rfl
theorem ER:QH Tryz.prog 105 1=some 1:=by kernel_rfl
theorem F0:CF Tryz.prog 105 [(0,1),(1,1)] [.int .i64 0,.bool false]:=⟨⟨_,Tryz.underlying105,by kernel_rfl,by kernel_rfl⟩,Vd⟩
theorem ZR:zeroOf Tryz.prog 109=some [.nilp,.bool false,.bool false]:=by kernel_rfl
theorem Wt:QH Tryz.prog 109 0=some 0:=by kernel_rfl
theorem Ws:QH Tryz.prog 109 1=some 1:=by kernel_rfl
theorem Wr:QH Tryz.prog 109 2=some 2:=by kernel_rfl
theorem Ei:CF Tryz.prog 109 [(0,1),(1,1),(2,1)] [.nilp,.bool false,.bool false]:=⟨⟨_,Tryz.underlying109,by kernel_rfl,by kernel_rfl⟩,ZR⟩
theorem EG:Tryz.prog.underlying 111=some (.slice 29):=by kernel_rfl
theorem Z2:Ue Tryz.prog 111=some 1:=by kernel_rfl
theorem UE:tk Tryz.prog 122=.one:=by kernel_rfl
theorem FK:YM Tryz.prog 122=some 1:=by kernel_rfl
theorem X7:Tryz.prog.underlying 122=some (.slice 132):=by kernel_rfl
theorem YH:Ue Tryz.prog 122=some 1:=by kernel_rfl
theorem HA:tk Tryz.prog 123=.one:=by kernel_rfl
theorem H6:zeroOf Tryz.prog 125=some [.int .i64 0,.nils,.nilm]:=by kernel_rfl
theorem NR:QH Tryz.prog 125 0=some 0:=by kernel_rfl
theorem NQ:QH Tryz.prog 125 1=some 1:=by kernel_rfl
theorem NP:QH Tryz.prog 125 2=some 2:=by kernel_rfl
theorem BC:CF Tryz.prog 125 [(0,1),(1,1),(2,1)] [.int .i64 0,.nils,.nilm]:=⟨⟨_,Tryz.underlying125,by kernel_rfl,by kernel_rfl⟩,H6⟩
theorem YV:tk Tryz.prog 132=.one:=by kernel_rfl
theorem EV:zeroOf Tryz.prog 132=some [.nili]:=by kernel_rfl
theorem FJ:YM Tryz.prog 164=some 3:=by kernel_rfl
theorem Wi:zeroOf Tryz.prog 164=some [.int .i64 0,.bool false,.int .i64 0]:=by kernel_rfl
theorem Lm:QH Tryz.prog 164 0=some 0:=by kernel_rfl
theorem Ll:QH Tryz.prog 164 1=some 1:=by kernel_rfl
theorem Lk:QH Tryz.prog 164 2=some 2:=by kernel_rfl
theorem OI:CF Tryz.prog 164 [(0,1),(1,1),(2,1)] [.int .i64 0,.bool false,.int .i64 0]:=⟨⟨_,Tryz.underlying164,by kernel_rfl,by kernel_rfl⟩,Wi⟩
theorem TW:tk Tryz.prog 168=.agg 3:=by kernel_rfl
theorem TY:YM Tryz.prog 168=some 3:=by kernel_rfl
theorem Gr:zeroOf Tryz.prog 168=some [.int .i64 0,.int .i64 0,.int .i64 0]:=by kernel_rfl
theorem Zz:tk Tryz.prog 172=.one:=by kernel_rfl
theorem EZ:tk Tryz.prog 173=.one:=by kernel_rfl
theorem Kw:YM Tryz.prog 173=some 1:=by kernel_rfl
theorem XF:Tryz.prog.underlying 173=some (.slice 177):=by kernel_rfl
theorem Pp:Ue Tryz.prog 173=some 2:=by kernel_rfl
theorem FF:zeroOf Tryz.prog 175=some [.nilm,.nils,.nilp]:=by kernel_rfl
theorem Lg:QH Tryz.prog 175 0=some 0:=by kernel_rfl
theorem Lf:QH Tryz.prog 175 1=some 1:=by kernel_rfl
theorem Le:QH Tryz.prog 175 2=some 2:=by kernel_rfl
theorem OG:CF Tryz.prog 175 [(0,1),(1,1),(2,1)] [.nilm,.nils,.nilp]:=⟨⟨_,Tryz.underlying175,by kernel_rfl,by kernel_rfl⟩,FF⟩
theorem Jr:tk Tryz.prog 181=.agg 3:=by kernel_rfl
theorem KX:YM Tryz.prog 181=some 3:=by kernel_rfl
theorem EE:zeroOf Tryz.prog 181=some [.nilf,.int .i64 0,.int .i64 0]:=by kernel_rfl
theorem Iq:QH Tryz.prog 181 0=some 0:=by kernel_rfl
theorem Ip:QH Tryz.prog 181 1=some 1:=by kernel_rfl
theorem Io:QH Tryz.prog 181 2=some 2:=by kernel_rfl
theorem KY:CF Tryz.prog 181 [(0,1),(1,1),(2,1)] [.nilf,.int .i64 0,.int .i64 0]:=⟨⟨_,Tryz.underlying181,by kernel_rfl,by kernel_rfl⟩,EE⟩
theorem Kr:zeroOf Tryz.prog 193=some [.int .i64 0]:=by kernel_rfl
theorem OR:QH Tryz.prog 193 0=some 0:=by kernel_rfl
theorem Da:CF Tryz.prog 193 [(0,1)] [.int .i64 0]:=⟨⟨_,Tryz.underlying193,by kernel_rfl,by kernel_rfl⟩,Kr⟩
theorem CT:YM Tryz.prog 195=some 3:=by kernel_rfl
theorem Ks:zeroOf Tryz.prog 195=some [.int .i64 0,.int .i64 0,.int .i64 0]:=by kernel_rfl
theorem OU:QH Tryz.prog 195 0=some 0:=by kernel_rfl
theorem OT:QH Tryz.prog 195 1=some 1:=by kernel_rfl
theorem OS:QH Tryz.prog 195 2=some 2:=by kernel_rfl
theorem Db:CF Tryz.prog 195 [(0,1),(1,1),(2,1)] [.int .i64 0,.int .i64 0,.int .i64 0]:=⟨⟨_,Tryz.underlying195,by kernel_rfl,by kernel_rfl⟩,Ks⟩
theorem FG:zeroOf Tryz.prog 211=some [.nilp,.nilf,.nilm]:=by kernel_rfl
theorem Lj:QH Tryz.prog 211 0=some 0:=by kernel_rfl
theorem Li:QH Tryz.prog 211 1=some 1:=by kernel_rfl
theorem Lh:QH Tryz.prog 211 2=some 2:=by kernel_rfl
theorem OH:CF Tryz.prog 211 [(0,1),(1,1),(2,1)] [.nilp,.nilf,.nilm]:=⟨⟨_,Tryz.underlying211,by kernel_rfl,by kernel_rfl⟩,FG⟩
theorem J3:FU Tryz.prog 22 4 1:=⟨Yb,by kernel_rfl,⟨_,Vk,rfl⟩,by kernel_rfl,by decide,by decide+kernel⟩
theorem XH:FU Tryz.prog 78 77 2:=⟨Ul,by kernel_rfl,⟨_,Z4,rfl⟩,by kernel_rfl,by decide,by decide+kernel⟩
theorem YC:FU Tryz.prog 111 29 1:=⟨EG,by kernel_rfl,⟨_,FH,rfl⟩,by kernel_rfl,by decide,by decide+kernel⟩
theorem Wm:FU Tryz.prog 122 132 1:=⟨X7,by kernel_rfl,⟨_,EV,rfl⟩,by kernel_rfl,by decide,by decide+kernel⟩
theorem Af:FU Tryz.prog 173 177 2:=⟨XF,by kernel_rfl,⟨_,ZI,rfl⟩,by kernel_rfl,by decide,by decide+kernel⟩
end
section
open Go Go.RowKit
variable {F:Tr AV→St→Prop} {Y:List Nat} {af2:Array Edge} {cs:List AV} {d2 i id jj n t1 tt:Nat} {f:FuncId} {g:Operand} {ks:AV} {ls:List (List AV)} {pol:Bool} {pos2:String} {sn:List St} {st1:St} {t' ty2:TypeId} {w:List (Nat×Nat)}

class FO(P:Program)(t:TypeId)(f:Nat)(o:outParam Nat):Prop where
 h:QH P t f=some o
class T1(P:Program)(t:TypeId):Prop where
 h:tk P t=.one
class TA(P:Program)(t:TypeId)(n:outParam Nat):Prop where
 h:tk P t=.agg n
class ZE(P:Program)(t:TypeId)(l:outParam (List AV)):Prop where
 h:zeroOf P t=some l
class SZ(P:Program)(t:TypeId)(n:outParam Nat):Prop where
 h:YM P t=some n
class UL(P:Program)(t:TypeId):Prop where
 h: ∃e,P.underlying t=some (.slice e)
class ST(P:Program)(t:TypeId)(tbl:outParam (List (Nat×Nat)))(z:outParam (List AV)):Prop where
 h:CF P t tbl z
class SL(P:Program)(t:TypeId)(e:outParam TypeId)(z:outParam Nat):Prop where
 h:FU P t e z
instance :FO Tryz.prog 44 0 0:=⟨Gd⟩
instance :FO Tryz.prog 44 1 1:=⟨Gc⟩
instance :FO Tryz.prog 44 2 2:=⟨Gb⟩
instance :FO Tryz.prog 44 3 3:=⟨Ga⟩
instance :FO Tryz.prog 44 4 4:=⟨OZ⟩
instance :FO Tryz.prog 44 5 5:=⟨OY⟩
instance :FO Tryz.prog 25 0 0:=⟨Gg⟩
instance :FO Tryz.prog 25 1 1:=⟨Gf⟩
instance :FO Tryz.prog 25 2 2:=⟨Ge⟩
instance :FO Tryz.prog 65 0 0:=⟨Ka⟩
instance :FO Tryz.prog 65 1 1:=⟨IZ⟩
instance :FO Tryz.prog 71 0 0:=⟨Ld⟩
instance :FO Tryz.prog 71 1 1:=⟨Lc⟩
instance :FO Tryz.prog 77 0 0:=⟨AA⟩
instance :FO Tryz.prog 77 1 1:=⟨A9⟩
instance :FO Tryz.prog 86 0 0:=⟨OX⟩
instance :FO Tryz.prog 86 1 1:=⟨OW⟩
instance :FO Tryz.prog 86 2 2:=⟨OV⟩
instance :FO Tryz.prog 105 0 0:=⟨ES⟩
instance :FO Tryz.prog 105 1 1:=⟨ER⟩
instance :FO Tryz.prog 109 0 0:=⟨Wt⟩
instance :FO Tryz.prog 109 1 1:=⟨Ws⟩
instance :FO Tryz.prog 109 2 2:=⟨Wr⟩
instance :FO Tryz.prog 125 0 0:=⟨NR⟩
instance :FO Tryz.prog 125 1 1:=⟨NQ⟩
instance :FO Tryz.prog 125 2 2:=⟨NP⟩
instance :FO Tryz.prog 164 0 0:=⟨Lm⟩
instance :FO Tryz.prog 164 1 1:=⟨Ll⟩
instance :FO Tryz.prog 164 2 2:=⟨Lk⟩
instance :FO Tryz.prog 175 0 0:=⟨Lg⟩
instance :FO Tryz.prog 175 1 1:=⟨Lf⟩
instance :FO Tryz.prog 175 2 2:=⟨Le⟩
instance :FO Tryz.prog 181 0 0:=⟨Iq⟩
instance :FO Tryz.prog 181 1 1:=⟨Ip⟩
instance :FO Tryz.prog 181 2 2:=⟨Io⟩
instance :FO Tryz.prog 193 0 0:=⟨OR⟩
instance :FO Tryz.prog 195 0 0:=⟨OU⟩
instance :FO Tryz.prog 195 1 1:=⟨OT⟩
instance :FO Tryz.prog 195 2 2:=⟨OS⟩
instance :FO Tryz.prog 211 0 0:=⟨Lj⟩
instance :FO Tryz.prog 211 1 1:=⟨Li⟩
instance :FO Tryz.prog 211 2 2:=⟨Lh⟩
instance :T1 Tryz.prog 22:=⟨Um⟩
instance :TA Tryz.prog 25 3:=⟨Jj⟩
instance :T1 Tryz.prog 27:=⟨IE⟩
instance :T1 Tryz.prog 29:=⟨UF⟩
instance :T1 Tryz.prog 36:=⟨Xr⟩
instance :TA Tryz.prog 77 2:=⟨V4⟩
instance :T1 Tryz.prog 84:=⟨JJ⟩
instance :T1 Tryz.prog 122:=⟨UE⟩
instance :T1 Tryz.prog 123:=⟨HA⟩
instance :T1 Tryz.prog 132:=⟨YV⟩
instance :TA Tryz.prog 168 3:=⟨TW⟩
instance :T1 Tryz.prog 172:=⟨Zz⟩
instance :T1 Tryz.prog 173:=⟨EZ⟩
instance :TA Tryz.prog 181 3:=⟨Jr⟩
instance :ZE Tryz.prog 25 [.int .i64 0,.nils,.nils]:=⟨Y5⟩
instance :ZE Tryz.prog 29 [.nilp]:=⟨FH⟩
instance :ZE Tryz.prog 65 [.int .i64 0,.bool false]:=⟨EU⟩
instance :ZE Tryz.prog 71 [.nilp,.nilp]:=⟨FE⟩
instance :ZE Tryz.prog 77 [.int .i64 0,.int .i64 0]:=⟨Z4⟩
instance :ZE Tryz.prog 86 [.nils,.nils,.nilp]:=⟨Kt⟩
instance :ZE Tryz.prog 105 [.int .i64 0,.bool false]:=⟨Vd⟩
instance :ZE Tryz.prog 109 [.nilp,.bool false,.bool false]:=⟨ZR⟩
instance :ZE Tryz.prog 125 [.int .i64 0,.nils,.nilm]:=⟨H6⟩
instance :ZE Tryz.prog 132 [.nili]:=⟨EV⟩
instance :ZE Tryz.prog 164 [.int .i64 0,.bool false,.int .i64 0]:=⟨Wi⟩
instance :ZE Tryz.prog 168 [.int .i64 0,.int .i64 0,.int .i64 0]:=⟨Gr⟩
instance :ZE Tryz.prog 175 [.nilm,.nils,.nilp]:=⟨FF⟩
instance :ZE Tryz.prog 181 [.nilf,.int .i64 0,.int .i64 0]:=⟨EE⟩
instance :ZE Tryz.prog 193 [.int .i64 0]:=⟨Kr⟩
instance :ZE Tryz.prog 195 [.int .i64 0,.int .i64 0,.int .i64 0]:=⟨Ks⟩
instance :ZE Tryz.prog 211 [.nilp,.nilf,.nilm]:=⟨FG⟩
instance :T1 Tryz.prog 3:=⟨Qn⟩
instance :T1 Tryz.prog 4:=⟨J6⟩
instance :T1 Tryz.prog 9:=⟨ID⟩
instance :T1 Tryz.prog 42:=⟨X8⟩
instance :TA Tryz.prog 44 6:=⟨QW⟩
instance :TA Tryz.prog 177 2:=⟨Gv⟩
instance :T1 Tryz.prog 54:=⟨Ja⟩
instance :ZE Tryz.prog 3 [.int .i64 0]:=⟨Xv⟩
instance :ZE Tryz.prog 4 [.bool false]:=⟨Vk⟩
instance :ZE Tryz.prog 9 [.str []]:=⟨Gq⟩
instance :ZE Tryz.prog 44 [.str [],.int .i64 0,.int .i64 0,.int .i64 0,.int .i64 0,.nils]:=⟨VT⟩
instance :ZE Tryz.prog 177 [.int .i64 0,.int .i64 0]:=⟨ZI⟩
instance :ZE Tryz.prog 54 [.nils]:=⟨Ut⟩
instance :SZ Tryz.prog 22 1:=⟨UG⟩
instance :SZ Tryz.prog 25 3:=⟨Q9⟩
instance :SZ Tryz.prog 122 1:=⟨FK⟩
instance :SZ Tryz.prog 164 3:=⟨FJ⟩
instance :SZ Tryz.prog 168 3:=⟨TY⟩
instance :SZ Tryz.prog 173 1:=⟨Kw⟩
instance :SZ Tryz.prog 181 3:=⟨KX⟩
instance :SZ Tryz.prog 195 3:=⟨CT⟩
instance :SZ Tryz.prog 3 1:=⟨LQ⟩
instance :SZ Tryz.prog 4 1:=⟨AU⟩
instance :SZ Tryz.prog 44 6:=⟨ZJ⟩
instance :SZ Tryz.prog 177 2:=⟨TZ⟩
instance :SZ Tryz.prog 54 1:=⟨CU⟩
instance :UL Tryz.prog 142:=⟨_,Ku⟩
instance :SL Tryz.prog 142 9 1:=⟨Df⟩
instance :UL Tryz.prog 42:=⟨_,JN⟩
instance :ST Tryz.prog 44 [(0,1),(1,1),(2,1),(3,1),(4,1),(5,1)] [.str [],.int .i64 0,.int .i64 0,.int .i64 0,.int .i64 0,.nils]:=⟨Dc⟩
instance :UL Tryz.prog 54:=⟨_,Je⟩
instance :SL Tryz.prog 42 44 6:=⟨FL⟩
instance :SL Tryz.prog 54 3 1:=⟨QD⟩
instance :UL Tryz.prog 22:=⟨_,Yb⟩
instance :ST Tryz.prog 25 [(0,1),(1,1),(2,1)] [.int .i64 0,.nils,.nils]:=⟨VV⟩
instance :ST Tryz.prog 65 [(0,1),(1,1)] [.int .i64 0,.bool false]:=⟨LV⟩
instance :ST Tryz.prog 71 [(0,1),(1,1)] [.nilp,.nilp]:=⟨OF⟩
instance :ST Tryz.prog 77 [(0,1),(1,1)] [.int .i64 0,.int .i64 0]:=⟨FZ⟩
instance :UL Tryz.prog 78:=⟨_,Ul⟩
instance :ST Tryz.prog 86 [(0,1),(1,1),(2,1)] [.nils,.nils,.nilp]:=⟨Ky⟩
instance :ST Tryz.prog 105 [(0,1),(1,1)] [.int .i64 0,.bool false]:=⟨F0⟩
instance :ST Tryz.prog 109 [(0,1),(1,1),(2,1)] [.nilp,.bool false,.bool false]:=⟨Ei⟩
instance :UL Tryz.prog 111:=⟨_,EG⟩
instance :UL Tryz.prog 122:=⟨_,X7⟩
instance :ST Tryz.prog 125 [(0,1),(1,1),(2,1)] [.int .i64 0,.nils,.nilm]:=⟨BC⟩
instance :ST Tryz.prog 164 [(0,1),(1,1),(2,1)] [.int .i64 0,.bool false,.int .i64 0]:=⟨OI⟩
instance :UL Tryz.prog 173:=⟨_,XF⟩
instance :ST Tryz.prog 175 [(0,1),(1,1),(2,1)] [.nilm,.nils,.nilp]:=⟨OG⟩
instance :ST Tryz.prog 181 [(0,1),(1,1),(2,1)] [.nilf,.int .i64 0,.int .i64 0]:=⟨KY⟩
instance :ST Tryz.prog 193 [(0,1)] [.int .i64 0]:=⟨Da⟩
instance :ST Tryz.prog 195 [(0,1),(1,1),(2,1)] [.int .i64 0,.int .i64 0,.int .i64 0]:=⟨Db⟩
instance :ST Tryz.prog 211 [(0,1),(1,1),(2,1)] [.nilp,.nilf,.nilm]:=⟨OH⟩
instance :SL Tryz.prog 22 4 1:=⟨J3⟩
instance :SL Tryz.prog 78 77 2:=⟨XH⟩
instance :SL Tryz.prog 111 29 1:=⟨YC⟩
instance :SL Tryz.prog 122 132 1:=⟨Wm⟩
instance :SL Tryz.prog 173 177 2:=⟨Af⟩
abbrev iZ(z:Int):AV:=.int .i64 z
abbrev iN(n:Nat):AV:=.int .i64 n
def SG(j:Nat)(q:St→Prop)(h0:Hp)(n0:Nat)(X:List Nat)(K:List (Nat×AV))(M:List (Nat×Nat×List AV))(F:Tr AV→St→Prop):Prop:= ∀T st,QS K T→q st→Mem h0 n0 X st M→F T st
def To(g g':Prop):Prop:=g'→g
structure PO(P:Program)(G:Env)(h0:Hp)(n0:Nat)(X:List Nat)(K:List (Nat×AV))(M:List (Nat×Nat×List AV))(op:Op)(v:AV):Prop where
 h: ∀st,Mem h0 n0 X st M→U2 P G K op st v st
section
variable {j:Nat} {q:St→Prop} {P:Program} {G:Env} {N:Nat} {h0:Hp} {n0:Nat} {X:List Nat} {K:List (Nat×AV)} {M:List (Nat×Nat×List AV)} {g':Prop} {ops rest:List Oper} {R:Tr AV→St→Prop} {Q:Ex→Tr AV→St→Prop} {d:Nat} {ty:TypeId} {pos:String} {af:Array Edge} {st:St} {op:Op} {u v:AV} {x y:Operand} {t yt:TypeId} {k:IntKind} {a b:Int} {r l:List AV} {c m off:Nat} {A B:Bool} {tys:Array TypeId} {s z:List Nat}
theorem wU(h:QT G K x=some v):PO P G h0 n0 X K M (.move x) (v):=⟨fun _ hM=>Qy h⟩
theorem jP(h:QT G K x=some v):PO P G h0 n0 X K M (.assign x) (v):=⟨fun _ hM=>JV h⟩
theorem Hc [ht:T1 P t](i:Nat)(h:QT G K x=some (.ptr c m off))(h1:M[i]? =some (c,m,l))(h2:nth l off=some v):PO P G h0 n0 X K M (.load t x) v:=⟨fun _ hM=>Qg h (hM.load h1 (Qd ht.h h2))⟩
theorem En [ht:TA P t n](i:Nat)(h:QT G K x=some (.ptr c m off))(h1:M[i]? =some (c,m,l))(h2:EI n (EL off l) (fun r=>some (AV.agg r))=some (.agg r)):PO P G h0 n0 X K M (.load t x) (.agg r):=⟨fun _ hM=>Qg h (hM.load h1 (QN ht.h h2))⟩
theorem fx{f o:Nat} [ho:FO P t f o](h:QT G K x=some (.ptr c m off)):PO P G h0 n0 X K M (.fieldAddr t x f) (.ptr c m (off+o)):=⟨fun _ hM=>Yf ho.h h⟩
theorem wT(h:QT G K x=some (.ptr c m off)):PO P G h0 n0 X K M (.nilCheck x) (.ptr c m off):=⟨fun _ hM=>wX h rfl⟩
theorem fy(h:QT G K x=some (.tup l))(h':nth l i=some v):PO P G h0 n0 X K M (.extract x i) (v):=⟨fun _ hM=>RB h h'⟩
theorem wR{w1 w2:Operand}(h:QT G K x=some (.bool A))(h1:QT G K w1=some u)(h2:QT G K w2=some v):PO P G h0 n0 X K M (.pick x w1 w2) (Qj A u v):=⟨fun _ hM=>xF h h1 h2⟩
theorem fl(h:QT G K x=some (.bool A)):PO P G h0 n0 X K M (.unOp .not t x) (.bool (!A)):=⟨fun _ hM=>Ny h⟩
theorem fq(h:QT G K x=some (.int k a))(h':QT G K y=some (.int k b)):PO P G h0 n0 X K M (.binOp .lss t x y yt) (.bool (decide (a<b))):=⟨fun _ hM=>jX h h'⟩
theorem fv(h:QT G K x=some (.int k a))(h':QT G K y=some (.int k b)):PO P G h0 n0 X K M (.binOp .gtr t x y yt) (.bool (decide (b<a))):=⟨fun _ hM=>ea h h'⟩
theorem fu(h:QT G K x=some (.int k a))(h':QT G K y=some (.int k b)):PO P G h0 n0 X K M (.binOp .leq t x y yt) (.bool (decide (a≤b))):=⟨fun _ hM=>wZ h h'⟩
theorem fw(h:QT G K x=some (.int k a))(h':QT G K y=some (.int k b)):PO P G h0 n0 X K M (.binOp .geq t x y yt) (.bool (decide (b≤a))):=⟨fun _ hM=>ec h h'⟩
theorem fA(h:QT G K x=some (.int k a))(h':QT G K y=some (.int k b)):PO P G h0 n0 X K M (.binOp .eql t x y yt) (.bool (decide (a=b))):=⟨fun _ hM=>jZ h h'⟩
theorem fp(h:QT G K x=some (.int k a))(h':QT G K y=some (.int k b)):PO P G h0 n0 X K M (.binOp .neq t x y yt) (.bool (!decide (a=b))):=⟨fun _ hM=>R9 h h'⟩
theorem fz(h:QT G K x=some (.str s))(h':QT G K y=some (.str z)):PO P G h0 n0 X K M (.binOp .eql t x y yt) (.bool (decide (s=z))):=⟨fun _ hM=>QG h h'⟩
theorem fm(h:QT G K x=some (.str s))(h':QT G K y=some (.str z)):PO P G h0 n0 X K M (.binOp .neq t x y yt) (.bool (!decide (s=z))):=⟨fun _ hM=>Hd h h'⟩
theorem fB(h:QT G K x=some (.int .i64 a))(h':QT G K y=some (.int .i64 b))(h1: -9223372036854775808≤a+b)(h2:a+b≤9223372036854775807):PO P G h0 n0 X K M (.binOp .add t x y yt) (.int .i64 (a+b)):=⟨fun _ _=>ee h h' h1 h2⟩
theorem fk(h:QT G K x=some (.int .i64 a))(h':QT G K y=some (.int .i64 b))(h1: -9223372036854775808≤a-b)(h2:a-b≤9223372036854775807):PO P G h0 n0 X K M (.binOp .sub t x y yt) (.int .i64 (a-b)):=⟨fun _ _=>jT h h' h1 h2⟩
theorem wV [hu:UL P t](h:QT G K x=some u)(h':YD u=some n):PO P G h0 n0 X K M (.call {callee:=.builtin .len,args:= #[x],argTypes:= #[t]}) (.int .i64 (n:Int)):=⟨fun _ _=>by obtain⟨e,hu⟩:=hu.h;exact Q5 hu rfl h h'⟩
theorem xC{parts:Array (Nat×Operand)}{ps:List (Nat×AV)}{tbl:List (Nat×Nat)}{zz:List AV} [hs:ST P t tbl zz](h:Zr (QT G K) parts=some ps)(h':XP (nth tbl) ps zz=some r):PO P G h0 n0 X K M (.build t parts) (.agg r):=⟨fun _ hM=>WJ hs.h h h'⟩
theorem jc{k:Tr AV→St→Prop}(h:To (SG j q h0 n0 X K M (k)) g'):To (SG j q h0 n0 X K M (LP k Q .nor)) g':=h
theorem vY(h:To (SG j q h0 n0 X K M (Q .nor)) g'):To (SG j q h0 n0 X K M (C5 id Q .nor)) g':=h
theorem vV{a b:Code}(h:To (SG j q h0 n0 X K M (W P G N (a) (LP (W P G N b Q) Q))) g'):To (SG j q h0 n0 X K M (W P G N (.seq a b) Q)) g':=fun h' T st hK hq hM=>Jy (h h' T st hK hq hM)
theorem SM{c:Code}(h:To (SG j q h0 n0 X K M (W P G N (c) (C5 id Q))) g'):To (SG j q h0 n0 X K M (W P G N (.block id c) Q)) g':=fun h' T st hK hq hM=>By (h h' T st hK hq hM)
theorem jd(h:To (SG j q h0 n0 X K M (Q .nor)) g'):To (SG j q h0 n0 X K M (W P G N (.skip) Q)) g':=fun h' T st hK hq hM=>Ra (h h' T st hK hq hM)
theorem SK{l:Nat}(h:To (SG j q h0 n0 X K M (Q .nor)) g'):To (SG j q h0 n0 X K M (W P G N (.label l) Q)) g':=fun h' T st hK hq hM=>zS (h h' T st hK hq hM)
theorem CS{l:List Oper}(h:To (SG j q h0 n0 X K M (WR P G N l l (Q .nor))) g'):To (SG j q h0 n0 X K M (W P G N (.region id l.toArray false) Q)) g':=fun h' T st hK hq hM=>W7 (h h' T st hK hq hM)
theorem vW(h:To (SG j q h0 n0 X K M (R)) g'):To (SG j q h0 n0 X K M (WR P G N ops [] R)) g':=fun h' T st hK hq hM=>XT (h h' T st hK hq hM)
theorem aW{a b:Code}(hg:QT G K g=some (.bool true))(h:To (SG j q h0 n0 X K M (W P G N (a) Q)) g'):To (SG (j+1) q h0 n0 X K M (W P G N (.cond g a b) Q)) g':=fun h' T st hK hq hM=>FW (hK.Jq hg) (fun _=>h h' T st hK hq hM) (fun e=>by cases e)
theorem aX{a b:Code}(hg:QT G K g=some (.bool false))(h:To (SG j q h0 n0 X K M (W P G N (b) Q)) g'):To (SG (j+1) q h0 n0 X K M (W P G N (.cond g a b) Q)) g':=fun h' T st hK hq hM=>FW (hK.Jq hg) (fun e=>by cases e) (fun _=>h h' T st hK hq hM)
theorem iF(hp:PO P G h0 n0 X K M op v)(hN:Nat.ble (d+1) N=true)(h:To (SG j q h0 n0 X ((d,v)::K) M (WR P G N ops rest R)) g'):To (SG (j+1) q h0 n0 X K M (WR P G N ops (⟨some d,op,ty,pos,af,none⟩::rest) R)) g':=fun h' T st hK hq hM=>o1 hK (hp.h st hM) hN fun T' hK'=>h h' T' st hK' hq hM
theorem iG(hp:PO P G h0 n0 X K M op v)(hh:Yh ops jj=some tt∧K.lookup tt=some (.bool pol)∧Nat.ble (d+1) N=true)(h:To (SG j q h0 n0 X ((d,v)::K) M (WR P G N ops rest R)) g'):To (SG (j+1) q h0 n0 X K M (WR P G N ops (⟨some d,op,ty,pos,af,some (jj,pol)⟩::rest) R)) g':=fun h' T st hK hq hM=>og hK hh.1 hh.2.1 (hp.h st hM) hh.2.2 fun T' hK'=>h h' T' st hK' hq hM
theorem aV(hh:Yh ops jj=some tt∧K.lookup tt=some (.bool A)∧(A==pol)=false∧Nat.ble (d+1) N=true)(h:To (SG j q h0 n0 X ((d,.tup [])::K) M (WR P G N ops rest R)) g'):To (SG (j+1) q h0 n0 X K M (WR P G N ops (⟨some d,op,ty,pos,af,some (jj,pol)⟩::rest) R)) g':=fun h' T st hK hq hM=>gn hK hh.1 hh.2.1 hh.2.2.1 hh.2.2.2 fun T' hK'=>h h' T' st hK' hq hM
theorem vX(hh:Yh ops jj=some tt∧K.lookup tt=some (.tup [])∧Nat.ble (d+1) N=true)(h:To (SG j q h0 n0 X ((d,.tup [])::K) M (WR P G N ops rest R)) g'):To (SG (j+1) q h0 n0 X K M (WR P G N ops (⟨some d,op,ty,pos,af,some (jj,pol)⟩::rest) R)) g':=fun h' T st hK hq hM=>iY hK hh.1 hh.2.1 hh.2.2 fun T' hK'=>h h' T' st hK' hq hM
theorem Eg [hz:SZ P t n](i:Nat){r':List AV}(hh:QT G K x=some (.ptr c m off)∧QT G K y=some v∧M[i]? =some (c,m,r)∧(Jn v).length=n∧Vv Qr (Jn v)=true∧Zn (Jn v) off r=some r')(h:To (SG j (fun _=>True) h0 n0 X K (M.set i (c,m,r')) (WR P G N ops rest R)) g'):To (SG (j+1) (fun _=>True) h0 n0 X K M (WR P G N ops (⟨none,.store t x y,ty,pos,af,none⟩::rest) R)) g':=fun h' T st hK _ hM=>QU (k:=i) hK hM hh.1 hh.2.1 hh.2.2.1 hz.h hh.2.2.2.1 hh.2.2.2.2.1 hh.2.2.2.2.2 fun st' hM'=>h h' T st' hK trivial hM'
theorem xi{g:Nat→Prop} [hz:ZE P t l](hN:Nat.ble (d+1) N=true)(h: ∀c,To (SG j (fun _=>True) h0 n0 X ((d,.ptr c 0 0)::K) ((c,0,l)::M) (WR P G N ops rest R)) (g c)):To (SG (j+1) (fun _=>True) h0 n0 X K M (WR P G N ops (⟨some d,.alloc t,ty,pos,af,none⟩::rest) R)) (∀c,g c):=fun h' T st hK _ hM=>LI hK hM hz.h (Nat.le_of_ble_eq_true hN) fun c T' st' hK' hM'=>h c (h' c) T' st' hK' trivial hM'
theorem aY{g:Nat→Prop}(hh:QT G K x=some v∧Nat.ble (d+1) N=true)(hc:True→Vv Qr (Jn v)=true)(h: ∀c,To (SG j (fun _=>True) h0 n0 X ((d,.ptr c 0 0)::K) ((c,0,Jn v)::M) (WR P G N ops rest R)) (g c)):To (SG (j+1) (fun _=>True) h0 n0 X K M (WR P G N ops (⟨some d,.box t x,ty,pos,af,none⟩::rest) R)) (∀c,g c):=fun h' T st hK _ hM=>Jv hK hM hh.1 (hc trivial) (Nat.le_of_ble_eq_true hh.2) fun c T' st' hK' hM'=>h c (h' c) T' st' hK' trivial hM'
theorem ij{g:Nat→Prop}{e:TypeId}{len w:Nat}{parts:Array (Nat×Operand)}{ps:List (Nat×AV)} [hs:SL P t e w] [hz:ZE P e l](hh:Zr (QT G K) parts=some ps∧XP (fun i=>some (i *w,w)) ps (Vp len l)=some r∧Vv Qr r=true∧Nat.ble (len *w) 16777216=true∧Nat.ble (d+1) N=true)(h: ∀c,To (SG j (fun _=>True) h0 n0 X ((d,.sl c 0 0 len w)::K) ((c,0,r)::M) (WR P G N ops rest R)) (g c)):To (SG (j+1) (fun _=>True) h0 n0 X K M (WR P G N ops (⟨some d,.buildSlice t len parts,ty,pos,af,none⟩::rest) R)) (∀c,g c):=fun h' T st hK _ hM=>Xo hK hM hs.h hz.h hh.1 hh.2.1 hh.2.2.1 hh.2.2.2.1 hh.2.2.2.2 fun c T' st' hK' hM'=>h c (h' c) T' st' hK' trivial hM'
theorem wH{g:Prop}:To g g:=id
theorem xg:To (SG j (fun s=>s=st) h0 n0 X K M (F)) (∀T,QS K T→F T st):=fun h T _ hK hq hM=>hq▸h T hK
theorem ia{k:Tr AV→St→Prop}(h:To (SG j q h0 n0 X K M (W P G N (.ret) Q)) g'):To (SG j q h0 n0 X K M (W P G N (.ret) (LP k Q))) g':=fun h' T st hK hq hM=>Jx (by have h2:=h h' T st hK hq hM;obtain⟨L,n,x,T',st',h3,h4⟩:=h2;injection h3 with h3;injection h3 with h5 h6;injection h6 with h6 h7;subst h5 h6 h7;exact h4)
theorem ib(h:To (SG j q h0 n0 X K M (W P G N (.ret) Q)) g'):To (SG j q h0 n0 X K M (W P G N (.ret) (C5 id Q))) g':=fun h' T st hK hq hM=>Jx (by have h2:=h h' T st hK hq hM;obtain⟨L,n,x,T',st',h3,h4⟩:=h2;injection h3 with h3;injection h3 with h5 h6;injection h6 with h6 h7;subst h5 h6 h7;exact h4)
theorem ie{Z:AV→St→Prop}{rs:List ResultVar}(hr:rs=[.tmp t1])(hh:K.lookup t1=some v):To (SG j (fun s=>s=st) h0 n0 X K M (W P G N (.ret) (fun x T s=>(x=.nor∨x=.ret)∧ ∃v,J8 P rs T s=some v∧Z v s))) (Z v st):=fun h' T s hK hq hM=>Jx ⟨.inr rfl,_,by rw[hr];exact Lv (Q6 hK hh),by subst hq;exact h'⟩
theorem ic{t2:Nat}{Z:AV→St→Prop}{rs:List ResultVar}(hr:rs=[.tmp t1,.tmp t2])(hh:K.lookup t1=some u∧K.lookup t2=some v):To (SG j (fun s=>s=st) h0 n0 X K M (W P G N (.ret) (fun x T s=>(x=.nor∨x=.ret)∧ ∃v,J8 P rs T s=some v∧Z v s))) (Z (.tup [u,v]) st):=fun h' T s hK hq hM=>Jx ⟨.inr rfl,_,by rw[hr];exact Ud (Q6 hK hh.1) (Q6 hK hh.2),by subst hq;exact h'⟩
theorem wG{Z:AV→St→Prop}{rs:List ResultVar}(i:Nat)(ht:TA P t n)(hr:rs=[.cell t1 t])(hh:K.lookup t1=some (.ptr c m off)∧M[i]? =some (c,m,l)∧EI n (EL off l) (fun r=>some (AV.agg r))=some (.agg r)):To (SG j (fun s=>s=st) h0 n0 X K M (W P G N (.ret) (fun x T s=>(x=.nor∨x=.ret)∧ ∃v,J8 P rs T s=some v∧Z v s))) (Z (.agg r) st):=fun h' T s hK hq hM=>Jx ⟨.inr rfl,_,by rw[hr];exact Lv (JE hK hh.1 (hM.load hh.2.1 (QN ht.h hh.2.2))),by subst hq;exact h'⟩
theorem fV(h:PO P G h0 n0 X K M op v:=by first|(apply wU<;>exact rfl)|(apply jP<;>exact rfl)|(apply Hc 0<;>exact rfl)|(apply Hc 1<;>exact rfl)|(apply Hc 2<;>exact rfl)|(apply Hc 3<;>exact rfl)|(apply Hc 4<;>exact rfl)|(apply Hc 5<;>exact rfl)|(apply Hc 6<;>exact rfl)|(apply En 0<;>exact rfl)|(apply En 1<;>exact rfl)|(apply En 2<;>exact rfl)|(apply En 3<;>exact rfl)|(apply En 4<;>exact rfl)|(apply En 5<;>exact rfl)|(apply En 6<;>exact rfl)|(apply fx<;>exact rfl)|(apply wT<;>exact rfl)|(apply fy<;>exact rfl)|(apply wR<;>exact rfl)|(apply fl<;>exact rfl)|(apply fq<;>exact rfl)|(apply fv<;>exact rfl)|(apply fu<;>exact rfl)|(apply fw<;>exact rfl)|(apply fA<;>exact rfl)|(apply fp<;>exact rfl)|(apply fz<;>exact rfl)|(apply fm<;>exact rfl)|(apply fB;exact rfl;exact rfl;omega;omega)|(apply fk;exact rfl;exact rfl;omega;omega)|(apply wV<;>exact rfl)|(apply xC<;>exact rfl)):PO P G h0 n0 X K M op v:=h
theorem au(j:Nat){T:Tr AV}{st:St}(hK:QS K T)(hM:Mem h0 n0 X st M)(hn:g')(h:To (SG j (fun _=>True) h0 n0 X K M (F)) g':=by
 repeat' first
  |with_reducible refine' jc ?_
  |with_reducible refine' vY ?_
  |with_reducible refine' vV ?_
  |with_reducible refine' vW ?_
  |with_reducible refine' SM ?_
  |with_reducible refine' jd ?_
  |with_reducible refine' SK ?_
  |with_reducible refine' CS ?_
  |((first|with_reducible refine' iF ?_ ?_ ?_|with_reducible refine' iG ?_ ?_ ?_);(any_goals exact fV);any_goals first|exact rfl|exact⟨rfl,rfl,rfl⟩)
  |((with_reducible refine' aV ?_ ?_);any_goals exact⟨rfl,rfl,rfl,rfl⟩)
  |((with_reducible refine' vX ?_ ?_);any_goals exact⟨rfl,rfl,rfl⟩)
  |((with_reducible refine' aW ?_ ?_);any_goals exact rfl)
  |((with_reducible refine' aX ?_ ?_);any_goals exact rfl)
  |((with_reducible refine' Eg 0 ?_ ?_);any_goals exact⟨rfl,rfl,rfl,rfl,rfl,rfl⟩)
  |((with_reducible refine' Eg 1 ?_ ?_);any_goals exact⟨rfl,rfl,rfl,rfl,rfl,rfl⟩)
  |((with_reducible refine' Eg 2 ?_ ?_);any_goals exact⟨rfl,rfl,rfl,rfl,rfl,rfl⟩)
  |((with_reducible refine' Eg 3 ?_ ?_);any_goals exact⟨rfl,rfl,rfl,rfl,rfl,rfl⟩)
  |((with_reducible refine' Eg 4 ?_ ?_);any_goals exact⟨rfl,rfl,rfl,rfl,rfl,rfl⟩)
  |((with_reducible refine' Eg 5 ?_ ?_);any_goals exact⟨rfl,rfl,rfl,rfl,rfl,rfl⟩)
  |((with_reducible refine' Eg 6 ?_ ?_);any_goals exact⟨rfl,rfl,rfl,rfl,rfl,rfl⟩)
  |((with_reducible refine' xi ?_ fun _=>?_);any_goals exact rfl)
  |((with_reducible refine' ij ?_ fun _=>?_);any_goals exact⟨rfl,rfl,rfl,rfl,rfl⟩)
  |((with_reducible refine' aY ?_ ?_ fun _=>?_);(any_goals exact⟨rfl,rfl⟩);any_goals(intro(_:True);(repeat first|exact rfl|assumption|refine Qa ?_ ?_);done))
  |with_reducible exact wH):F T st:=h hn T st hK trivial hM
theorem Qb(j:Nat){T:Tr AV}{st:St}(hK:QS K T)(hM:Mem h0 n0 X st M)(hn:g')(h:To (SG j (fun s=>s=st) h0 n0 X K M (F)) g':=by
 repeat' first
  |with_reducible refine' jc ?_
  |with_reducible refine' vY ?_
  |with_reducible refine' vV ?_
  |with_reducible refine' vW ?_
  |with_reducible refine' SM ?_
  |with_reducible refine' jd ?_
  |with_reducible refine' SK ?_
  |with_reducible refine' CS ?_
  |((first|with_reducible refine' iF ?_ ?_ ?_|with_reducible refine' iG ?_ ?_ ?_);(any_goals exact fV);any_goals first|exact rfl|exact⟨rfl,rfl,rfl⟩)
  |((with_reducible refine' aV ?_ ?_);any_goals exact⟨rfl,rfl,rfl,rfl⟩)
  |((with_reducible refine' vX ?_ ?_);any_goals exact⟨rfl,rfl,rfl⟩)
  |((with_reducible refine' aW ?_ ?_);any_goals exact rfl)
  |((with_reducible refine' aX ?_ ?_);any_goals exact rfl)
  |with_reducible refine' ia ?_
  |with_reducible refine' ib ?_
  |((with_reducible refine' ie ?_ ?_);any_goals exact rfl)
  |((with_reducible refine' ic ?_ ?_);(any_goals exact rfl);any_goals exact⟨rfl,rfl⟩)
  |((with_reducible refine' wG 0 ?_ ?_ ?_);(any_goals exact rfl);(any_goals infer_instance);any_goals exact⟨rfl,rfl,rfl⟩)
  |((with_reducible refine' wG 1 ?_ ?_ ?_);(any_goals exact rfl);(any_goals infer_instance);any_goals exact⟨rfl,rfl,rfl⟩)
  |((with_reducible refine' wG 2 ?_ ?_ ?_);(any_goals exact rfl);(any_goals infer_instance);any_goals exact⟨rfl,rfl,rfl⟩)
  |with_reducible exact xg):F T st:=h hn T st hK rfl hM
def DG(P:Program)(G:Env)(N:Nat)(h0:Hp)(n0:Nat)(X:List Nat)(M:List (Nat×Nat×List AV))(st:St)(sn:List St)(ops:List Oper)(R:Tr AV→St→Prop)(j:Nat)(w:List (Nat×Nat))(K:List (Nat×AV)):Prop:=Mem h0 n0 X st M→ ∀T,QS K T→WD P G N ops (w.map (Yo ops)) R T st sn
theorem iQ(ho:ops[i]? =some (⟨some d,op,ty,pos,af,none⟩))(hp:PO P G h0 n0 X K M op v)(hh:Nat.beq (QE P op) 3=false∧Nat.ble (d+1) N=true)(h:To (DG P G N h0 n0 X M st sn ops R j w ((d,v)::K)) g'):To (DG P G N h0 n0 X M st sn ops R (j+1) ((i,0)::w) K) g':=fun h' hM T hK=>d1 ho hK (hp.h st hM) hh.1 hh.2 fun T' hK'=>h h' hM T' hK'
theorem ig(ho:ops[i]? =some (⟨some d,op,ty,pos,af,some (jj,pol)⟩))(hp:PO P G h0 n0 X K M op v)(hh:Yh ops jj=some tt∧K.lookup tt=some (.bool pol)∧Nat.beq (QE P op) 3=false∧Nat.ble (d+1) N=true)(h:To (DG P G N h0 n0 X M st sn ops R j w ((d,v)::K)) g'):To (DG P G N h0 n0 X M st sn ops R (j+1) ((i,0)::w) K) g':=fun h' hM T hK=>dg ho hK hh.1 hh.2.1 (hp.h st hM) hh.2.2.1 hh.2.2.2 fun T' hK'=>h h' hM T' hK'
theorem xh:To (DG P G N h0 n0 X M st sn ops R i w K) (∀T,QS K T→WD P G N ops (w.map (Yo ops)) R T st sn):=fun h _=>h
theorem Jo(j:Nat){T:Tr AV}(hK:QS K T)(hM:Mem h0 n0 X st M)(hn:g')(h:To (DG P G N h0 n0 X M st sn ops R j w K) g':=by
 repeat' first
  |((first|with_reducible refine' iQ ?_ ?_ ?_ ?_);(any_goals exact rfl);(any_goals exact fV);any_goals exact⟨rfl,rfl⟩)
  |((with_reducible refine' ig ?_ ?_ ?_ ?_);(any_goals exact rfl);(any_goals exact fV);any_goals exact⟨rfl,rfl,rfl,rfl⟩)
  |with_reducible exact xh):WD P G N ops (w.map (Yo ops)) R T st sn:=h hn hM T hK
end
section
variable {P:Program} {G:Env} {N:Nat} {h0:Hp} {n0:Nat} {X:List Nat} {K:List (Nat×AV)} {M:List (Nat×Nat×List AV)} {ops rest:List Oper} {R:Tr AV→St→Prop} {Q:Ex→Tr AV→St→Prop} {d:Nat} {ty:TypeId} {pos:String} {af:Array Edge} {T:Tr AV} {st:St}
theorem Jt{a b:Code}{p:Prop} [Decidable p](hK:QS K T)(hg:QT G K g=some (.bool (decide p)))(ha:p→W P G N a Q T st)(hb: ¬p→W P G N b Q T st):W P G N (.cond g a b) Q T st:=FW (hK.Jq hg) (fun h=>ha (of_decide_eq_true h)) fun h=>hb (of_decide_eq_false h)
theorem aS{a b:Code}{p:Prop} [Decidable p](hK:QS K T)(hg:QT G K g=some (.bool (!decide p)))(ha: ¬p→W P G N a Q T st)(hb:p→W P G N b Q T st):W P G N (.cond g a b) Q T st:=FW (hK.Jq hg) (fun h=>ha (by simpa using h)) fun h=>hb (by simpa using h)
theorem oQ{args:Array Operand}{tys:Array TypeId}{l:List AV}{u:AV}(hK:QS K T)(hM:Mem h0 n0 X st M)(h: ∃v st',Ev P G f l st v st'∧v=u∧Qt st st')(ha:Uw (QT G K) args.toList=some l)(hN:Nat.ble (d+1) N=true)(hn: ∀T' st',QS ((d,u)::K) T'→Mem h0 n0 X st' M→WR P G N ops rest R T' st'):
  WR P G N ops (⟨some d,.call {callee:=.value (.func f),args:=args,argTypes:=tys},ty,pos,af,none⟩::rest) R T st:=by
 obtain⟨v,st',ev,rfl,q⟩:=h;exact o1 hK (Qf ha ev) hN fun T' hK'=>hn T' st' hK' (hM.quiet q)
theorem oR{args:Array Operand}{tys:Array TypeId}{l:List AV}{u:AV}(k:Nat){c m m':Nat}{r r':List AV}(hK:QS K T)(hM:Mem h0 n0 X st M)(h: ∃v st',Ev P G f l st v st'∧v=u∧vQ [c] st st'∧Qx st'.h.get c m' r')(hk:M[k]? =some (c,m,r))(ha:Uw (QT G K) args.toList=some l)(hN:Nat.ble (d+1) N=true)(hn: ∀T' st',QS ((d,u)::K) T'→Mem h0 n0 X st' (M.set k (c,m',r'))→WR P G N ops rest R T' st'):
  WR P G N ops (⟨some d,.call {callee:=.value (.func f),args:=args,argTypes:=tys},ty,pos,af,none⟩::rest) R T st:=by
 obtain⟨v,st',ev,rfl,q,w⟩:=h;exact o1 hK (Qf ha ev) hN fun T' hK'=>hn T' st' hK' (hM.yQ hk q w)
theorem Cm{fn:Func}{c:Code}{N:Nat}{rs:List ResultVar}{args:List AV}{Q:AV→St→Prop}(hs:G.s f=none)(hf:P.funcs[f]? =some fn)(hb:fn.body=some c)(hN:fn.ntmps=N)(hr:fn.results.toList=rs)
 (h: ∀T,(∀t,Y1 T t=(args[t]?).getD (.tup []))→W P G N c (fun x T st=>(x=.nor∨x=.ret)∧ ∃v,J8 P rs T st=some v∧Q v st) T st) (hname:(fn.name== "runtime.NumGoroutine")=false:=by decide) (hl:args.length≤N:=by simp): ∃v st',Ev P G f args st v st'∧Q v st':=wh hs hf hb hN hr hname hl h
theorem iR{t:Nat}{v:AV}(hK:QS K T)(h:K.lookup t=some v):J8 P [.tmp t] T st=some v:=Lv (Q6 hK h)
theorem rt2{t s:Nat}{u v:AV}(hK:QS K T)(h:K.lookup t=some u)(h':K.lookup s=some v):J8 P [.tmp t,.tmp s] T st=some (.tup [u,v]):=Ud (Q6 hK h) (Q6 hK h')
theorem iH{a:Nat}{t:TypeId}{l r:List AV} [ht:TA P t n](k:Nat){c m off:Nat}(hK:QS K T)(hM:Mem h0 n0 X st M)(h:K.lookup a=some (.ptr c m off))(hk:M[k]? =some (c,m,l))(hl:EI n (EL off l) (fun r=>some (AV.agg r))=some (.agg r)):J8 P [.cell a t] T st=some (.agg r):=Lv (JE hK h (hM.load hk (QN ht.h hl)))
theorem iV{op:Op}{p:Prop} [Decidable p](hK:QS K T)(h:U2 P G K op st (.bool (decide p)) st)(hN:Nat.ble (d+1) N=true)(hf: ∀T',¬p→QS ((d,.bool false)::K) T'→WR P G N ops rest R T' st)(ht: ∀T',p→QS ((d,.bool true)::K) T'→WR P G N ops rest R T' st):WR P G N ops (⟨some d,op,ty,pos,af,none⟩::rest) R T st:=oB hK h hN (fun b T' e K'=>by cases b;exact hf T' (of_decide_eq_false e) K';exact ht T' (of_decide_eq_true e) K')
theorem iW{op:Op}{p:Prop} [Decidable p](hK:QS K T)(h:U2 P G K op st (.bool (!decide p)) st)(hN:Nat.ble (d+1) N=true)(hf: ∀T',p→QS ((d,.bool false)::K) T'→WR P G N ops rest R T' st)(ht: ∀T',¬p→QS ((d,.bool true)::K) T'→WR P G N ops rest R T' st):WR P G N ops (⟨some d,op,ty,pos,af,none⟩::rest) R T st:=oB hK h hN (fun b T' e K'=>by cases b;exact hf T' ((by simpa using e)) K';exact ht T' ((by simpa using e)) K')
theorem N2{op:Op}{p:Prop} [Decidable p](hK:QS K T)(hd:Yh ops jj=some tt)(hb:K.lookup tt=some (.bool pol))(h:U2 P G K op st (.bool (decide p)) st)(hN:Nat.ble (d+1) N=true)(hf: ∀T',¬p→QS ((d,.bool false)::K) T'→WR P G N ops rest R T' st)(ht: ∀T',p→QS ((d,.bool true)::K) T'→WR P G N ops rest R T' st):WR P G N ops (⟨some d,op,ty,pos,af,some (jj,pol)⟩::rest) R T st:=iq hK hd hb h hN (fun b T' e K'=>by cases b;exact hf T' (of_decide_eq_false e) K';exact ht T' (of_decide_eq_true e) K')
theorem iU{op:Op}{p:Prop} [Decidable p](hK:QS K T)(hd:Yh ops jj=some tt)(hb:K.lookup tt=some (.bool pol))(h:U2 P G K op st (.bool (!decide p)) st)(hN:Nat.ble (d+1) N=true)(hf: ∀T',p→QS ((d,.bool false)::K) T'→WR P G N ops rest R T' st)(ht: ∀T',¬p→QS ((d,.bool true)::K) T'→WR P G N ops rest R T' st):WR P G N ops (⟨some d,op,ty,pos,af,some (jj,pol)⟩::rest) R T st:=iq hK hd hb h hN (fun b T' e K'=>by cases b;exact hf T' ((by simpa using e)) K';exact ht T' ((by simpa using e)) K')
theorem Ug{x:Operand}{p:Prop} [Decidable p](hK:QS K T)(hx:QT G K x=some (.bool (decide p)))(hf: ∀T',¬p→QS ((d,.bool false)::K) T'→WR P G N ops rest R T' st)(ht: ∀T',p→QS ((d,.bool true)::K) T'→WR P G N ops rest R T' st)(hN:Nat.ble (d+1) N=true:=by exact rfl):WR P G N ops (⟨some d,.move x,ty,pos,af,none⟩::rest) R T st:=iV hK (Qy hx) hN hf ht
theorem qR{x:Operand}{p:Prop} [Decidable p](hK:QS K T)(hx:QT G K x=some (.bool (!decide p)))(hf: ∀T',p→QS ((d,.bool false)::K) T'→WR P G N ops rest R T' st)(ht: ∀T',¬p→QS ((d,.bool true)::K) T'→WR P G N ops rest R T' st)(hN:Nat.ble (d+1) N=true:=by exact rfl):WR P G N ops (⟨some d,.move x,ty,pos,af,none⟩::rest) R T st:=iW hK (Qy hx) hN hf ht
theorem dBp{op:Op}{p:Prop} [Decidable p](ho:ops[i]? =some (⟨some d,op,ty,pos,af,none⟩))(hK:QS K T)(h:U2 P G K op st (.bool (decide p)) st)(hk:Nat.beq (QE P op) 3=false)(hN:Nat.ble (d+1) N=true)(hf: ∀T',¬p→QS ((d,.bool false)::K) T'→WD P G N ops (w.map (Yo ops)) R T' st sn)(ht: ∀T',p→QS ((d,.bool true)::K) T'→WD P G N ops (w.map (Yo ops)) R T' st sn):WD P G N ops (((i,0)::w).map (Yo ops)) R T st sn:=dB ho hK h hk hN (fun b T' e K'=>by cases b;exact hf T' (of_decide_eq_false e) K';exact ht T' (of_decide_eq_true e) K')
theorem dBn{op:Op}{p:Prop} [Decidable p](ho:ops[i]? =some (⟨some d,op,ty,pos,af,none⟩))(hK:QS K T)(h:U2 P G K op st (.bool (!decide p)) st)(hk:Nat.beq (QE P op) 3=false)(hN:Nat.ble (d+1) N=true)(hf: ∀T',p→QS ((d,.bool false)::K) T'→WD P G N ops (w.map (Yo ops)) R T' st sn)(ht: ∀T',¬p→QS ((d,.bool true)::K) T'→WD P G N ops (w.map (Yo ops)) R T' st sn):WD P G N ops (((i,0)::w).map (Yo ops)) R T st sn:=dB ho hK h hk hN (fun b T' e K'=>by cases b;exact hf T' ((by simpa using e)) K';exact ht T' ((by simpa using e)) K')
def ay:Nat→List AV→List (Nat×AV)
 |_,[]=>[]
 |i,v::l=>(i,v)::ay (i+1) l
theorem TO: ∀(l:List AV) (i:Nat),(∀t,i≤t→Y1 T t=(l[t-i]?).getD (.tup []))→QS (ay i l) T
 |[],_,_=>.nil
 |v::l,i,h=>.cons (by have:=h i (Nat.le_refl _);rwa [Nat.sub_self]at this) (TO l (i+1) fun t ht=>by
  have:=h t Qc;rw[show t-i=t-(i+1)+1 by omega]at this
  exact this)
theorem J7{fn:Func}{c:Code}{N:Nat}{args:List AV}{Q:AV→St→Prop}(hf:P.funcs[f]? =some fn)(hN:fn.ntmps=N)
 (h: ∀T,QS (ay 0 args) T→W P G N c (fun x T st=>(x=.nor∨x=.ret)∧ ∃v,J8 P fn.results.toList T st=some v∧Q v st) T st) (hs:G.s f=none:=by rfl) (hb:fn.body=some c:=by rfl) (hname:(fn.name== "runtime.NumGoroutine")=false:=by decide) (hl:args.length≤N:=by simp): ∃v st',Ev P G f args st v st'∧Q v st':=wh hs hf hb hN rfl hname hl fun T hT=>h T (TO args 0 fun t _=>hT t)
theorem oI{x i:Operand}{t:TypeId}{k:IntKind}{v:AV}{z j:Nat}(hR:Jg st.h.get Y z ls ks)(hi:ls[j]? =some cs)(hK:QS K T)(he:Ue P t=some z)(ht:tk P t'=.one)(hx:QT G K x=some ks)(hy:QT G K i=some (.int k (j:Int)))(hv:cs[0]? =some v)(hn: ∀c m o T',QS ((d2,v)::(d,.ptr c m o)::K) T'→WR P G N ops rest R T' st)(hN:Nat.ble (d+1) N=true:=by exact rfl)(hN2:Nat.ble (d2+1) N=true:=by exact rfl):WR P G N ops (⟨some d,.indexAddr t x i,ty,pos,af,none⟩::⟨some d2,.load t' (.tmp d),ty2,pos2,af2,none⟩::rest) R T st:=by
 obtain⟨c,m,off,rfl,_,la,lo,_⟩:=hR.load (P:=P) hi;exact o1 hK (Qe he hx hy (List.getElem?_eq_some_iff.1 hi).1) hN fun T' K'=>o1 K' (Qg (show QT G (_::K) (.tmp d)=_ by show List.lookup d _=_;rw[List.lookup_cons];simp) (lo _ 0 _ ht hv)) hN2 fun T'' K''=>hn _ _ _ _ K''
theorem dI{x i:Operand}{t:TypeId}{k:IntKind}{v:AV}{z j:Nat}{i1 i2:Nat}{r:List (Nat×Nat)}(ho:ops[i1]? =some ⟨some d,.indexAddr t x i,ty,pos,af,none⟩)(ho2:ops[i2]? =some ⟨some d2,.load t' (.tmp d),ty2,pos2,af2,none⟩)(hR:Jg st.h.get Y z ls ks)(hi:ls[j]? =some cs)(hK:QS K T)(he:Ue P t=some z)(ht:tk P t'=.one)(hx:QT G K x=some ks)(hy:QT G K i=some (.int k (j:Int)))(hv:cs[0]? =some v)(hn: ∀c m o T',QS ((d2,v)::(d,.ptr c m o)::K) T'→WD P G N ops (r.map (Yo ops)) R T' st sn)(hN:Nat.ble (d+1) N=true:=by exact rfl)(hN2:Nat.ble (d2+1) N=true:=by exact rfl):WD P G N ops (((i1,0)::(i2,0)::r).map (Yo ops)) R T st sn:=by
 obtain⟨c,m,off,rfl,_,la,lo,_⟩:=hR.load (P:=P) hi;exact d1 ho hK (Qe he hx hy (List.getElem?_eq_some_iff.1 hi).1) rfl hN fun T' K'=>d1 ho2 K' (Qg (show QT G (_::K) (.tmp d)=_ by show List.lookup d _=_;rw[List.lookup_cons];simp) (lo _ 0 _ ht hv)) rfl hN2 fun T'' K''=>hn _ _ _ _ K''
theorem Te{x i:Operand}{t:TypeId}{k:IntKind}{z j:Nat}(hR:Jg st.h.get Y z ls ks)(hi:ls[j]? =some cs)(hK:QS K T)(he:Ue P t=some z)(ht:tk P t'=.agg z)(hx:QT G K x=some ks)(hy:QT G K i=some (.int k (j:Int)))(hn: ∀c m o T',QS ((d2,.agg cs)::(d,.ptr c m o)::K) T'→WR P G N ops rest R T' st)(hN:Nat.ble (d+1) N=true:=by exact rfl)(hN2:Nat.ble (d2+1) N=true:=by exact rfl):WR P G N ops (⟨some d,.indexAddr t x i,ty,pos,af,none⟩::⟨some d2,.load t' (.tmp d),ty2,pos2,af2,none⟩::rest) R T st:=by
 obtain⟨c,m,off,rfl,_,la,lo,_⟩:=hR.load (P:=P) hi;exact o1 hK (Qe he hx hy (List.getElem?_eq_some_iff.1 hi).1) hN fun T' K'=>o1 K' (Qg (show QT G (_::K) (.tmp d)=_ by show List.lookup d _=_;rw[List.lookup_cons];simp) (la _ ht)) hN2 fun T'' K''=>hn _ _ _ _ K''
theorem kf{x i:Operand}{t:TypeId}{k:IntKind}{z j:Nat}{i1 i2:Nat}{r:List (Nat×Nat)}(ho:ops[i1]? =some ⟨some d,.indexAddr t x i,ty,pos,af,none⟩)(ho2:ops[i2]? =some ⟨some d2,.load t' (.tmp d),ty2,pos2,af2,none⟩)(hR:Jg st.h.get Y z ls ks)(hi:ls[j]? =some cs)(hK:QS K T)(he:Ue P t=some z)(ht:tk P t'=.agg z)(hx:QT G K x=some ks)(hy:QT G K i=some (.int k (j:Int)))(hn: ∀c m o T',QS ((d2,.agg cs)::(d,.ptr c m o)::K) T'→WD P G N ops (r.map (Yo ops)) R T' st sn)(hN:Nat.ble (d+1) N=true:=by exact rfl)(hN2:Nat.ble (d2+1) N=true:=by exact rfl):WD P G N ops (((i1,0)::(i2,0)::r).map (Yo ops)) R T st sn:=by
 obtain⟨c,m,off,rfl,_,la,lo,_⟩:=hR.load (P:=P) hi;exact d1 ho hK (Qe he hx hy (List.getElem?_eq_some_iff.1 hi).1) rfl hN fun T' K'=>d1 ho2 K' (Qg (show QT G (_::K) (.tmp d)=_ by show List.lookup d _=_;rw[List.lookup_cons];simp) (la _ ht)) rfl hN2 fun T'' K''=>hn _ _ _ _ K''
theorem Uq{a b:Code}{t:Bool}(hK:QS K T)(hg:QT G K g=some (.bool t))(ha:t=true→W P G N a Q T st)(hb:t=false→W P G N b Q T st):W P G N (.cond g a b) Q T st:=FW (hK.Jq hg) ha hb
theorem p1{op:Op}{v:AV}(hK:QS K T)(h:U2 P G K op st v st1)(hn: ∀T',QS ((d,v)::K) T'→WR P G N ops rest R T' st1)(hN:Nat.ble (d+1) N=true:=by exact rfl):WR P G N ops (⟨some d,op,ty,pos,af,none⟩::rest) R T st:=o1 hK h hN hn
theorem pg{j t:Nat}{op:Op}{v:AV}(hK:QS K T)(ht:Yh ops j=some t)(hb:K.lookup t=some (.bool pol))(h:U2 P G K op st v st1)(hn: ∀T',QS ((d,v)::K) T'→WR P G N ops rest R T' st1)(hN:Nat.ble (d+1) N=true:=by exact rfl):WR P G N ops (⟨some d,op,ty,pos,af,some (j,pol)⟩::rest) R T st:=og hK ht hb h hN hn
theorem q1{r:List (Nat×Nat)}{op:Op}{v:AV}(ho:ops[i]? =some ⟨some d,op,ty,pos,af,none⟩)(hK:QS K T)(h:U2 P G K op st v st1)(hn: ∀T',QS ((d,v)::K) T'→WD P G N ops (r.map (Yo ops)) R T' st1 sn)(hk:Nat.beq (QE P op) 3=false:=by exact rfl)(hN:Nat.ble (d+1) N=true:=by exact rfl):WD P G N ops (((i,0)::r).map (Yo ops)) R T st sn:=d1 ho hK h hk hN hn
theorem qA{r:List (Nat×Nat)}{op:Op}{v:AV}(ho:ops[i]? =some ⟨some d,op,ty,pos,af,none⟩)(hK:QS K T)(h:U2 P G K op st v st1)(hn: ∀T',QS ((d,v)::K) T'→WD P G N ops (r.map (Yo ops)) R T' st1 (st1::sn))(hk:Nat.beq (QE P op) 3=true:=by exact rfl)(hN:Nat.ble (d+1) N=true:=by exact rfl):WD P G N ops (((i,0)::r).map (Yo ops)) R T st sn:=dA ho hK h hk hN hn
end
end
end Go.Proofs.YtiknomepbklibaaGreatDoor
