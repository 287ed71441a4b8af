/-
  Parts filled in one by one.
-/
import Derived.Test.YtiknomepbklibaaGreatDoorFzPoolX
set_option maxRecDepth 100000
set_option linter.unusedVariables false
section
namespace Go.Proofs.YtiknomepbklibaaGreatDoor
open Go

theorem J9{place:Nat→Option (Nat×Nat)}{i off:Nat}{v:AV}{ps:List (Nat×AV)}{l l1:List AV}(hp:place i=some (off,1))(hc:Qu v=true)(ho:Zj [v] off l=some l1):X9 place ((i,v)::ps) l=X9 place ps l1:=by
 rw[F7,hp,Ql,Vl hc];show QN true (ob (Zj [v] off l) _)=_;rw[ho];rfl
theorem AG{place:Nat→Option (Nat×Nat)}{i off n:Nat}{v:AV}{ps:List (Nat×AV)}{l l1:List AV}(hp:place i=some (off,n))(hn:Nat.beq (Zg (Jl v)) n=true)(ho:Zj (Jl v) off l=some l1):X9 place ((i,v)::ps) l=X9 place ps l1:=by
 rw[F7,hp,Ql];show QN (Nat.beq (Zg (Jl v)) n) (ob (Zj (Jl v) off l) _)=_;rw[hn,ho];rfl
end Go.Proofs.YtiknomepbklibaaGreatDoor
end
section
namespace Go.Proofs.YtiknomepbklibaaGreatDoor
open Go Go.RowKit
variable {ks v:AV} {t:TypeId} {vs:List AV}

def xh(h h':Hp)(c:Nat):Prop:= ∀ro ms,h c=some (.row ro ms)→h' c=h c
structure Z6(h:Hp)(F:Nat→Prop)(cp:Nat)(A:U9)(ks:AV)(vs:List AV)(L:List (List Int)):Prop where
 acc:YO A ks vs
 row: ∀c m l,(c,m,l)∈A→Q0 h c m l∧F c∧c≠cp
 ln:vs.length=L.length
 inn: ∀(i:Nat) (s:List Int),L[i]? =some s→ ∃v,vs[i]? =some v∧Ji h [] 1 (zC s) v∧Vh s∧(v=.nils∨ ∃c m o n,v=.sl c m o n 1)∧ ∀c m o n y,v=.sl c m o n y→F c∧c≠cp∧ ∀m' l',(c,m',l')∉A
theorem Z6.frame{h h':Hp}{F:Nat→Prop}{cp:Nat}{A:U9}{ks:AV}{vs:List AV}{L:List (List Int)}(H:Z6 h F cp A ks vs L)(e: ∀c,F c→h' c=h c):Z6 h' F cp A ks vs L:=
 ⟨H.acc,fun c m l hm=>by
  obtain⟨h1,h2,h3⟩:=H.row c m l hm
  exact⟨h1.frame (e c h2),h2,h3⟩,H.ln,fun i s hi=>by
  obtain⟨v,h1,h2,h3,h4,h5⟩:=H.inn i s hi
  exact⟨v,h1,h2.frame fun c m o n y e'=>e c (h5 c m o n y e').1,h3,h4,h5⟩⟩
theorem Z6.more{h:Hp}{F F':Nat→Prop}{cp:Nat}{A:U9}{L:List (List Int)}(H:Z6 h F cp A ks vs L)(e: ∀c,F c→F' c):Z6 h F' cp A ks vs L:=
 ⟨H.acc,fun c m l hm=>by
  obtain⟨h1,h2,h3⟩:=H.row c m l hm
  exact⟨h1,e c h2,h3⟩,H.ln,fun i s hi=>by
  obtain⟨v,h1,h2,h3,h4,h5⟩:=H.inn i s hi
  exact⟨v,h1,h2,h3,h4,fun c m o n y e'=>by
   obtain⟨k1,k2⟩:=h5 c m o n y e'
   exact⟨e c k1,k2⟩⟩⟩
theorem Z6.rd{h:Hp}{F:Nat→Prop}{cp:Nat}{A:U9}{ks:AV}{vs:List AV}{L:List (List Int)}(H:Z6 h F cp A ks vs L):Ji h [] 1 (vs.map fun v=>[v]) ks:=H.acc.rd fun c m l hm=>(H.row c m l hm).1
theorem Z6.len{h:Hp}{F:Nat→Prop}{cp:Nat}{A:U9}{ks:AV}{vs:List AV}{L:List (List Int)}(H:Z6 h F cp A ks vs L):Y8 ks=some L.length:=by rw[←H.ln];exact H.acc.len
theorem Z6.snoc{h h':Hp}{F F':Nat→Prop}{cp:Nat}{A A':U9}{ks':AV}{L:List (List Int)}(H:Z6 h F cp A ks vs L){s:List Int}(hA:YO A' ks' (vs++[v]))(hr: ∀c m l,(c,m,l)∈A'→Q0 h' c m l∧F' c∧c≠cp∧((∃m l,(c,m,l)∈A)∨ ¬F c))(hF: ∀c,F c→F' c)
  (ho: ∀c,F c→c≠cp→(∀m l,(c,m,l)∉A)→xh h h' c) (hv:Ji h' [] 1 (zC s) v) (hs:Vh s) (hn:v=.nils∨ ∃c m o n,v=.sl c m o n 1) (hc: ∀c m o n y,v=.sl c m o n y→F' c∧c≠cp∧ ∀m' l',(c,m',l')∉A'):Z6 h' F' cp A' ks' (vs++[v]) (L++[s]):=by
 refine⟨hA,fun c m l hm=>?_,by rw[List.length_append,List.length_append,H.ln];rfl,fun i x hi=>?_⟩
 ·obtain⟨h1,h2,h3,_⟩:=hr c m l hm;exact⟨h1,h2,h3⟩
 ·by_cases hl:i<L.length
  ·rw[List.getElem?_append_left hl]at hi;obtain⟨u,h1,h2,h3,h4,h5⟩:=H.inn i x hi;refine⟨u,by rw[List.getElem?_append_left (by rw[H.ln];exact hl)];exact h1,?_,h3,h4,fun c m o n y e=>?_⟩
   ·exact h2.frame fun c m o n y e=>by
     obtain⟨k1,k2,k3⟩:=h5 c m o n y e;obtain⟨_,cells,⟨ro,e1,vs',ms,h6,_⟩,_⟩:=h2.alive c m o n y e;exact ho c k1 k2 k3 ro ms h6
   ·obtain⟨k1,k2,k3⟩:=h5 c m o n y e;refine⟨hF c k1,k2,fun m' l' hm=>?_⟩;obtain⟨_,_,_,h6⟩:=hr c m' l' hm;rcases h6 with⟨m2,l2,h6⟩|h6
    ·exact k3 m2 l2 h6
    ·exact h6 k1
  ·rw[List.getElem?_append_right Qe]at hi
   have h0:i-L.length=0:=by
    by_cases h:i-L.length=0
    ·exact h
    ·rw[List.getElem?_eq_none (by simp;omega)]at hi;cases hi
   rw[h0]at hi
   injection hi with hi
   subst hi;exact⟨v,by rw[List.getElem?_append_right (by rw[H.ln];omega),H.ln,h0];rfl,hv,hs,hn,hc⟩
def Z7(h:Hp)(F:Nat→Prop)(cp:Nat)(L:List (List Int)):Prop:=
 ∃ks cm es k A vs,Q0 h cp 0 [ks,.mp cm]∧F cp∧F cm∧h cm=some (.map es k)∧es.map va=WC 0 L∧Z6 h F cp A ks vs L∧L.Nodup
theorem Z7.frame{h h':Hp}{F:Nat→Prop}{cp:Nat}{L:List (List Int)}(H:Z7 h F cp L)(e: ∀c,F c→h' c=h c):Z7 h' F cp L:=by
 obtain⟨ks,cm,es,k,A,vs,h1,h2,h3,h4,h5,h6,h7⟩:=H;exact⟨ks,cm,es,k,A,vs,h1.frame (e cp h2),h2,h3,by rw[e cm h3];exact h4,h5,h6.frame e,h7⟩
structure UH(F:Nat→Prop)(st st':St):Prop where
 fresh:Qj st'
 le:st.n≤st'.n
 J6: ∀c,c<st.n→ ¬F c→st'.h.get c=st.h.get c
theorem Qt.JM{st st':St}(q:Qt st st')(F:Nat→Prop):UH F st st':=⟨q.fresh,q.le,fun c hc _=>q.J6 c hc⟩
theorem Mem.yx{st st1:St}{M0:U9}(hf:Qj st)(hM:Mem st.h.get st.n [] st1 M0)(Rw:U9)(hR: ∀c m l,(c,m,l)∈Rw→Q0 st.h.get c m l)(hn:(Rw.map Prod.fst).Nodup):Mem st1.h.get st1.n ((Rw++M0).map Prod.fst) st1 (Rw++M0):=by
 refine Mem.Pr hM.fresh (Rw++M0) (fun c m l hm=>?_) ?_
 ·rcases List.mem_append.1 hm with hm|hm
  ·exact(hR c m l hm).NP hf hM.NP QA
  ·exact hM.row c m l hm
 ·rw[List.map_append];refine List.nodup_append.2 ⟨hn,hM.nodup,fun a ha b hb e=>?_⟩;subst e;obtain⟨⟨c,m,l⟩,h1,h2⟩:=List.mem_map.1 ha;obtain⟨⟨c',m',l'⟩,h3,h4⟩:=List.mem_map.1 hb;have k1:=(hR c m l h1).lt hf;simp only at h2 h4;rcases hM.own c' m' l' h3 with k2|k2
  ·omega
  ·cases k2
theorem YO.nodup{A:U9}(h:YO A ks vs):(A.map Prod.fst).Nodup:=by cases h<;>simp
theorem Mem.mapped{h0:Hp}{n0:Nat}{X:List Nat}{st:St}{M:U9}(hM:Mem h0 n0 X st M){cm n:Nat}{es:List (AV×AV×Nat)}(hc:st.h.get cm=some (.map es n))(s:List Int)(z:Int):
  Mem (W6 st cm n es s z).h.get (W6 st cm n es s z).n (M.map Prod.fst) (W6 st cm n es s z) M∧UH (fun c=>c=cm) st (W6 st cm n es s z):=by
 have hlt:cm<st.n:=Nat.lt_of_not_le fun hle=>by rw[hM.fresh cm hle]at hc;cases hc
 have hf:=CY hM.fresh hlt n es s z;refine⟨Mem.Pr hf M (fun c m l hm=>?_) hM.nodup,hf,Nat.le_refl _,fun c hc' hne=>EO _ _ _ _ _ hne⟩;have hr:=hM.row c m l hm;exact Q0.frame hr (EO _ _ _ _ _ (Q0.Su hr hc))
theorem Mem.xG{P:Program}{h0:Hp}{n0:Nat}{X:List Nat}{st:St}{L A B:U9}(hM:Mem h0 n0 X st (L++(A++B)))(hA:YO A ks vs){e:TypeId}(T:FQ P t e 1){k2 c2 m2:Nat}(hk:(L++(A++B))[k2]? =some (c2,m2,[v]))(hb:vs.length+1≤1000000000):
  ∃ks' A' st1,Yf P [t,t] ks (.sl c2 m2 0 1 1) st=some (ks',st1)∧YO A' ks' (vs++[v])∧Mem h0 n0 X st1 (L++(A'++B))∧ ∀c m l,(c,m,l)∈A'→(∃m l,(c,m,l)∈A)∨st.n≤c:=by
 have hr:=(hM.UX hk).Jd
 cases hA with
 |none=>
  have h1:=append_nil (st:=st) T (n:=1) (z2:=1) (J2:=0) hr QA QE QE;refine⟨_,[(st.n,0,[v])],_,h1,?_,?_,fun c m l hm=>?_⟩
  ·exact .own (vs:=[v]) QA
  ·have h2:=hM.alloc [v];have h3:=h2.perm (M':=L++([(st.n,0,[v])]++B)) (by simpa using(List.perm_middle (l₁:=L) (l₂:=B) (a:=(st.n,0,[v]))).symm)
   simpa using h3
  ·simp at hm;exact .inr Qe
 |own hb'=>
  rename_i c m;obtain⟨m',st1,h1,h2,_⟩:=hM.append (P:=P) T (k:=L.length) (c:=c) (m:=m) (len:=vs.length) (c2:=c2) (m2:=m2) (J2:=0) (n:=1) (z2:=1) (l:=vs) (l2:=[v]) (B5 L B (c,m,vs)) QA hr QA QE hb;rw[GK]at h2;refine⟨_,[(c,m',vs++[v])],st1,h1,?_,by simpa using h2,fun c' m2 l hm=>?_⟩
  ·have:=YO.own (c:=c) (m:=m') (vs:=vs++[v]) (by simpa using hb);rw[List.length_append]at this;exact this
  ·simp at hm;exact .inl ⟨m,vs,by simp[hm.1]⟩
section
variable {P:Program} {G:Env} {N:Nat} {h0:Hp} {n0:Nat} {X:List Nat} {st:St} {L A B:U9} {T:Tr AV} {ops rest:List Oper} {K:List (Nat×AV)} {R:Tr AV→St→Prop} {d:Nat} {ty:TypeId} {pos:String} {af:Array Edge}
theorem YG{x y:Operand}{e:TypeId}{c2 m2 k2:Nat}(hK:QY K T)(hM:Mem h0 n0 X st (L++(A++B)))(hA:YO A ks vs)(S:FQ P t e 1)(hx:QX G K x=some ks)(hy:QX G K y=some (.sl c2 m2 0 1 1))(hk:(L++(A++B))[k2]? =some (c2,m2,[v]))(hb:vs.length+1≤1000000000)(hN:Nat.ble (d+1) N=true)
  (hn: ∀(ks':AV) A' T' st',QY ((d,ks')::K) T'→YO A' ks' (vs++[v])→(∀c m l,(c,m,l)∈A'→(∃m l,(c,m,l)∈A)∨st.n≤c)→Mem h0 n0 X st' (L++(A'++B))→WR P G N ops rest R T' st'):WR P G N ops (⟨some d,.call {callee:=.builtin .append,args:= #[x,y],argTypes:= #[t,t]},ty,pos,af,none⟩::rest) R T st:=by
 obtain⟨ks',A',st1,h1,h2,h3,h4⟩:=hM.xG hA S hk hb;exact Eo hK (ZD rfl hx hy h1) (Nat.le_of_ble_eq_true hN) fun T' hT'=>hn ks' A' T' st1 hT' h2 h4 h3
theorem A0{sn:List St}{i:Nat}{rr:List (Nat×Nat)}{x:Operand}{lo hi:Option Operand}{l:List Int}{a b:Nat}(ho:ops[i]? =some ⟨some d,.slice t x lo hi none,ty,pos,af,none⟩)(hK:QY K T)(he:U0 P t=some 1)(r:Ji st.h.get [] 1 (zC l) v)(hs:v=.nils∨ ∃c m o n,v=.sl c m o n 1)(hx:QX G K x=some v)(hl:YK (QX G K) lo=some a)(hh:YL (QX G K) hi l.length=some b)(h1:a≤b)(h2:b≤l.length)(hN:Nat.ble (d+1) N=true)
  (hn: ∀(v2:AV) T',QY ((d,v2)::K) T'→Ji st.h.get [] 1 (zC ((l.drop a).take (b-a))) v2→Qu v2=true→WD P G N ops (rr.map (Yl ops)) R T' st sn):WD P G N ops (((i,0)::rr).map (Yl ops)) R T st sn:=by
 obtain⟨v2,h3,h4,h5⟩:=TF (G:=G) (K:=K) (st:=st) (lo:=lo) (hi:=hi) he r hs hx hl hh h1 h2;exact OD ho hK h3 rfl (Nat.le_of_ble_eq_true hN) fun T' hT'=>hn v2 T' hT' h4 h5
end
theorem Acc.Sv{n0:Nat}{A:U9}{ls:List (List AV)}(h:Acc n0 1 A ks ls):ks=.nils∨ ∃c m o n,ks=.sl c m o n 1:=by
 cases h with
 |none=>exact .inl rfl
 |own=>exact .inr ⟨_,_,_,_,rfl⟩
theorem Ak.Sv{n0:Nat}{A:U9}{l:List Int}(h:Ak n0 A ks l):ks=.nils∨ ∃c m o n,ks=.sl c m o n 1:=by
 cases h with
 |none=>exact .inl rfl
 |own=>exact .inr ⟨_,_,_,_,rfl⟩
end Go.Proofs.YtiknomepbklibaaGreatDoor
end
section
namespace Go.Proofs.YtiknomepbklibaaGreatDoor
open Go

theorem Us:tk Tryz.prog 22=.one:=by kernel_rfl
theorem UF:YH Tryz.prog 22=some 1:=by kernel_rfl
theorem Ur:Tryz.prog.underlying 22=some (.slice 4):=by kernel_rfl
theorem Jv:U0 Tryz.prog 22=some 1:=by kernel_rfl
theorem Jb:tk Tryz.prog 25=.agg 3:=by kernel_rfl
theorem QF:YH Tryz.prog 25=some 3:=by kernel_rfl
theorem Y1:zeroOf Tryz.prog 25=some [.int .i64 0,.nils,.nils]:=by kernel_rfl
theorem Oz:QJ Tryz.prog 25 0=some 0:=by kernel_rfl
theorem Oy:QJ Tryz.prog 25 1=some 1:=by kernel_rfl
theorem Ox:QJ Tryz.prog 25 2=some 2:=by kernel_rfl
theorem Zq(l:List AV):Ix Tryz.prog 25 (.agg l) 2=XT Tryz.prog 23 l 2:=by kernel_rfl
theorem VG:Pc Tryz.prog 25 [(0,1),(1,1),(2,1)] [.int .i64 0,.nils,.nils]:=⟨⟨_,Tryz.underlying25,by kernel_rfl,by kernel_rfl⟩,Y1⟩
theorem HZ:tk Tryz.prog 27=.one:=by kernel_rfl
theorem Ws:Tryz.prog.underlying 27=some (.pointer 65):=by kernel_rfl
theorem UE:tk Tryz.prog 29=.one:=by kernel_rfl
theorem AY:zeroOf Tryz.prog 29=some [.nilp]:=by kernel_rfl
theorem Ul:Tryz.prog.underlying 29=some (.pointer 86):=by kernel_rfl
theorem Xb:tk Tryz.prog 36=.one:=by kernel_rfl
theorem E6:zeroOf Tryz.prog 65=some [.int .i64 0,.bool false]:=by kernel_rfl
theorem Iv:QJ Tryz.prog 65 0=some 0:=by kernel_rfl
theorem Iu:QJ Tryz.prog 65 1=some 1:=by kernel_rfl
theorem Lp:Pc Tryz.prog 65 [(0,1),(1,1)] [.int .i64 0,.bool false]:=⟨⟨_,Tryz.underlying65,by kernel_rfl,by kernel_rfl⟩,E6⟩
theorem AU:zeroOf Tryz.prog 71=some [.nilp,.nilp]:=by kernel_rfl
theorem Kt:QJ Tryz.prog 71 0=some 0:=by kernel_rfl
theorem Ks:QJ Tryz.prog 71 1=some 1:=by kernel_rfl
theorem NT:Pc Tryz.prog 71 [(0,1),(1,1)] [.nilp,.nilp]:=⟨⟨_,Tryz.underlying71,by kernel_rfl,by kernel_rfl⟩,AU⟩
theorem Vq:tk Tryz.prog 77=.agg 2:=by kernel_rfl
theorem Zy:zeroOf Tryz.prog 77=some [.int .i64 0,.int .i64 0]:=by kernel_rfl
theorem EV:QJ Tryz.prog 77 0=some 0:=by kernel_rfl
theorem EU:QJ Tryz.prog 77 1=some 1:=by kernel_rfl
theorem Fw:Pc Tryz.prog 77 [(0,1),(1,1)] [.int .i64 0,.int .i64 0]:=⟨⟨_,Tryz.underlying77,by kernel_rfl,by kernel_rfl⟩,Zy⟩
theorem Ug:Tryz.prog.underlying 78=some (.slice 77):=by kernel_rfl
theorem Ui:U0 Tryz.prog 78=some 2:=by kernel_rfl
theorem JJ:tk Tryz.prog 84=.one:=by kernel_rfl
theorem ZL:Tryz.prog.underlying 84=some (.pointer 125):=by kernel_rfl
theorem IG:zeroOf Tryz.prog 86=some [.nils,.nils,.nilp]:=by kernel_rfl
theorem On:QJ Tryz.prog 86 0=some 0:=by kernel_rfl
theorem Om:QJ Tryz.prog 86 1=some 1:=by kernel_rfl
theorem Ol:QJ Tryz.prog 86 2=some 2:=by kernel_rfl
theorem IL:Pc Tryz.prog 86 [(0,1),(1,1),(2,1)] [.nils,.nils,.nilp]:=⟨⟨_,Tryz.underlying86,by kernel_rfl,by kernel_rfl⟩,IG⟩
theorem XP:zeroOf Tryz.prog 105=some [.int .i64 0,.bool false]:=by kernel_rfl
theorem E4:QJ Tryz.prog 105 0=some 0:=by kernel_rfl
theorem E0:QJ Tryz.prog 105 1=some 1:=by kernel_rfl
theorem AO:Pc Tryz.prog 105 [(0,1),(1,1)] [.int .i64 0,.bool false]:=⟨⟨_,Tryz.underlying105,by kernel_rfl,by kernel_rfl⟩,XP⟩
theorem ZK:zeroOf Tryz.prog 109=some [.nilp,.bool false,.bool false]:=by kernel_rfl
theorem We:QJ Tryz.prog 109 0=some 0:=by kernel_rfl
theorem Wd:QJ Tryz.prog 109 1=some 1:=by kernel_rfl
theorem Wc:QJ Tryz.prog 109 2=some 2:=by kernel_rfl
theorem WN:Pc Tryz.prog 109 [(0,1),(1,1),(2,1)] [.nilp,.bool false,.bool false]:=⟨⟨_,Tryz.underlying109,by kernel_rfl,by kernel_rfl⟩,ZK⟩
theorem Ep:Tryz.prog.underlying 111=some (.slice 29):=by kernel_rfl
theorem Zw:U0 Tryz.prog 111=some 1:=by kernel_rfl
theorem UD:tk Tryz.prog 122=.one:=by kernel_rfl
theorem Fb:YH Tryz.prog 122=some 1:=by kernel_rfl
theorem Xr:Tryz.prog.underlying 122=some (.slice 132):=by kernel_rfl
theorem YC:U0 Tryz.prog 122=some 1:=by kernel_rfl
theorem Hd:tk Tryz.prog 123=.one:=by kernel_rfl
theorem FZ:zeroOf Tryz.prog 125=some [.int .i64 0,.nils,.nilm]:=by kernel_rfl
theorem Nk:QJ Tryz.prog 125 0=some 0:=by kernel_rfl
theorem Nj:QJ Tryz.prog 125 1=some 1:=by kernel_rfl
theorem Ni:QJ Tryz.prog 125 2=some 2:=by kernel_rfl
theorem GI:Pc Tryz.prog 125 [(0,1),(1,1),(2,1)] [.int .i64 0,.nils,.nilm]:=⟨⟨_,Tryz.underlying125,by kernel_rfl,by kernel_rfl⟩,FZ⟩
theorem YR:tk Tryz.prog 132=.one:=by kernel_rfl
theorem E7:zeroOf Tryz.prog 132=some [.nili]:=by kernel_rfl
theorem Fa:YH Tryz.prog 164=some 3:=by kernel_rfl
theorem VR:zeroOf Tryz.prog 164=some [.int .i64 0,.bool false,.int .i64 0]:=by kernel_rfl
theorem KC:QJ Tryz.prog 164 0=some 0:=by kernel_rfl
theorem KB:QJ Tryz.prog 164 1=some 1:=by kernel_rfl
theorem KA:QJ Tryz.prog 164 2=some 2:=by kernel_rfl
theorem NW:Pc Tryz.prog 164 [(0,1),(1,1),(2,1)] [.int .i64 0,.bool false,.int .i64 0]:=⟨⟨_,Tryz.underlying164,by kernel_rfl,by kernel_rfl⟩,VR⟩
theorem Th:tk Tryz.prog 168=.agg 3:=by kernel_rfl
theorem Ti:YH Tryz.prog 168=some 3:=by kernel_rfl
theorem OB:zeroOf Tryz.prog 168=some [.int .i64 0,.int .i64 0,.int .i64 0]:=by kernel_rfl
theorem Zu:tk Tryz.prog 172=.one:=by kernel_rfl
theorem EA:tk Tryz.prog 173=.one:=by kernel_rfl
theorem IJ:YH Tryz.prog 173=some 1:=by kernel_rfl
theorem X1:Tryz.prog.underlying 173=some (.slice 177):=by kernel_rfl
theorem D5:U0 Tryz.prog 173=some 2:=by kernel_rfl
theorem AW:zeroOf Tryz.prog 175=some [.nilm,.nils,.nilp]:=by kernel_rfl
theorem Kw:QJ Tryz.prog 175 0=some 0:=by kernel_rfl
theorem Kv:QJ Tryz.prog 175 1=some 1:=by kernel_rfl
theorem Ku:QJ Tryz.prog 175 2=some 2:=by kernel_rfl
theorem NU:Pc Tryz.prog 175 [(0,1),(1,1),(2,1)] [.nilm,.nils,.nilp]:=⟨⟨_,Tryz.underlying175,by kernel_rfl,by kernel_rfl⟩,AW⟩
theorem Jq:tk Tryz.prog 181=.agg 3:=by kernel_rfl
theorem Kn:YH Tryz.prog 181=some 3:=by kernel_rfl
theorem En:zeroOf Tryz.prog 181=some [.nilf,.int .i64 0,.int .i64 0]:=by kernel_rfl
theorem HB:QJ Tryz.prog 181 0=some 0:=by kernel_rfl
theorem HA:QJ Tryz.prog 181 1=some 1:=by kernel_rfl
theorem H9:QJ Tryz.prog 181 2=some 2:=by kernel_rfl
theorem Ko:Pc Tryz.prog 181 [(0,1),(1,1),(2,1)] [.nilf,.int .i64 0,.int .i64 0]:=⟨⟨_,Tryz.underlying181,by kernel_rfl,by kernel_rfl⟩,En⟩
theorem IE:zeroOf Tryz.prog 193=some [.int .i64 0]:=by kernel_rfl
theorem Og:QJ Tryz.prog 193 0=some 0:=by kernel_rfl
theorem Cs:Pc Tryz.prog 193 [(0,1)] [.int .i64 0]:=⟨⟨_,Tryz.underlying193,by kernel_rfl,by kernel_rfl⟩,IE⟩
theorem Cm:YH Tryz.prog 195=some 3:=by kernel_rfl
theorem IF:zeroOf Tryz.prog 195=some [.int .i64 0,.int .i64 0,.int .i64 0]:=by kernel_rfl
theorem Oj:QJ Tryz.prog 195 0=some 0:=by kernel_rfl
theorem Oi:QJ Tryz.prog 195 1=some 1:=by kernel_rfl
theorem Oh:QJ Tryz.prog 195 2=some 2:=by kernel_rfl
theorem Ct:Pc Tryz.prog 195 [(0,1),(1,1),(2,1)] [.int .i64 0,.int .i64 0,.int .i64 0]:=⟨⟨_,Tryz.underlying195,by kernel_rfl,by kernel_rfl⟩,IF⟩
theorem AX:zeroOf Tryz.prog 211=some [.nilp,.nilf,.nilm]:=by kernel_rfl
theorem Kz:QJ Tryz.prog 211 0=some 0:=by kernel_rfl
theorem Ky:QJ Tryz.prog 211 1=some 1:=by kernel_rfl
theorem Kx:QJ Tryz.prog 211 2=some 2:=by kernel_rfl
theorem NV:Pc Tryz.prog 211 [(0,1),(1,1),(2,1)] [.nilp,.nilf,.nilm]:=⟨⟨_,Tryz.underlying211,by kernel_rfl,by kernel_rfl⟩,AX⟩
theorem J3:FQ Tryz.prog 22 4 1:=⟨Ur,by kernel_rfl,⟨_,XU,rfl⟩,by kernel_rfl,by decide,by decide+kernel⟩
theorem X3:FQ Tryz.prog 78 77 2:=⟨Ug,by kernel_rfl,⟨_,Zy,rfl⟩,by kernel_rfl,by decide,by decide+kernel⟩
theorem Y7:FQ Tryz.prog 111 29 1:=⟨Ep,by kernel_rfl,⟨_,AY,rfl⟩,by kernel_rfl,by decide,by decide+kernel⟩
theorem VV:FQ Tryz.prog 122 132 1:=⟨Xr,by kernel_rfl,⟨_,E7,rfl⟩,by kernel_rfl,by decide,by decide+kernel⟩
theorem ED:FQ Tryz.prog 173 177 2:=⟨X1,by kernel_rfl,⟨_,Z9,rfl⟩,by kernel_rfl,by decide,by decide+kernel⟩
end Go.Proofs.YtiknomepbklibaaGreatDoor
end
