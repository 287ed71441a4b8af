/-
  Size, Depth, IsTerm, IsFormula: the program's answer, the reference's. TreeIs.
-/
import Derived.Test.YthjgndgnmkiaiaaGreatDoorZpTrC
set_option maxHeartbeats 8000000
set_option maxRecDepth 100000
set_option linter.unusedSimpArgs false
set_option linter.unusedVariables false
namespace Go.Proofs.YthjgndgnmkiaiaaGreatDoor
open Go Go.RowKit
section
variable {a z:Int} {cs:List AV} {l:List Nd} {o s:List Nat} {st:St}

def VG(x:Nd)(m:Int):Bool:=decide (min ((YT x:Nat):Int) 2001≤m)&&decide (min ((ua x:Nat):Int) 31≤30)
theorem NV(hf:Q3 st)(hr:XW st.h.get (.mk o s z a l) cs): ∃v st',Ev Tryz.prog JF 4 [.agg cs] st v st'∧v=iZ (min ((YT (.mk o s z a l):Nat):Int) 2001)∧Qt st st':=by
 have hr0:=hr;obtain⟨kk,ls,rfl,hK,hb⟩:=hr.J3;have hln:=hK.ln;have hbn:=hK.W9;refine XB Tryz.func4 Tryz.ntmps4 fun T K=>?_;have M:=Mem.start hf;refine Qg 0 K M fun _ K=>?_;refine Y8 K M rfl (Qa rfl (Qa rfl (Qa rfl (Qa rfl (Qa hK.cell QV))))) Qo fun c1 _ _ K M=>?_;refine Qg 2 K M fun _ K=>?_;refine oQ K M (uf _ 2001 _ _ M.fresh (hr0.mono M.rows) Qo Qo) rfl rfl fun _ _ K M=>?_;refine Qg 1 K M ?_;exact⟨rfl,M.qt⟩

theorem jh(hf:Q3 st)(hr:XW st.h.get (.mk o s z a l) cs): ∃v st',Ev Tryz.prog JF 53 [.agg cs] st v st'∧v=iZ (min ((ua (.mk o s z a l):Nat):Int) 31)∧Qt st st':=by
 have hr0:=hr;obtain⟨kk,ls,rfl,hK,hb⟩:=hr.J3;have hln:=hK.ln;have hbn:=hK.W9;refine XB Tryz.func53 Tryz.ntmps53 fun T K=>?_;have M:=Mem.start hf;refine Qg 0 K M fun _ K=>?_;refine Y8 K M rfl (Qa rfl (Qa rfl (Qa rfl (Qa rfl (Qa hK.cell QV))))) Qo fun c1 _ _ K M=>?_;refine Qg 2 K M fun _ K=>?_;refine oQ K M (vb _ 31 _ _ M.fresh (hr0.mono M.rows) Qo Qo) rfl rfl fun _ _ K M=>?_;refine Qg 1 K M ?_;exact⟨rfl,M.qt⟩

theorem yn(hf:Q3 st)(hr:XW st.h.get (.mk o s z a l) cs): ∃v st',Ev Tryz.prog JF 25 [.agg cs] st v st'∧v=.bool (VG (.mk o s z a l) 2000)∧Qt st st':=by
 have hr0:=hr;obtain⟨kk,ls,rfl,hK,hb⟩:=hr.J3;have hln:=hK.ln;have hbn:=hK.W9;refine XB Tryz.func25 Tryz.ntmps25 fun T K=>?_;have M:=Mem.start hf;refine Qg 0 K M fun _ K=>?_;refine Y8 K M rfl (Qa rfl (Qa rfl (Qa rfl (Qa rfl (Qa hK.cell QV))))) Qo fun c1 _ _ K M=>?_;refine Qg 2 K M fun _ K=>?_;refine oQ K M (jh M.fresh (hr0.mono M.rows)) rfl rfl fun _ _ K M=>?_;refine Qg 1 K M fun _ K=>?_;refine No K rfl (fun _ e6 K=>?_) fun _ e6 K=>?_
 ·refine Qg 5 K M ?_;refine⟨congrArg AV.bool ?_,M.qt⟩;rw[VG]
  simp_all<;>(intros;omega)
 refine Qg 1 K M fun _ K=>?_;obtain⟨v8,st8,ev8,rfl,q8⟩:=NV M.fresh (hr0.mono M.rows);refine pg K rfl rfl (Qh rfl ev8) fun _ K=>?_;replace M:=M.quiet q8;refine Qg 3 K M ?_;refine⟨congrArg AV.bool ?_,M.qt⟩;rw[VG]
 simp_all<;>(intros;omega)

theorem Hb(hf:Q3 st)(hr:XW st.h.get (.mk o s z a l) cs): ∃v st',Ev Tryz.prog JF 13 [.agg cs] st v st'∧v=.bool (VG (.mk o s z a l) 2000&&Jg (.mk o s z a l))∧Qt st st':=by
 have hr0:=hr;obtain⟨kk,ls,rfl,hK,hb⟩:=hr.J3;have hln:=hK.ln;have hbn:=hK.W9;refine XB Tryz.func13 Tryz.ntmps13 fun T K=>?_;have M:=Mem.start hf;refine Qg 0 K M fun _ K=>?_;refine Y8 K M rfl (Qa rfl (Qa rfl (Qa rfl (Qa rfl (Qa hK.cell QV))))) Qo fun c1 _ _ K M=>?_;refine Qg 2 K M fun _ K=>?_;refine oQ K M (yn M.fresh (hr0.mono M.rows)) rfl rfl fun _ _ K M=>?_;refine oB K (Q7 rfl) rfl fun b5 _ e5 K=>?_;cases b5
 ·refine Qg 4 K M ?_;refine⟨congrArg AV.bool ?_,M.qt⟩
  simp_all
 refine Qg 1 K M fun _ K=>?_;obtain⟨v7,st7,ev7,rfl,q7⟩:=yR _ _ _ M.fresh (hr0.mono M.rows);refine pg K rfl rfl (Qh rfl ev7) fun _ K=>?_;replace M:=M.quiet q7;refine Qg 2 K M ?_;refine⟨congrArg AV.bool ?_,M.qt⟩
 simp_all

end
section
variable {a b:List Nd}

theorem Lx{i:Nat}{k k':Nd}(ha:a[i]? =some k)(hb:b[i]? =some k'):Yd (a.drop i) (b.drop i)=(Un k k'&&Yd (a.drop (i+1)) (b.drop (i+1))):=by
 obtain⟨h1,h2⟩:=List.getElem?_eq_some_iff.1 ha;obtain⟨h3,h4⟩:=List.getElem?_eq_some_iff.1 hb;rw[List.drop_eq_getElem_cons h1,List.drop_eq_getElem_cons h3,h2,h4,Yd]
theorem SB(h:Yd a b=true):a.length=b.length:=by
 induction a generalizing b with
 |nil=>cases b with
  |nil=>rfl
  |cons _ _=>cases h
 |cons k l ih=>cases b with
  |nil=>cases h
  |cons k' r=>
   rw[Yd,Bool.and_eq_true]at h;rw[List.length_cons,List.length_cons,ih h.2]
theorem I5(h: ¬((a.length:Nat):Int)=((b.length:Nat):Int)):Yd a b=false:=by
 cases e:Yd a b with
 |false=>rfl
 |true=>exact absurd (congrArg (fun n:Nat=>(n:Int)) (SB e)) h
def Nd.num:Nd→Int
 |.mk _ _ n _ _=>n
theorem Px(x:Nd): ∀(y:Nd) (st:St) (cs ct:List AV),Q3 st→XW st.h.get x cs→XW st.h.get y ct→ ∃v st',Ev Tryz.prog JF 22 [.agg cs,.agg ct] st v st'∧v=.bool (Un x y)∧Qt st st':=by
 refine H4 (M:=fun x=> ∀(y:Nd) (st:St) (cs ct:List AV),Q3 st→XW st.h.get x cs→XW st.h.get y ct→ ∃v st',Ev Tryz.prog JF 22 [.agg cs,.agg ct] st v st'∧v=.bool (Un x y)∧Qt st st') (fun o s z a l ih=>?_) x;intro y st cs ct hf hr hr';obtain⟨ow,sw,zw,aw,lw⟩:=y;have hr0:=hr;have hrw:=hr';obtain⟨kk,ls,rfl,hK,hb⟩:=hr.J3;obtain⟨kkw,lsw,rfl,hKw,hbw⟩:=hr'.J3;have hln:=hK.ln;have hbn:=hK.W9;have hbw:=hKw.W9;refine XB Tryz.func22 Tryz.ntmps22 fun T K=>?_;have M:=Mem.start hf;refine Qg 0 K M fun _ K=>?_;refine Y8 K M rfl (Qa rfl (Qa rfl (Qa rfl (Qa rfl (Qa hK.cell QV))))) Qo fun c2 _ _ K M=>?_;refine Y8 K M rfl (Qa rfl (Qa rfl (Qa rfl (Qa rfl (Qa hKw.cell QV))))) Qo fun c3 _ _ K M=>?_;refine Qg 6 K M fun _ K=>?_;refine oB K (Q7 rfl) rfl fun b11 _ e11 K=>?_;cases b11
 ·replace e11:(o=ow):=by simpa using e11
  refine Qg 6 K M fun _ K=>?_;refine oB K (Q7 rfl) rfl fun b18 _ e18 K=>?_;cases b18
  ·replace e18:(s=sw):=by simpa using e18
   refine Qg 6 K M fun _ K=>?_;refine oB K (Q7 rfl) rfl fun b25 _ e25 K=>?_;cases b25
   ·replace e25:(z=zw):=by simpa using e25
    refine Qg 2 K M fun _ K=>?_;refine pg K rfl rfl (Jp Jj rfl rfl hK.len) fun _ K=>?_;refine Qg 2 K M fun _ K=>?_;refine pg K rfl rfl (Jp Jj rfl rfl hKw.len) fun _ K=>?_;refine Qg 2 K M fun _ K=>?_;refine oL K rfl (fun h33=>?_) fun h33=>?_
    ·refine Qg 1 K M ?_;refine⟨congrArg AV.bool ?_,M.qt⟩;rw[Un]
     try clear M
     try clear ih
     try clear hr
     try clear hr0
     try clear hp
     try clear hn
     try clear hK
     try clear hb
     try clear hc
     try clear hm
     try clear hpw
     try clear hnw
     try clear hKw
     try clear hbw
     try clear hcw
     try clear hmw
     try clear hln
     try clear hbn
     try clear hf
     first|(rw[I5 (by assumption)];simp;done)|(simp_all;done)
    refine Qg 1 K M fun _ K=>?_;refine UE (fun mm1 T st9=> ∃(i:Nat),mm1=l.length-i∧Jn [(2,.ptr c2 0 0),(3,.ptr c3 0 0),(5,iN i)] T∧Mem st.h.get st.n [] st9 [(c3,0,[.str ow,.str sw,iZ zw,iZ aw,kkw]),(c2,0,[.str o,.str s,iZ z,iZ a,kk])]∧i≤l.length∧Yd l lw=Yd (l.drop i) (lw.drop i)) (fun mm1 T st9 hI=>?_) _ _ _ ⟨0,rfl,(K.sub rfl),M.less (.refl _),(Nat.zero_le _),rfl⟩;obtain⟨i,rfl,K,M,hi,hx⟩:=hI;refine Qg 3 K M fun _ K=>?_;refine p1 K (Jp Jj rfl rfl hK.len) fun _ K=>?_;refine Qg 1 K M fun _ K=>?_;refine WU K rfl (fun h38=>?_) fun h38=>?_
    ·refine Qg 0 K M fun _ K=>?_;refine QU (l:=[(0,0),(1,0),(2,0),(3,0),(4,0),(5,0),(6,0),(7,0),(8,0),(9,0),(10,0),(11,0)]) (by kernel_rfl) ?_;refine Ue 3 K M fun _ K=>?_;obtain⟨⟨o44,s44,z44,a44,l44⟩,hi44⟩: ∃k,l[i]? =some k:=⟨_,List.getElem?_eq_getElem (by first|omega|(have:=bare_len (m:=1) (l:=l) (by assumption);omega)|(have:=bare_len (m:=2) (l:=l) (by assumption);omega)|(have:=Q5 (m:=1) (l:=l) (by assumption);omega))⟩;have hm44:=J7 hi44;obtain⟨_,hc44,hn44⟩:=hK.at_ _ _ hi44;have hp44:=hn44;obtain⟨kk44,ls44,rfl,hK44,hb44⟩:=hp44.J3;refine iT rfl rfl (hK.r.mem M Q1) hc44 K QB Qs rfl rfl fun _ _ _ _ K=>?_;refine Ue 3 K M fun _ K=>?_;obtain⟨⟨o49,s49,z49,a49,l49⟩,hi49⟩: ∃k,lw[i]? =some k:=⟨_,List.getElem?_eq_getElem (by first|omega|(have:=bare_len (m:=1) (l:=l) (by assumption);omega)|(have:=bare_len (m:=2) (l:=l) (by assumption);omega)|(have:=Q5 (m:=1) (l:=l) (by assumption);omega))⟩;have hm49:=J7 hi49;obtain⟨_,hc49,hn49⟩:=hKw.at_ _ _ hi49;have hp49:=hn49;obtain⟨kk49,ls49,rfl,hK49,hb49⟩:=hp49.J3;refine iT rfl rfl (hKw.r.mem M Q1) hc49 K QB Qs rfl rfl fun _ _ _ _ K=>?_;obtain⟨v51,st51,ev51,rfl,q51⟩:=ih _ hm44 _ _ _ _ M.fresh (hn44.mono M.rows) (hn49.mono M.rows);refine qA rfl K (Qh rfl ev51) fun _ K=>?_;replace M:=M.quiet q51;refine q1 rfl K (zt rfl) fun _ K=>QZ ?_;show W _ _ _ _ _ _ _;refine Zb K rfl (fun h52=>?_) fun h52=>?_
     ·have hb52:=h52
      replace h52:(Un (.mk o44 s44 z44 a44 l44) (.mk o49 s49 z49 a49 l49))=false:=by simpa using h52
      refine Qg 1 K M ?_;refine⟨congrArg AV.bool ?_,M.qt⟩;rw[Un,hx,Lx hi44 hi49];simp[h52]
     have hb52:=h52
     replace h52:(Un (.mk o44 s44 z44 a44 l44) (.mk o49 s49 z49 a49 l49))=true:=by simpa using h52
     refine Qg 3 K M fun _ K=>?_;exact⟨_,Qk,i+1,rfl,(K.sub rfl),M.less (.refl _),Qk,(by rw[hx,Lx hi44 hi49];simp[h52])⟩
    refine Uz ?_;show W _ _ _ _ _ _ _;refine Qg 1 K M ?_;refine⟨congrArg AV.bool ?_,M.qt⟩;rw[Un,hx,J0 Qk,J0 Qk,Yd]
    try clear M
    try clear ih
    try clear hr
    try clear hr0
    try clear hp
    try clear hn
    try clear hK
    try clear hb
    try clear hc
    try clear hm
    try clear hpw
    try clear hnw
    try clear hKw
    try clear hbw
    try clear hcw
    try clear hmw
    try clear hln
    try clear hbn
    try clear hf
    simp_all
   replace e25: ¬(z=zw):=by simpa using e25
   refine Qg 10 K M ?_;refine⟨congrArg AV.bool ?_,M.qt⟩;rw[Un]
   try clear M
   try clear ih
   try clear hr
   try clear hr0
   try clear hp
   try clear hn
   try clear hK
   try clear hb
   try clear hc
   try clear hm
   try clear hpw
   try clear hnw
   try clear hKw
   try clear hbw
   try clear hcw
   try clear hmw
   try clear hln
   try clear hbn
   try clear hf
   first|(rw[I5 (by assumption)];simp;done)|(simp_all;done)
  replace e18: ¬(s=sw):=by simpa using e18
  refine Qg 17 K M ?_;refine⟨congrArg AV.bool ?_,M.qt⟩;rw[Un]
  try clear M
  try clear ih
  try clear hr
  try clear hr0
  try clear hp
  try clear hn
  try clear hK
  try clear hb
  try clear hc
  try clear hm
  try clear hpw
  try clear hnw
  try clear hKw
  try clear hbw
  try clear hcw
  try clear hmw
  try clear hln
  try clear hbn
  try clear hf
  first|(rw[I5 (by assumption)];simp;done)|(simp_all;done)
 replace e11: ¬(o=ow):=by simpa using e11
 refine Qg 24 K M ?_;refine⟨congrArg AV.bool ?_,M.qt⟩;rw[Un]
 try clear M
 try clear ih
 try clear hr
 try clear hr0
 try clear hp
 try clear hn
 try clear hK
 try clear hb
 try clear hc
 try clear hm
 try clear hpw
 try clear hnw
 try clear hKw
 try clear hbw
 try clear hcw
 try clear hmw
 try clear hln
 try clear hbn
 try clear hf
 first|(rw[I5 (by assumption)];simp;done)|(simp_all;done)

end
section
variable {R:KC} {cs:List AV}

inductive Zu(R:KC):Nd→List AV→Prop
 |leaf {op name:List Nat} {n at_:Int} {ks:AV} (hs:VN ks=some 0) (ha:iq ks=true) (hb:Bytes op∧Bytes name):Zu R (.mk op name n at_ []) [.str op,.str name,.int .i64 n,.int .i64 at_,ks]
 |node {op name:List Nat} {n at_:Int} {kids:List Nd} {c m off:Nat} {cells:List AV} (hr:R c m cells) (hn:(kids.length:Int)≤9223372036854775807) (hl:off+kids.length *5≤cells.length)
  (hk: ∀(i:Nat) (k:Nd),kids[i]? =some k→Zu R k ((cells.drop (off+i *5)).take 5)) (hb:Bytes op∧Bytes name):Zu R (.mk op name n at_ kids) [.str op,.str name,.int .i64 n,.int .i64 at_,.sl c m off kids.length 5]
theorem Zu.mono{R':KC}(hl: ∀c m l,R c m l→R' c m l){t:Nd}(r:Zu R t cs):Zu R' t cs:=by
 induction r with
 |leaf hs ha hb=>exact .leaf hs ha hb
 |node hr hn hl' hk hb ih=>exact .node (hl _ _ _ hr) hn hl' ih hb
theorem Zu.GV{h:Hp}(hl:aL R h){t:Nd}(r:Zu R t cs):XW h t cs:=by
 induction r with
 |leaf hs ha hb=>exact .leaf hs ha hb
 |node hr hn hl' hk hb ih=>exact .node (hl _ _ _ hr) hn hl' ih hb
inductive W8(R:KC):List Nd→AV→List (List AV)→Prop
 |none {kk:AV} (hs:VN kk=some 0) (ha:iq kk=true):W8 R [] kk []
 |row {kids:List Nd} {ls:List (List AV)} {c m off:Nat} {cells:List AV} (hr:R c m cells) (hn:(kids.length:Int)≤9223372036854775807) (hl:off+kids.length *5≤cells.length) (hls:ls.length=kids.length)
  (hcs: ∀(i:Nat) (cs:List AV),ls[i]? =some cs→cs=(cells.drop (off+i *5)).take 5) (hk: ∀(i:Nat) (k:Nd) (cs:List AV),kids[i]? =some k→ls[i]? =some cs→Zu R k cs):W8 R kids (.sl c m off kids.length 5) ls
theorem W8.mono{R R':KC}(hl: ∀c m l,R c m l→R' c m l){kids:List Nd}{kk:AV}{ls:List (List AV)}(K:W8 R kids kk ls):W8 R' kids kk ls:=by
 cases K with
 |none hs ha=>exact .none hs ha
 |row hr hn hl' hls hcs hk=>exact .row (hl _ _ _ hr) hn hl' hls hcs fun i k cs h1 h2=>(hk i k cs h1 h2).mono hl
theorem W8.len{kids:List Nd}{kk:AV}{ls:List (List AV)}(K:W8 R kids kk ls):VN kk=some kids.length:=by
 cases K with
 |none hs ha=>exact hs
 |row=>rfl
theorem W8.cell{kids:List Nd}{kk:AV}{ls:List (List AV)}(K:W8 R kids kk ls):QI kk=true:=Hs K.len
theorem Zu.ix{k:Nd}(r:Zu R k cs):cs.length=5:=by cases r<;>rfl
theorem Zu.J3{op name:List Nat}{n at_:Int}{kids:List Nd}(r:Zu R (.mk op name n at_ kids) cs):
  ∃kk ls,cs=[.str op,.str name,.int .i64 n,.int .i64 at_,kk]∧W8 R kids kk ls∧Bytes op∧Bytes name:=by
 cases r with
 |leaf hs ha hb=>exact⟨_,[],rfl,.none hs ha,hb⟩
 |node hr hn hl hk hb=>
  rename_i c m off cells
  have hlen:((List.range kids.length).map fun i=>(cells.drop (off+i *5)).take 5).length=kids.length:=by simp
  have hat: ∀(i:Nat) (cs:List AV),((List.range kids.length).map fun i=>(cells.drop (off+i *5)).take 5)[i]? =some cs→i<kids.length∧cs=(cells.drop (off+i *5)).take 5:=by
   intro i cs hi;rw[List.getElem?_map]at hi
   have hlt:i<kids.length:=by
    by_cases h:i<kids.length
    ·exact h
    ·rw[List.getElem?_eq_none (by simp;omega)]at hi;cases hi
   rw[List.getElem?_range hlt]at hi
   injection hi with hi
   exact⟨hlt,hi.symm⟩
  refine⟨_,(List.range kids.length).map fun i=>(cells.drop (off+i *5)).take 5,rfl,.row hr hn hl hlen (fun i cs hi=>(hat i cs hi).2) fun i k cs h1 h2=>?_,hb⟩;rw[(hat i cs h2).2];exact hk i k h1
theorem W8.node{R:KC}{op name:List Nat}{n at_:Int}{kids:List Nd}{kk:AV}{ls:List (List AV)}(K:W8 R kids kk ls)(hb:Bytes op∧Bytes name):Zu R (.mk op name n at_ kids) [.str op,.str name,.int .i64 n,.int .i64 at_,kk]:=by
 cases K with
 |none hs ha=>exact .leaf hs ha hb
 |row hr hn hl hls hcs hk=>
  refine .node hr hn hl (fun i k hi=>?_) hb
  have hlt:i<ls.length:=by rw[hls];exact(List.getElem?_eq_some_iff.1 hi).1
  have h1:=List.getElem?_eq_getElem hlt;rw[←hcs i _ h1];exact hk i k _ hi h1
theorem Zu.cell{R:KC}{op name:List Nat}{n at_:Int}{kids:List Nd}{a b c d kk:AV}(r:Zu R (.mk op name n at_ kids) [a,b,c,d,kk]):QI kk=true:=by
 obtain⟨kk',ls,e,K,_⟩:=r.J3
 injection e with _ e
 injection e with _ e
 injection e with _ e
 injection e with _ e
 injection e with e
 subst e;exact K.cell
structure u4(n0:Nat)(st':St)(A:YO):Prop where
 row: ∀c m l,(c,m,l)∈A→J5 st'.h.get c m l
 own: ∀c m l,(c,m,l)∈A→n0≤c
 nodup:(A.map Prod.fst).Nodup
section
variable {h0:Hp} {n0:Nat} {st st':St} {M L A B:YO}
theorem Mem.eV(h:Mem h0 n0 [] st M)(q:Qt st st')(s:u4 st.n st' A):Mem h0 n0 [] st' (M++(A++[])):=by
 rw[List.append_nil];refine h.qf (q.Z5 []) (fun c hc=>by simp at hc) ?_ fun c m l hm=>?_
 ·rw[List.map_append];refine List.nodup_append.2 ⟨h.nodup,s.nodup,fun x hx y hy e=>?_⟩;subst e;obtain⟨⟨c1,m1,l1⟩,h1,rfl⟩:=List.mem_map.1 hx;obtain⟨⟨c2,m2,l2⟩,h2,e⟩:=List.mem_map.1 hy;have e:c2=c1:=e;subst e;have:=h.lt _ _ _ h1;have:=s.own _ _ _ h2;omega
 ·rcases List.mem_append.1 hm with hm|hm
  ·exact .inl ⟨hm,by simp⟩
  ·exact .inr ⟨s.row _ _ _ hm,.inr (s.own _ _ _ hm)⟩
theorem Mem.nR{st0:St}(h:Mem st0.h.get st0.n [] st' M)(hs:A.Sublist M):u4 st0.n st' A:=
 ⟨fun c m l hm=>h.row c m l (hs.subset hm),fun c m l hm=>(h.own c m l (hs.subset hm)).resolve_right Q1,h.nodup.sublist (hs.map _)⟩
theorem Mem.oi(h:Mem h0 n0 [] st M)(hR:Proofs.YthjgndgnmkiaiaaGreatDoor.aL R h0)(hB: ∀x∈B,x∈M):Proofs.YthjgndgnmkiaiaaGreatDoor.aL (Y0 R B) st.h.get:=fun c m l hr=>hr.elim (fun x=>h.rows c m l (hR c m l x)) fun x=>J5.WY (h.row c m l (hB _ x))
end
def Xe(R:KC)(st st':St)(k:Nd)(v:AV):Prop:= ∃o s z a l kk A,k=.mk o s z a l∧v=.agg [.str o,.str s,.int .i64 z,.int .i64 a,kk]∧u4 st.n st' A∧Zu (Y0 R A) k [.str o,.str s,.int .i64 z,.int .i64 a,kk]
def Fz{α:Type}(R:KC)(f:α→Nd)(l:List α)(lsn:List (List AV)):Prop:= ∀(j:Nat) (k:α) (cs:List AV),l[j]? =some k→lsn[j]? =some cs→Zu R (f k) cs
theorem Fz.nil{α:Type}{f:α→Nd}{l:List α}:Fz R f l []:=fun j k cs _ h=>by simp at h
theorem Fz.mono{α:Type}{R R':KC}(hl: ∀c m l,R c m l→R' c m l){f:α→Nd}{l:List α}{lsn:List (List AV)}(h:Fz R f l lsn):Fz R' f l lsn:=fun j k cs h1 h2=>(h j k cs h1 h2).mono hl
theorem Fz.lj{α:Type}{f:α→Nd}{l:List α}{lsn:List (List AV)}{k:α}(h:Fz R f l lsn)(hn:lsn.length=l.length)(hk:Zu R (f k) cs):Fz R f (l++[k]) (lsn++[cs]):=by
 intro j k' cs' h1 h2
 by_cases hj:j<lsn.length
 ·rw[List.getElem?_append_left hj]at h2;rw[List.getElem?_append_left Qk]at h1;exact h j k' cs' h1 h2
 ·have hji:j=l.length:=by
   have:=(List.getElem?_eq_some_iff.1 h2).1;rw[List.length_append]at this;simp at this;omega
  subst hji;rw[List.getElem?_append_right Qk,hn,Nat.sub_self]at h2;rw[List.getElem?_append_right Qk,Nat.sub_self]at h1
  injection h1 with h1
  injection h2 with h2
  subst h1 h2;exact hk
theorem Fz.kids{α:Type}{A:YO}{f:α→Nd}{l:List α}{lsn:List (List AV)}{n0:Nat}{ks:AV}(h:Fz R f l lsn)(hn:lsn.length=l.length)(hA:Acc n0 5 A ks lsn):W8 (Y0 R A) (l.map f) ks lsn:=by
 have hz: ∀(i:Nat) (k:Nd) (cs:List AV),(l.map f)[i]? =some k→lsn[i]? =some cs→Zu (Y0 R A) k cs:=by
  intro i k cs h1 h2;rw[List.getElem?_map]at h1;obtain⟨y,hy,rfl⟩:=Option.map_eq_some_iff.1 h1;exact(h i y cs hy h2).mono fun _ _ _ x=>.inl x
 cases hA with
 |none=>
  have:l=[]:=List.length_eq_zero_iff.1 hn.symm;subst this;exact .none rfl rfl
 |own hc hz5 hb=>
  have e:lsn.length=(l.map f).length:=by rw[List.length_map];exact hn
  rw[e];refine .row (.inr (List.mem_singleton.2 rfl)) (by rw[←e];omega) ?_ e (fun i cs hi=>?_) hz
  ·rw[Wv hz5,←e];omega
  ·rw[Nat.zero_add];exact(FD i cs hz5 hi).symm
end
end Go.Proofs.YthjgndgnmkiaiaaGreatDoor
