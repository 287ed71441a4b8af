/-
  Size, Depth, IsTerm, IsFormula: the program's answer, the reference's. TreeIs.
-/
import Derived.Test.YtmgkfceomhagaaaGreatDoorPsTrC
set_option maxHeartbeats 8000000
set_option maxRecDepth 100000
set_option linter.unusedSimpArgs false
set_option linter.unusedVariables false
namespace Go.Proofs.YtmgkfceomhagaaaGreatDoor
open Go Go.RowKit
section
variable {a z:Int} {cs:List AV} {l:List Nd} {o s:List Nat} {st:St}

def Kv(x:Nd)(m:Int):Bool:=decide (min ((Xl x:Nat):Int) 2001≤m)&&decide (min ((MY x:Nat):Int) 31≤30)
theorem Ds(hf:QC st)(hr:VD st.h.get (.mk o s z a l) cs): ∃v st',Ev Tryz.prog Jy 4 [.agg cs] st v st'∧v=iZ (min ((Xl (.mk o s z a l):Nat):Int) 2001)∧Qt st st':=by
 have hr0:=hr;obtain⟨kk,ls,rfl,hK,hb⟩:=hr.JT;have hln:=hK.ln;have hbn:=hK.Na;refine Zw Tryz.func4 Tryz.ntmps4 fun T K=>?_;have M:=Mem.start hf;refine Qf 0 K M fun _ K=>?_;refine Y2 K M rfl (Qa rfl (Qa rfl (Qa rfl (Qa rfl (Qa hK.cell QF))))) Qz fun c1 _ _ K M=>?_;refine Qf 2 K M fun _ K=>?_;refine oQ K M (qc _ 2001 _ _ M.fresh (hr0.mono M.rows) Qz Qz) rfl rfl fun _ _ K M=>?_;refine Qf 1 K M ?_;exact⟨rfl,M.qt⟩

theorem Ms(hf:QC st)(hr:VD st.h.get (.mk o s z a l) cs): ∃v st',Ev Tryz.prog Jy 32 [.agg cs] st v st'∧v=iZ (min ((MY (.mk o s z a l):Nat):Int) 31)∧Qt st st':=by
 have hr0:=hr;obtain⟨kk,ls,rfl,hK,hb⟩:=hr.JT;have hln:=hK.ln;have hbn:=hK.Na;refine Zw Tryz.func32 Tryz.ntmps32 fun T K=>?_;have M:=Mem.start hf;refine Qf 0 K M fun _ K=>?_;refine Y2 K M rfl (Qa rfl (Qa rfl (Qa rfl (Qa rfl (Qa hK.cell QF))))) Qz fun c1 _ _ K M=>?_;refine Qf 2 K M fun _ K=>?_;refine oQ K M (y9 _ 31 _ _ M.fresh (hr0.mono M.rows) Qz Qz) rfl rfl fun _ _ K M=>?_;refine Qf 1 K M ?_;exact⟨rfl,M.qt⟩

theorem ja(hf:QC st)(hr:VD st.h.get (.mk o s z a l) cs): ∃v st',Ev Tryz.prog Jy 13 [.agg cs] st v st'∧v=.bool (Kv (.mk o s z a l) 2000)∧Qt st st':=by
 have hr0:=hr;obtain⟨kk,ls,rfl,hK,hb⟩:=hr.JT;have hln:=hK.ln;have hbn:=hK.Na;refine Zw Tryz.func13 Tryz.ntmps13 fun T K=>?_;have M:=Mem.start hf;refine Qf 0 K M fun _ K=>?_;refine Y2 K M rfl (Qa rfl (Qa rfl (Qa rfl (Qa rfl (Qa hK.cell QF))))) Qz fun c1 _ _ K M=>?_;refine Qf 2 K M fun _ K=>?_;refine oQ K M (Ms M.fresh (hr0.mono M.rows)) rfl rfl fun _ _ K M=>?_;refine Qf 1 K M fun _ K=>?_;refine Kn K rfl (fun _ e6 K=>?_) fun _ e6 K=>?_
 ·refine Qf 5 K M ?_;refine⟨congrArg AV.bool ?_,M.qt⟩;rw[Kv]
  simp_all<;>(intros;omega)
 refine Qf 1 K M fun _ K=>?_;obtain⟨v8,st8,ev8,rfl,q8⟩:=Ds M.fresh (hr0.mono M.rows);refine pg K rfl rfl (Qe rfl ev8) fun _ K=>?_;replace M:=M.quiet q8;refine Qf 3 K M ?_;refine⟨congrArg AV.bool ?_,M.qt⟩;rw[Kv]
 simp_all<;>(intros;omega)

theorem ON(hf:QC st)(hr:VD st.h.get (.mk o s z a l) cs): ∃v st',Ev Tryz.prog Jy 5 [.agg cs] st v st'∧v=.bool (Kv (.mk o s z a l) 2000&&JS (.mk o s z a l))∧Qt st st':=by
 have hr0:=hr;obtain⟨kk,ls,rfl,hK,hb⟩:=hr.JT;have hln:=hK.ln;have hbn:=hK.Na;refine Zw Tryz.func5 Tryz.ntmps5 fun T K=>?_;have M:=Mem.start hf;refine Qf 0 K M fun _ K=>?_;refine Y2 K M rfl (Qa rfl (Qa rfl (Qa rfl (Qa rfl (Qa hK.cell QF))))) Qz fun c1 _ _ K M=>?_;refine Qf 2 K M fun _ K=>?_;refine oQ K M (ja M.fresh (hr0.mono M.rows)) rfl rfl fun _ _ K M=>?_;refine oB K (QH rfl) rfl fun b5 _ e5 K=>?_;cases b5
 ·refine Qf 4 K M ?_;refine⟨congrArg AV.bool ?_,M.qt⟩
  simp_all
 refine Qf 1 K M fun _ K=>?_;obtain⟨v7,st7,ev7,rfl,q7⟩:=jG _ _ _ M.fresh (hr0.mono M.rows);refine pg K rfl rfl (Qe rfl ev7) fun _ K=>?_;replace M:=M.quiet q7;refine Qf 2 K M ?_;refine⟨congrArg AV.bool ?_,M.qt⟩
 simp_all

end
section
variable {a b:List Nd}

theorem Lc{i:Nat}{k k':Nd}(ha:a[i]? =some k)(hb:b[i]? =some k'):YQ (a.drop i) (b.drop i)=(Yq k k'&&YQ (a.drop (i+1)) (b.drop (i+1))):=by
 obtain⟨h1,h2⟩:=List.getElem?_eq_some_iff.1 ha;obtain⟨h3,h4⟩:=List.getElem?_eq_some_iff.1 hb;rw[List.drop_eq_getElem_cons h1,List.drop_eq_getElem_cons h3,h2,h4,YQ]
theorem Ro(h:YQ a b=true):a.length=b.length:=by
 induction a generalizing b with
 |nil=>cases b with
  |nil=>rfl
  |cons _ _=>cases h
 |cons k l ih=>cases b with
  |nil=>cases h
  |cons k' r=>
   rw[YQ,Bool.and_eq_true]at h;rw[List.length_cons,List.length_cons,ih h.2]
theorem It(h: ¬((a.length:Nat):Int)=((b.length:Nat):Int)):YQ a b=false:=by
 cases e:YQ a b with
 |false=>rfl
 |true=>exact absurd (congrArg (fun n:Nat=>(n:Int)) (Ro e)) h
def Nd.num:Nd→Int
 |.mk _ _ n _ _=>n
theorem jF(x:Nd): ∀(y:Nd) (st:St) (cs ct:List AV),QC st→VD st.h.get x cs→VD st.h.get y ct→ ∃v st',Ev Tryz.prog Jy 10 [.agg cs,.agg ct] st v st'∧v=.bool (Yq x y)∧Qt st st':=by
 refine AT (M:=fun x=> ∀(y:Nd) (st:St) (cs ct:List AV),QC st→VD st.h.get x cs→VD st.h.get y ct→ ∃v st',Ev Tryz.prog Jy 10 [.agg cs,.agg ct] st v st'∧v=.bool (Yq x y)∧Qt st st') (fun o s z a l ih=>?_) x;intro y st cs ct hf hr hr';obtain⟨ow,sw,zw,aw,lw⟩:=y;have hr0:=hr;have hrw:=hr';obtain⟨kk,ls,rfl,hK,hb⟩:=hr.JT;obtain⟨kkw,lsw,rfl,hKw,hbw⟩:=hr'.JT;have hln:=hK.ln;have hbn:=hK.Na;have hbw:=hKw.Na;refine Zw Tryz.func10 Tryz.ntmps10 fun T K=>?_;have M:=Mem.start hf;refine Qf 0 K M fun _ K=>?_;refine Y2 K M rfl (Qa rfl (Qa rfl (Qa rfl (Qa rfl (Qa hK.cell QF))))) Qz fun c2 _ _ K M=>?_;refine Y2 K M rfl (Qa rfl (Qa rfl (Qa rfl (Qa rfl (Qa hKw.cell QF))))) Qz fun c3 _ _ K M=>?_;refine Qf 6 K M fun _ K=>?_;refine oB K (QH rfl) rfl fun b11 _ e11 K=>?_;cases b11
 ·replace e11:(o=ow):=by simpa using e11
  refine Qf 6 K M fun _ K=>?_;refine oB K (QH rfl) rfl fun b18 _ e18 K=>?_;cases b18
  ·replace e18:(s=sw):=by simpa using e18
   refine Qf 6 K M fun _ K=>?_;refine oB K (QH rfl) rfl fun b25 _ e25 K=>?_;cases b25
   ·replace e25:(z=zw):=by simpa using e25
    refine Qf 2 K M fun _ K=>?_;refine pg K rfl rfl (JJ Jr rfl rfl hK.len) fun _ K=>?_;refine Qf 2 K M fun _ K=>?_;refine pg K rfl rfl (JJ Jr rfl rfl hKw.len) fun _ K=>?_;refine Qf 2 K M fun _ K=>?_;refine eU K rfl (fun h33=>?_) fun h33=>?_
    ·refine Qf 1 K M ?_;refine⟨congrArg AV.bool ?_,M.qt⟩;rw[Yq]
     try clear M
     try clear ih
     try clear hr
     try clear hr0
     try clear hp
     try clear hn
     try clear hK
     try clear hb
     try clear hc
     try clear hm
     try clear hpw
     try clear hnw
     try clear hKw
     try clear hbw
     try clear hcw
     try clear hmw
     try clear hln
     try clear hbn
     try clear hf
     first|(rw[It (by assumption)];simp;done)|(simp_all;done)
    refine Qf 1 K M fun _ K=>?_;refine UM (fun mm1 T st9=> ∃(i:Nat),mm1=l.length-i∧JC [(2,.ptr c2 0 0),(3,.ptr c3 0 0),(5,iN i)] T∧Mem st.h.get st.n [] st9 [(c3,0,[.str ow,.str sw,iZ zw,iZ aw,kkw]),(c2,0,[.str o,.str s,iZ z,iZ a,kk])]∧i≤l.length∧YQ l lw=YQ (l.drop i) (lw.drop i)) (fun mm1 T st9 hI=>?_) _ _ _ ⟨0,rfl,(K.sub rfl),M.less (.refl _),(Nat.zero_le _),rfl⟩;obtain⟨i,rfl,K,M,hi,hx⟩:=hI;refine Qf 3 K M fun _ K=>?_;refine p1 K (JJ Jr rfl rfl hK.len) fun _ K=>?_;refine Qf 1 K M fun _ K=>?_;refine XR K rfl (fun h38=>?_) fun h38=>?_
    ·refine Qf 0 K M fun _ K=>?_;refine QR (l:=[(0,0),(1,0),(2,0),(3,0),(4,0),(5,0),(6,0),(7,0),(8,0),(9,0),(10,0),(11,0)]) (by kernel_rfl) ?_;refine JL 3 K M fun _ K=>?_;obtain⟨⟨o44,s44,z44,a44,l44⟩,hi44⟩: ∃k,l[i]? =some k:=⟨_,List.getElem?_eq_getElem (by first|omega|(have:=bare_len (m:=1) (l:=l) (by assumption);omega)|(have:=bare_len (m:=2) (l:=l) (by assumption);omega)|(have:=QL (m:=1) (l:=l) (by assumption);omega))⟩;have hm44:=JG hi44;obtain⟨_,hc44,hn44⟩:=hK.at_ _ _ hi44;have hp44:=hn44;obtain⟨kk44,ls44,rfl,hK44,hb44⟩:=hp44.JT;refine zm rfl rfl (hK.r.mem M Q3) hc44 K QN Qp rfl rfl fun _ _ _ _ K=>?_;refine JL 3 K M fun _ K=>?_;obtain⟨⟨o49,s49,z49,a49,l49⟩,hi49⟩: ∃k,lw[i]? =some k:=⟨_,List.getElem?_eq_getElem (by first|omega|(have:=bare_len (m:=1) (l:=l) (by assumption);omega)|(have:=bare_len (m:=2) (l:=l) (by assumption);omega)|(have:=QL (m:=1) (l:=l) (by assumption);omega))⟩;have hm49:=JG hi49;obtain⟨_,hc49,hn49⟩:=hKw.at_ _ _ hi49;have hp49:=hn49;obtain⟨kk49,ls49,rfl,hK49,hb49⟩:=hp49.JT;refine zm rfl rfl (hKw.r.mem M Q3) hc49 K QN Qp rfl rfl fun _ _ _ _ K=>?_;obtain⟨v51,st51,ev51,rfl,q51⟩:=ih _ hm44 _ _ _ _ M.fresh (hn44.mono M.rows) (hn49.mono M.rows);refine qA rfl K (Qe rfl ev51) fun _ K=>?_;replace M:=M.quiet q51;refine q1 rfl K (R7 rfl) fun _ K=>QY ?_;show W _ _ _ _ _ _ _;refine Uj K rfl (fun h52=>?_) fun h52=>?_
     ·have hb52:=h52
      replace h52:(Yq (.mk o44 s44 z44 a44 l44) (.mk o49 s49 z49 a49 l49))=false:=by simpa using h52
      refine Qf 1 K M ?_;refine⟨congrArg AV.bool ?_,M.qt⟩;rw[Yq,hx,Lc hi44 hi49];simp[h52]
     have hb52:=h52
     replace h52:(Yq (.mk o44 s44 z44 a44 l44) (.mk o49 s49 z49 a49 l49))=true:=by simpa using h52
     refine Qf 3 K M fun _ K=>?_;exact⟨_,Qq,i+1,rfl,(K.sub rfl),M.less (.refl _),Qq,(by rw[hx,Lc hi44 hi49];simp[h52])⟩
    refine Un ?_;show W _ _ _ _ _ _ _;refine Qf 1 K M ?_;refine⟨congrArg AV.bool ?_,M.qt⟩;rw[Yq,hx,Um Qq,Um Qq,YQ]
    try clear M
    try clear ih
    try clear hr
    try clear hr0
    try clear hp
    try clear hn
    try clear hK
    try clear hb
    try clear hc
    try clear hm
    try clear hpw
    try clear hnw
    try clear hKw
    try clear hbw
    try clear hcw
    try clear hmw
    try clear hln
    try clear hbn
    try clear hf
    simp_all
   replace e25: ¬(z=zw):=by simpa using e25
   refine Qf 10 K M ?_;refine⟨congrArg AV.bool ?_,M.qt⟩;rw[Yq]
   try clear M
   try clear ih
   try clear hr
   try clear hr0
   try clear hp
   try clear hn
   try clear hK
   try clear hb
   try clear hc
   try clear hm
   try clear hpw
   try clear hnw
   try clear hKw
   try clear hbw
   try clear hcw
   try clear hmw
   try clear hln
   try clear hbn
   try clear hf
   first|(rw[It (by assumption)];simp;done)|(simp_all;done)
  replace e18: ¬(s=sw):=by simpa using e18
  refine Qf 17 K M ?_;refine⟨congrArg AV.bool ?_,M.qt⟩;rw[Yq]
  try clear M
  try clear ih
  try clear hr
  try clear hr0
  try clear hp
  try clear hn
  try clear hK
  try clear hb
  try clear hc
  try clear hm
  try clear hpw
  try clear hnw
  try clear hKw
  try clear hbw
  try clear hcw
  try clear hmw
  try clear hln
  try clear hbn
  try clear hf
  first|(rw[It (by assumption)];simp;done)|(simp_all;done)
 replace e11: ¬(o=ow):=by simpa using e11
 refine Qf 24 K M ?_;refine⟨congrArg AV.bool ?_,M.qt⟩;rw[Yq]
 try clear M
 try clear ih
 try clear hr
 try clear hr0
 try clear hp
 try clear hn
 try clear hK
 try clear hb
 try clear hc
 try clear hm
 try clear hpw
 try clear hnw
 try clear hKw
 try clear hbw
 try clear hcw
 try clear hmw
 try clear hln
 try clear hbn
 try clear hf
 first|(rw[It (by assumption)];simp;done)|(simp_all;done)

end
section

structure Dc where
 name:List Nat
 order:Int
 at_:Int
def Dc.cells(d:Dc):List AV:=[.str d.name,.int .i64 d.order,.int .i64 d.at_]
structure Pd where
 name:List Nat
 params:List Dc
 body:Nd
 at_:Int
structure Pg where
 decls:List Dc
 preds:List Pd
 main:Nd
end
end Go.Proofs.YtmgkfceomhagaaaGreatDoor
