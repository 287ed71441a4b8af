/-
  What is shown, as 'sibylref5' shows it: a term.
-/
import Derived.Test.YtmgkfceomhagaaaGreatDoorPsShW
set_option maxRecDepth 100000
set_option linter.unnecessarySimpa false
set_option linter.unusedSectionVars false
set_option linter.unusedSimpArgs false
set_option linter.unusedVariables false
namespace Go.Proofs.YtmgkfceomhagaaaGreatDoor
open Go Go.RowKit
section
set_option maxHeartbeats 8000000
variable {l:List Nd} {o:List Nat}

theorem Ka{z:Int}{st:St}(h0:0≤z)(h9:z≤99)(hf:QC st): ∃v st',Ev Tryz.prog Jy 15 [.int .i64 z] st v st'∧v=.str (Y1 z.toNat)∧Qt st st':=by
 have:=MZ z.toNat st hf Qq;unfold iN at this;rw[BR h0]at this;exact this
theorem Di(hT: ∀k∈l,Ji k=true)(hz:Eo l≤1000):(Uc (Zk (J5 l))).length≤2040000:=by
 have:=SM hT hz l.length;rw[List.take_length]at this;exact this
theorem By{s:List Nat}{z a:Int}(h:Xl (.mk o s z a l)≤1000):Eo l≤1000:=by
 rw[Xl]at h;omega
theorem qL{x y k j:Nd}(h:l=[x,y])(h0:l[0]? =some k)(h1:l[1]? =some j):x=k∧y=j:=by
 subst h
 injection h0 with h0
 injection h1 with h1
 exact⟨h0,h1⟩
theorem Er{x k:Nd}(h:l=[x])(h0:l[0]? =some k):x=k:=by
 subst h
 injection h0 with h0
theorem Da(h:JA o=true):o.length≤5:=by
 rcases ET h with rfl|rfl|rfl<;>decide
theorem jn(h:JA o=true)(hm: ¬o=[109,105,110,117,115]):Pc.tx (XI o)=o:=by
 rcases ET h with rfl|rfl|rfl
 ·rfl
 ·rfl
 ·exact absurd rfl hm

theorem Nv(x:Nd): ∀(st:St) (cs:List AV),QC st→VD st.h.get x cs→Ji x=true→Xl x≤1000→ ∃v st',Ev Tryz.prog Jy 18 [.agg cs] st v st'∧v=.str (Uc (Jp x))∧Qt st st':=by
 refine AT (M:=fun x=> ∀(st:St) (cs:List AV),QC st→VD st.h.get x cs→Ji x=true→Xl x≤1000→ ∃v st',Ev Tryz.prog Jy 18 [.agg cs] st v st'∧v=.str (Uc (Jp x))∧Qt st st') (fun o s z a l ih=>?_) x;intro st cs hf hr hTm hz;have hr0:=hr;obtain⟨kk,ls,rfl,hK,hb⟩:=hr.JT;have hln:=hK.ln;have hbn:=hK.Na;refine Zw Tryz.func18 Tryz.ntmps18 fun T K=>?_;have M:=Mem.start hf;refine Qf 0 K M fun _ K=>?_;refine Y2 K M rfl (Qa rfl (Qa rfl (Qa rfl (Qa rfl (Qa hK.cell QF))))) Qz fun c1 _ _ K M=>?_;refine Qf 3 K M fun _ K=>?_;refine p1 K (JK (b:=[118,97,114]) rfl rfl) fun _ K=>?_;refine Qf 1 K M fun _ K=>?_;refine XR K rfl (fun h5=>?_) fun h5=>?_
 ·refine Qf 3 K M ?_;exact⟨by rw[vQ hTm h5],M.qt⟩
 refine Qf 0 K M fun _ K=>?_;refine p1 K (JK (b:=[110,117,109]) rfl rfl) fun _ K=>?_;refine Qf 1 K M fun _ K=>?_;refine XR K rfl (fun h9=>?_) fun h9=>?_
 ·refine Ud ?_;obtain⟨htt,hz0,hz9⟩:=vS hTm h9;refine Qf 2 K M fun _ K=>?_;refine oQ K M (Ka hz0 hz9 M.fresh) rfl rfl fun _ _ K M=>?_;have hdl:=Ao z hz9;refine Qf 1 K M ?_;exact⟨by rw[htt],M.qt⟩
 refine Qf 0 K M fun _ K=>?_;refine p1 K (JK (b:=[112,108,117,115]) rfl rfl) fun _ K=>?_;refine Qf 1 K M fun _ K=>?_;refine XR K rfl (fun h14=>?_) fun h14=>?_
 ·refine Ud ?_;obtain⟨⟨k0,hl0,htt⟩,hz0,hz9⟩:=zs hTm h14
  have hl1:l.length=1:=by rw[hl0];rfl
  refine QR (l:=[(0,0),(1,0),(2,0),(3,0),(4,0),(6,0),(7,1),(8,0),(5,0),(9,0),(10,0)]) (by kernel_rfl) ?_;have Mq:=M;refine JL 2 K M fun _ K=>?_;obtain⟨⟨o18,s18,z18,a18,l18⟩,hi18⟩: ∃k,l[0]? =some k:=⟨_,List.getElem?_eq_getElem (by first|omega|(have:=bare_len (m:=1) (l:=l) (by assumption);omega)|(have:=bare_len (m:=2) (l:=l) (by assumption);omega)|(have:=QL (m:=1) (l:=l) (by assumption);omega))⟩;have hm18:=JG hi18;obtain⟨_,hc18,hn18⟩:=hK.at_ _ _ hi18;have hp18:=hn18;obtain⟨kk18,ls18,rfl,hK18,hb18⟩:=hp18.JT;refine zm rfl rfl (hK.r.mem M Q3) hc18 K QN Qp rfl rfl fun _ _ _ _ K=>?_;obtain⟨v20,st20,ev20,rfl,q20⟩:=ih _ hm18 _ _ M.fresh (hn18.mono M.rows) (Zr hTm hm18) (Ur hz hm18);refine qA rfl K (Qe rfl ev20) fun _ K=>?_;replace M:=M.quiet q20;have hkl20:=Wp (Zr hTm hm18) (Ur hz hm18);have Mp:=Mq;have Mq:=M;refine JL 1 K M fun _ K=>?_;refine Q8 rfl K rfl (M.load (k:=0) rfl (Qg QK rfl)) (Mp.load (k:=0) rfl (Qg QK rfl)) (QV rfl) rfl Qz fun _ K=>?_;obtain⟨v24,st24,ev24,rfl,q24⟩:=Ka hz0 hz9 M.fresh;refine qA rfl K (Qe rfl ev24) fun _ K=>?_;replace M:=M.quiet q24;have hdl:=Ao z hz9;have Mp:=Mq;have Mq:=M;refine q1 rfl K (QS (b:=[32,43,32]) rfl rfl (by first|omega|(simp only[List.length_append,List.length_cons,List.length_nil];omega))) fun _ K=>q1 rfl K (QS rfl rfl (by first|omega|(simp only[List.length_append,List.length_cons,List.length_nil];omega))) fun _ K=>q1 rfl K (Uv rfl) fun _ K=>QY ?_;show W _ _ _ _ _ _ _;refine Qf 0 K M ?_;exact⟨by rw[htt,Er hl0 hi18],M.qt⟩
 refine Qf 0 K M fun _ K=>?_;refine p1 K (JK (b:=[115,101,116]) rfl rfl) fun _ K=>?_;refine Qf 1 K M fun _ K=>?_;refine XR K rfl (fun h26=>?_) fun h26=>?_
 ·refine Qf 2 K M fun _ K=>?_;refine oQ K M (SF M.fresh (hK.mem M) (fun k hk=>Zr hTm hk) (By hz) (fun k hk st1 cs hf1 hr1=>ih k hk st1 cs hf1 hr1 (Zr hTm hk) (Ur hz hk))) rfl rfl fun _ _ K M=>?_;have hrl:=Di (l:=l) (fun k hk=>Zr hTm hk) (By hz);refine p1 K (QS (a:=[123]) rfl rfl (by first|omega|(simp only[List.length_append,List.length_cons,List.length_nil];omega))) fun _ K=>p1 K (QS (b:=[125]) rfl rfl (by first|omega|(simp only[List.length_append,List.length_cons,List.length_nil];omega))) fun _ K=>?_;refine Qf 1 K M ?_;exact⟨by rw[vR hTm h26],M.qt⟩
 refine Qf 0 K M fun _ K=>?_;refine p1 K (JK (b:=[109,105,110,117,115]) rfl rfl) fun _ K=>?_;refine Qf 1 K M fun _ K=>?_;refine XR K rfl (fun h33=>?_) fun h33=>?_
 ·refine Ud ?_;obtain⟨x0,y0,hl0,hso,htt⟩:=qM hTm h5 h9 h14 h26
  have hl2:l.length=2:=by rw[hl0];rfl
  have hol:=Da hso;refine QR (l:=[(0,0),(1,0),(2,0),(3,0),(4,0),(6,0),(7,1),(8,0),(9,1),(10,0),(5,0),(11,0),(12,0)]) (by kernel_rfl) ?_;have Mq:=M;refine JL 2 K M fun _ K=>?_;obtain⟨⟨o37,s37,z37,a37,l37⟩,hi37⟩: ∃k,l[0]? =some k:=⟨_,List.getElem?_eq_getElem (by first|omega|(have:=bare_len (m:=1) (l:=l) (by assumption);omega)|(have:=bare_len (m:=2) (l:=l) (by assumption);omega)|(have:=QL (m:=1) (l:=l) (by assumption);omega))⟩;have hm37:=JG hi37;obtain⟨_,hc37,hn37⟩:=hK.at_ _ _ hi37;have hp37:=hn37;obtain⟨kk37,ls37,rfl,hK37,hb37⟩:=hp37.JT;refine zm rfl rfl (hK.r.mem M Q3) hc37 K QN Qp rfl rfl fun _ _ _ _ K=>?_;obtain⟨v39,st39,ev39,rfl,q39⟩:=ih _ hm37 _ _ M.fresh (hn37.mono M.rows) (Zr hTm hm37) (Ur hz hm37);refine qA rfl K (Qe rfl ev39) fun _ K=>?_;replace M:=M.quiet q39;have hkl39:=Wp (Zr hTm hm37) (Ur hz hm37);have Mp:=Mq;have Mq:=M;refine JL 1 K M fun _ K=>?_;refine Q8 rfl K rfl (M.load (k:=0) rfl (Qg Jj rfl)) (Mp.load (k:=0) rfl (Qg Jj rfl)) (QV (Jv hK.len)) rfl Qz fun _ K=>?_;obtain⟨⟨o43,s43,z43,a43,l43⟩,hi43⟩: ∃k,l[1]? =some k:=⟨_,List.getElem?_eq_getElem (by first|omega|(have:=bare_len (m:=1) (l:=l) (by assumption);omega)|(have:=bare_len (m:=2) (l:=l) (by assumption);omega)|(have:=QL (m:=1) (l:=l) (by assumption);omega))⟩;have hm43:=JG hi43;obtain⟨_,hc43,hn43⟩:=hK.at_ _ _ hi43;have hp43:=hn43;obtain⟨kk43,ls43,rfl,hK43,hb43⟩:=hp43.JT;obtain⟨x43,m43,f43,q43,_,la43,lo43,lp43,la'43,lo'43,lp'43⟩:=QQ.FX (hK.r.mem M Q3) (hK.r.mem Mp Q3) (i:=1) (cs:=_) hc43;refine q1 rfl K (Qo (j:=1) QN (congrArg some q43) rfl (by rw[hK.ln];first|omega|(have:=bare_len (m:=1) (l:=l) (by assumption);omega)|(have:=bare_len (m:=2) (l:=l) (by assumption);omega)|(have:=QL (m:=1) (l:=l) (by assumption);omega))) fun _ K=>?_;refine Q8 rfl K rfl (la43 _ Qp) (la'43 _ Qp) (UD (by simp[Uk,Ul,JN,Jv hK43.len])) rfl Qz fun _ K=>?_;obtain⟨v45,st45,ev45,rfl,q45⟩:=ih _ hm43 _ _ M.fresh (hn43.mono M.rows) (Zr hTm hm43) (Ur hz hm43);refine qA rfl K (Qe rfl ev45) fun _ K=>?_;replace M:=M.quiet q45;have hkl45:=Wp (Zr hTm hm43) (Ur hz hm43);have Mp:=Mq;have Mq:=M;refine q1 rfl K (QS (b:=[32,92,32]) rfl rfl (by first|omega|(simp only[List.length_append,List.length_cons,List.length_nil];omega))) fun _ K=>q1 rfl K (QS rfl rfl (by first|omega|(simp only[List.length_append,List.length_cons,List.length_nil];omega))) fun _ K=>q1 rfl K (Uv rfl) fun _ K=>QY ?_;show W _ _ _ _ _ _ _;refine Qf 0 K M ?_;obtain⟨e1,e2⟩:=qL hl0 hi37 hi43;exact⟨by rw[htt,e1,e2,h33];simp[XI,Pc.tx],M.qt⟩
 refine Qf 0 K M fun _ K=>?_;obtain⟨x0,y0,hl0,hso,htt⟩:=qM hTm h5 h9 h14 h26
 have hl2:l.length=2:=by rw[hl0];rfl
 have hol:=Da hso;refine QR (l:=[(0,0),(1,0),(2,0),(3,0),(4,0),(10,0),(11,1),(12,0),(13,1),(14,0),(5,0),(6,0),(7,2),(8,0),(9,0),(15,0),(16,0)]) (by kernel_rfl) ?_;have Mq:=M;have Mz0:=M;refine JL 2 K M fun _ K=>?_;obtain⟨⟨o49,s49,z49,a49,l49⟩,hi49⟩: ∃k,l[0]? =some k:=⟨_,List.getElem?_eq_getElem (by first|omega|(have:=bare_len (m:=1) (l:=l) (by assumption);omega)|(have:=bare_len (m:=2) (l:=l) (by assumption);omega)|(have:=QL (m:=1) (l:=l) (by assumption);omega))⟩;have hm49:=JG hi49;obtain⟨_,hc49,hn49⟩:=hK.at_ _ _ hi49;have hp49:=hn49;obtain⟨kk49,ls49,rfl,hK49,hb49⟩:=hp49.JT;refine zm rfl rfl (hK.r.mem M Q3) hc49 K QN Qp rfl rfl fun _ _ _ _ K=>?_;obtain⟨v51,st51,ev51,rfl,q51⟩:=ih _ hm49 _ _ M.fresh (hn49.mono M.rows) (Zr hTm hm49) (Ur hz hm49);refine qA rfl K (Qe rfl ev51) fun _ K=>?_;replace M:=M.quiet q51;have hkl51:=Wp (Zr hTm hm49) (Ur hz hm49);have Mp:=Mq;have Mq:=M;have Mz1:=M;refine JL 1 K M fun _ K=>?_;refine Q8 rfl K rfl (M.load (k:=0) rfl (Qg Jj rfl)) (Mp.load (k:=0) rfl (Qg Jj rfl)) (QV (Jv hK.len)) rfl Qz fun _ K=>?_;obtain⟨⟨o59,s59,z59,a59,l59⟩,hi59⟩: ∃k,l[1]? =some k:=⟨_,List.getElem?_eq_getElem (by first|omega|(have:=bare_len (m:=1) (l:=l) (by assumption);omega)|(have:=bare_len (m:=2) (l:=l) (by assumption);omega)|(have:=QL (m:=1) (l:=l) (by assumption);omega))⟩;have hm59:=JG hi59;obtain⟨_,hc59,hn59⟩:=hK.at_ _ _ hi59;have hp59:=hn59;obtain⟨kk59,ls59,rfl,hK59,hb59⟩:=hp59.JT;obtain⟨x59,m59,f59,q59,_,la59,lo59,lp59,la'59,lo'59,lp'59⟩:=QQ.FX (hK.r.mem M Q3) (hK.r.mem Mp Q3) (i:=1) (cs:=_) hc59;refine q1 rfl K (Qo (j:=1) QN (congrArg some q59) rfl (by rw[hK.ln];first|omega|(have:=bare_len (m:=1) (l:=l) (by assumption);omega)|(have:=bare_len (m:=2) (l:=l) (by assumption);omega)|(have:=QL (m:=1) (l:=l) (by assumption);omega))) fun _ K=>?_;refine Q8 rfl K rfl (la59 _ Qp) (la'59 _ Qp) (UD (by simp[Uk,Ul,JN,Jv hK59.len])) rfl Qz fun _ K=>?_;obtain⟨v61,st61,ev61,rfl,q61⟩:=ih _ hm59 _ _ M.fresh (hn59.mono M.rows) (Zr hTm hm59) (Ur hz hm59);refine qA rfl K (Qe rfl ev61) fun _ K=>?_;replace M:=M.quiet q61;have hkl61:=Wp (Zr hTm hm59) (Ur hz hm59);have Mp:=Mq;have Mq:=M;have Mz2:=M;refine q1 rfl K (QS (b:=[32]) rfl rfl (by first|omega|(simp only[List.length_append,List.length_cons,List.length_nil];omega))) fun _ K=>?_;refine JL 1 K M fun _ K=>?_
 refine YC rfl K rfl (M.load (k:=0) rfl (Qg QB rfl)) Q3 (by intro s hs;simp only[List.take_succ_cons,List.take_zero,List.mem_cons,List.not_mem_nil,or_false]at hs;rcases hs with rfl|rfl<;>first|exact(Mz1.load (k:=0) rfl (Qg QB rfl))|exact(Mz0.load (k:=0) rfl (Qg QB rfl))) (QV rfl) rfl Qz fun _ K=>?_
 refine q1 rfl K (QS rfl rfl (by first|omega|(simp only[List.length_append,List.length_cons,List.length_nil];omega))) fun _ K=>q1 rfl K (QS (b:=[32]) rfl rfl (by first|omega|(simp only[List.length_append,List.length_cons,List.length_nil];omega))) fun _ K=>q1 rfl K (QS rfl rfl (by first|omega|(simp only[List.length_append,List.length_cons,List.length_nil];omega))) fun _ K=>q1 rfl K (Uv rfl) fun _ K=>QY ?_;show W _ _ _ _ _ _ _;refine Qf 0 K M ?_;obtain⟨e1,e2⟩:=qL hl0 hi49 hi59;exact⟨by rw[htt,e1,e2,jn hso h33],M.qt⟩
end
section

theorem RC{o:List Nat}{W:List (List Nat)}(h:oneOf o W=true):o∈W:=by
 unfold oneOf at h;rw[List.any_eq_true]at h;obtain⟨x,hx,he⟩:=h;rw[of_decide_eq_true he];exact hx
section
variable {o s:List Nat} {z a:Int} {l:List Nd} (h:JS (.mk o s z a l)=true)
include h
theorem H5:(o∈[[116,114,117,101],[102,97,108,115,101]]∧Uc (Js (.mk o s z a l))=o)∨(o=[110,111,116]∧ ∃x,l=[x]∧JS x=true∧Uc (Js (.mk o s z a l))=[126]++Uc (Js x))∨
  (o∈[[97,110,100],[111,114],[105,109,112],[105,102,102]]∧ ∃x y,l=[x,y]∧JS x=true∧JS y=true∧Uc (Js (.mk o s z a l))=[40]++Uc (Js x)++[32]++Pc.tx (XI o)++[32]++Uc (Js y)++[41])∨
  (o∈[[101,120],[97,108,108]]∧ ∃x,l=[x]∧JS x=true∧Yr s=true∧0≤z∧z≤99∧Uc (Js (.mk o s z a l))=[40]++o++Y1 z.toNat++[32]++s++[58,32]++Uc (Js x)++[41])∨
  (o=[105,115]∧Yr s=true∧Uc (Js (.mk o s z a l))=s)∨
  (OM o=true∧ ∃x y,l=[x,y]∧Ji x=true∧Ji y=true∧Uc (Js (.mk o s z a l))=Uc (Jp x)++[32]++Pc.tx (XI o)++[32]++Uc (Jp y))∨
  (o=[99,97,108,108]∧Yr s=true∧(∀k∈l,Ji k=true)∧Uc (Js (.mk o s z a l))=s++[40]++Uc (Zk (J5 l))++[41]):=by
 rcases Al h with⟨o',a',ho,e⟩|⟨a',x,hx,e⟩|⟨o',a',x,y,ho,hx,hy,e⟩|⟨o',s',z',a',x,ho,hs,h0,h3,hx,e⟩|⟨s',a',hs,e⟩|⟨o',a',x,y,ho,hx,hy,e⟩|⟨s',a',ks,hs,h6,hk,e⟩<;>injection e with e1 e2 e3 e4 e5<;>subst e1 e2 e3 e4 e5
 ·exact .inl ⟨RC ho,by rw[FD ho];simp[Uc,Pc.tx]⟩
 ·exact .inr (.inl ⟨rfl,x,rfl,hx,by rw[FC];rfl⟩)
 ·exact .inr (.inr (.inl ⟨RC ho,x,y,rfl,hx,hy,by rw[FA ho,Jb,YV,Jb,Jb,Jb,YV];simp[Pc.tx,Uc]⟩))
 ·exact .inr (.inr (.inr (.inl ⟨RC ho,x,rfl,hx,hs,h0,by omega,by rw[IL ho,Jb,Jb,Jb,Jb,Jb,Jb,YV];simp[Pc.tx,Uc]⟩)))
 ·exact .inr (.inr (.inr (.inr (.inl ⟨rfl,hs,by rw[IM];simp[Uc,Pc.tx]⟩))))
 ·exact .inr (.inr (.inr (.inr (.inr (.inl ⟨ho,x,y,rfl,hx,hy,by rw[FB ho,YV,Jb,Jb,Jb];simp[Pc.tx]⟩)))))
 ·exact .inr (.inr (.inr (.inr (.inr (.inr ⟨rfl,hs,hk,by rw[Am,Jb,Jb,YV];simp[Pc.tx,Uc]⟩)))))
theorem ef(ho:o=[110,111,116]): ∃x,l=[x]∧JS x=true∧Uc (Js (.mk o s z a l))=[126]++Uc (Js x):=by
 subst ho;rcases H5 h with⟨hm,_⟩|⟨_,r⟩|⟨hm,_⟩|⟨hm,_⟩|⟨hm,_⟩|⟨hm,_⟩|⟨hm,_⟩
 ·exact absurd hm Qz
 ·exact r
 ·exact absurd hm Qz
 ·exact absurd hm Qz
 ·exact absurd hm Qz
 ·exact absurd hm Qz
 ·exact absurd hm Qz
theorem fi(ho:o=[105,115]):Yr s=true∧Uc (Js (.mk o s z a l))=s:=by
 subst ho;rcases H5 h with⟨hm,_⟩|⟨hm,_⟩|⟨hm,_⟩|⟨hm,_⟩|⟨_,r⟩|⟨hm,_⟩|⟨hm,_⟩
 ·exact absurd hm Qz
 ·exact absurd hm Qz
 ·exact absurd hm Qz
 ·exact absurd hm Qz
 ·exact r
 ·exact absurd hm Qz
 ·exact absurd hm Qz
theorem xw(ho:o=[99,97,108,108]):Yr s=true∧(∀k∈l,Ji k=true)∧Uc (Js (.mk o s z a l))=s++[40]++Uc (Zk (J5 l))++[41]:=by
 subst ho;rcases H5 h with⟨hm,_⟩|⟨hm,_⟩|⟨hm,_⟩|⟨hm,_⟩|⟨hm,_⟩|⟨hm,_⟩|⟨_,r⟩
 ·exact absurd hm Qz
 ·exact absurd hm Qz
 ·exact absurd hm Qz
 ·exact absurd hm Qz
 ·exact absurd hm Qz
 ·exact absurd hm Qz
 ·exact r
theorem yi(ho:o=[116,114,117,101]∨o=[102,97,108,115,101]):Uc (Js (.mk o s z a l))=o:=by
 rcases H5 h with⟨_,r⟩|⟨hm,_⟩|⟨hm,_⟩|⟨hm,_⟩|⟨hm,_⟩|⟨hm,_⟩|⟨hm,_⟩
 ·exact r
 ·exact absurd hm (by rcases ho with rfl|rfl<;>decide)
 ·exact absurd hm (by rcases ho with rfl|rfl<;>decide)
 ·exact absurd hm (by rcases ho with rfl|rfl<;>decide)
 ·exact absurd hm (by rcases ho with rfl|rfl<;>decide)
 ·exact absurd hm (by rcases ho with rfl|rfl<;>decide)
 ·exact absurd hm (by rcases ho with rfl|rfl<;>decide)
theorem vr(ho:o=[101,120]∨o=[97,108,108]): ∃x,l=[x]∧JS x=true∧Yr s=true∧0≤z∧z≤99∧Uc (Js (.mk o s z a l))=[40]++o++Y1 z.toNat++[32]++s++[58,32]++Uc (Js x)++[41]:=by
 rcases H5 h with⟨hm,_⟩|⟨hm,_⟩|⟨hm,_⟩|⟨_,r⟩|⟨hm,_⟩|⟨hm,_⟩|⟨hm,_⟩
 ·exact absurd hm (by rcases ho with rfl|rfl<;>decide)
 ·exact absurd hm (by rcases ho with rfl|rfl<;>decide)
 ·exact absurd hm (by rcases ho with rfl|rfl<;>decide)
 ·exact r
 ·exact absurd hm (by rcases ho with rfl|rfl<;>decide)
 ·exact absurd hm (by rcases ho with rfl|rfl<;>decide)
 ·exact absurd hm (by rcases ho with rfl|rfl<;>decide)
theorem Ce(ho:o=[97,110,100]∨o=[111,114]∨o=[105,109,112]∨o=[105,102,102]): ∃x y,l=[x,y]∧JS x=true∧JS y=true∧Uc (Js (.mk o s z a l))=[40]++Uc (Js x)++[32]++Pc.tx (XI o)++[32]++Uc (Js y)++[41]:=by
 rcases H5 h with⟨hm,_⟩|⟨hm,_⟩|⟨_,r⟩|⟨hm,_⟩|⟨hm,_⟩|⟨hm,_⟩|⟨hm,_⟩
 ·exact absurd hm (by rcases ho with rfl|rfl|rfl|rfl<;>decide)
 ·exact absurd hm (by rcases ho with rfl|rfl|rfl|rfl<;>decide)
 ·exact r
 ·exact absurd hm (by rcases ho with rfl|rfl|rfl|rfl<;>decide)
 ·exact absurd hm (by rcases ho with rfl|rfl|rfl|rfl<;>decide)
 ·exact absurd hm (by rcases ho with rfl|rfl|rfl|rfl<;>decide)
 ·exact absurd hm (by rcases ho with rfl|rfl|rfl|rfl<;>decide)
theorem ee(h1: ¬(o=[116,114,117,101]∨o=[102,97,108,115,101]))(h2: ¬o=[110,111,116])(h3: ¬(o=[101,120]∨o=[97,108,108]))(h4: ¬o=[105,115])(h5: ¬o=[99,97,108,108])(h6: ¬(o=[97,110,100]∨o=[111,114]∨o=[105,109,112]∨o=[105,102,102])):OM o=true∧ ∃x y,l=[x,y]∧Ji x=true∧Ji y=true∧Uc (Js (.mk o s z a l))=Uc (Jp x)++[32]++Pc.tx (XI o)++[32]++Uc (Jp y):=by
 rcases H5 h with⟨hm,_⟩|⟨hm,_⟩|⟨hm,_⟩|⟨hm,_⟩|⟨hm,_⟩|⟨hm,r⟩|⟨hm,_⟩
 ·exact absurd (by simpa using hm) h1
 ·exact absurd hm h2
 ·exact absurd (by simpa using hm) h6
 ·exact absurd (by simpa using hm) h3
 ·exact absurd hm h4
 ·exact⟨hm,r⟩
 ·exact absurd hm h5
end
end
end Go.Proofs.YtmgkfceomhagaaaGreatDoor
