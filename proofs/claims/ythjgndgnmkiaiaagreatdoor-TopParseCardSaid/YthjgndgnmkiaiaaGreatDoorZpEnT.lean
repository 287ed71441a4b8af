/-
  Functions that were walked elsewhere, as rules.
-/
import Derived.Test.YthjgndgnmkiaiaaGreatDoorZpKx
set_option maxRecDepth 1000000
set_option linter.unusedVariables false
namespace Go.Proofs.YthjgndgnmkiaiaaGreatDoor
section
open Go Go.RowKit
variable {G:Env} {P:Program} {args:List AV} {f:FuncId} {st:St}

theorem Ev.uniq{st1 st2:St}{v1 v2:AV}(h:Ev P G f args st v1 st1)(k:Ev P G f args st v2 st2):(v1,st1)=(v2,st2):=by
 obtain⟨L,n,h⟩:=h;obtain⟨L',n',k⟩:=k;have h1:=Xz n (max n n') L (max L L') (Nat.le_max_left _ _) (Nat.le_max_left _ _) _ _ _ _ h;have h2:=Xz n' (max n n') L' (max L L') (Nat.le_max_right _ _) (Nat.le_max_right _ _) _ _ _ _ k;rw[h1]at h2;injection h2
open Classical in
noncomputable def I2(P:Program)(G:Env)(f:FuncId):List AV→St→Option (AV×St):=fun args st=>if h: ∃x:AV×St,Ev P G f args st x.1 x.2 then some (Classical.choose h)else none
theorem I1{G':Env}(hE:WT P G)(hm:P.follows .mixedOrders=true)(hi: ∀w0 p,KF w0 p G'→KF w0 p G):Vh P G' f (I2 P G f):=by
 intro args st v st' hs hf ha;unfold I2 at hs
 split at hs
 ·rename_i h;have hc:=Classical.choose_spec h
  injection hs with hs
  rw[hs]at hc;obtain⟨L,n,hc⟩:=hc;obtain⟨k1,k2⟩:=Kt (Km hm) hE L n f args st v st' hc hf ha;exact⟨k1,fun w0 p w H hG=>k2 w0 p w H (hi w0 p hG)⟩
 ·cases hs
theorem S6{sm:List AV→St→Option (AV×St)}(hs:G.s f=some sm){st':St}{v:AV}(h:sm args st=some (v,st')):Ev P G f args st v st':=⟨0,1,by
 show(Option.rec _ (fun sm=>sm args st) (G.s f):Option (AV×St))=_
 rw[hs];exact h⟩
theorem xI{G':Env}(hs:G'.s f=some (I2 P G f)){st':St}{v:AV}(h:Ev P G f args st v st'):Ev P G' f args st v st':=by
 refine S6 hs ?_;unfold I2;have hx: ∃x:AV×St,Ev P G f args st x.1 x.2:=⟨(v,st'),h⟩;rw[dif_pos hx];have:=(Classical.choose_spec hx).uniq h;exact congrArg some this
noncomputable def Iz(ml:A9)(cs:List AV)(g:Pg):List AV→St→Option (AV×St):=fun args st=>by
 classical exact if args=[.agg cs]∧st.h.get 0=some (Lg ml)∧Ll g then some (.str (QQ (Xk g)),st)else none
theorem yz{W:World}{ml:A9}{cs:List AV}{g:Pg}(hM:Xn W ml)(hw:YN (Vq ml) cs)(hr:u5 (Vq ml) g cs):Vh Tryz.prog G 7 (Iz ml cs g):=by
 intro args st v st' hs hf ha;unfold Iz at hs
 split at hs
 ·rename_i h;obtain⟨rfl,h0,hg⟩:=h
  injection hs with hs
  injection hs with e1 e2
  subst e1 e2;refine⟨⟨_,Tryz.func7,rfl,by decide+kernel⟩,fun w0 p w H hG=>⟨Ab.refl _,?_⟩⟩;have h1:=zd (H.ot hM h0) hw hr hg
  have hc:Qn (Gc p) cs=Qn p cs:=by
   rw[JH,JH];exact List.map_congr_left fun x hx=>vh H h0 ((JJ _ _).1 hw x hx)
  rw[hc]at h1;refine h1.mono fun e w' he=>?_;obtain⟨rfl,hb⟩:=he;exact⟨p,rfl,H.Zy hb,uk (Nl hg.1)⟩
 ·cases hs
noncomputable section
def yj(ml:A9)(cs:List AV)(g:Pg):List (FuncId×(List AV→St→Option (AV×St))):=
 (7,Iz ml cs g)::
 (4,I2 Tryz.prog JF 4)::
 (5,I2 Tryz.prog JF 5)::
 (8,I2 Tryz.prog JF 8)::
 (6,I2 Tryz.prog JF 6)::
 (9,C5)::
 []
def OW(ml:A9)(cs:List AV)(g:Pg):Env:=⟨fun _=>false,LG LQ,WO (yj ml cs g),fun w=>Lk w∧VC w⟩
end
theorem eK{W:World}{ml:A9}{cs:List AV}{g:Pg}(hM:Xn W ml)(hw:YN (Vq ml) cs)(hr:u5 (Vq ml) g cs):WT Tryz.prog (OW ml cs g):=⟨fun f q h=>EF (f,q) (Wb h),fun f sm h=>by
 have h:WO (yj ml cs g) f=some sm:=h;have h:=FF h;have hi: ∀w0 p,KF w0 p (OW ml cs g)→KF w0 p JF:=fun w0 p h=>⟨fun g hg=>(by cases hg),h.2.1⟩;unfold yj at h;rcases List.mem_cons.1 h with h|h
 ·injection h with e1 e2;subst e1 e2;exact yz hM hw hr
 rcases List.mem_cons.1 h with h|h
 ·injection h with e1 e2;subst e1 e2;exact I1 Nx mixed hi
 rcases List.mem_cons.1 h with h|h
 ·injection h with e1 e2;subst e1 e2;exact I1 Nx mixed hi
 rcases List.mem_cons.1 h with h|h
 ·injection h with e1 e2;subst e1 e2;exact I1 Nx mixed hi
 rcases List.mem_cons.1 h with h|h
 ·injection h with e1 e2;subst e1 e2;exact I1 Nx mixed hi
 rcases List.mem_cons.1 h with h|h
 ·injection h with e1 e2;subst e1 e2;exact PT fun w0 w h hb=>VC.below h.2 hb
 cases h⟩
end
end Go.Proofs.YthjgndgnmkiaiaaGreatDoor
