/-
  strings.Join, strings.Builder, strconv.Itoa by the library's contracts: the numbers of this program put in.
-/
import Derived.Shelf.Strings.OnBuilder
import Derived.Shelf.Strconv.Itoa3
import Derived.Test.YthjgndgnmkiaiaaGreatDoorZpShP
set_option linter.unusedSectionVars false
set_option linter.unusedSimpArgs false
set_option linter.unusedVariables false
namespace Go.Proofs.YthjgndgnmkiaiaaGreatDoor
section
open Go Go.RowKit Go.Shelf

def wq:Ren:=⟨
 fun n=>if n=156 then 18 else if n=165 then 40 else if n=166 then 16 else if n=169 then 20 else if n=240 then 38 else if n=241 then 72 else if n=276 then 70 else if n=277 then 103 else 0,
 fun n=>if n=0 then 0 else if n=3 then 3 else if n=4 then 4 else if n=5 then 5 else if n=9 then 9 else if n=20 then 20 else if n=31 then 61 else if n=37 then 51 else if n=70 then 50 else if n=72 then 53 else if n=75 then 57 else if n=76 then 58 else if n=80 then 64 else if n=127 then 93 else if n=164 then 120 else 0,
 fun _=>0⟩

set_option maxRecDepth 100000 in
theorem IU:Lays.n156 Tryz.prog wq:={
 mixed:=by kernel_rfl
 f156:=by kernel_rfl
 f165:=by kernel_rfl
 f166:=by kernel_rfl
 f169:=by kernel_rfl
 f240:=by kernel_rfl
 f241:=by kernel_rfl
 f276:=by kernel_rfl
 f277:=by kernel_rfl
 t0:=by kernel_rfl
 a0:=fun _=>by kernel_rfl
 z0:=fun _=>by kernel_rfl
 v0:=fun _=>by kernel_rfl
 t3:=by kernel_rfl
 a3:=fun _=>by kernel_rfl
 z3:=fun _=>by kernel_rfl
 v3:=fun _=>by kernel_rfl
 t4:=by kernel_rfl
 a4:=fun _=>by kernel_rfl
 z4:=fun _=>by kernel_rfl
 v4:=fun _=>by kernel_rfl
 t9:=by kernel_rfl
 a9:=fun _=>by kernel_rfl
 z9:=fun _=>by kernel_rfl
 v9:=fun _=>by kernel_rfl
 t20:=by kernel_rfl
 a20:=fun _=>by kernel_rfl
 z20:=fun _=>by kernel_rfl
 v20:=fun _=>by kernel_rfl
 t31:=by kernel_rfl
 a31:=fun _=>by kernel_rfl
 z31:=fun _=>by kernel_rfl
 v31:=fun _=>by kernel_rfl
 t37:=by kernel_rfl
 a37:=fun _=>by kernel_rfl
 z37:=fun _=>by kernel_rfl
 v37:=fun _=>by kernel_rfl
 t70:=by kernel_rfl
 a70:=fun _=>by kernel_rfl
 z70:=fun _=>by kernel_rfl
 v70:=fun _=>by kernel_rfl
 t72:=by kernel_rfl
 a72:=fun _=>by kernel_rfl
 z72:=fun _=>by kernel_rfl
 v72:=fun _=>by kernel_rfl
 t75:=by kernel_rfl
 a75:=fun _=>by kernel_rfl
 z75:=fun _=>by kernel_rfl
 v75:=fun _=>by kernel_rfl
 t76:=by kernel_rfl
 a76:=fun _=>by kernel_rfl
 z76:=fun _=>by kernel_rfl
 v76:=fun _=>by kernel_rfl
 t127:=by kernel_rfl
 a127:=fun _=>by kernel_rfl
 z127:=fun _=>by kernel_rfl
 v127:=fun _=>by kernel_rfl
 t164:=by kernel_rfl
 a164:=fun _=>by kernel_rfl
 z164:=fun _=>by kernel_rfl
 v164:=fun _=>by kernel_rfl}
set_option maxRecDepth 100000 in
theorem xc:Lays.n166 Tryz.prog wq:={
 mixed:=by kernel_rfl
 f166:=by kernel_rfl
 f240:=by kernel_rfl
 f276:=by kernel_rfl
 t0:=by kernel_rfl
 a0:=fun _=>by kernel_rfl
 z0:=fun _=>by kernel_rfl
 v0:=fun _=>by kernel_rfl
 t3:=by kernel_rfl
 a3:=fun _=>by kernel_rfl
 z3:=fun _=>by kernel_rfl
 v3:=fun _=>by kernel_rfl
 t4:=by kernel_rfl
 a4:=fun _=>by kernel_rfl
 z4:=fun _=>by kernel_rfl
 v4:=fun _=>by kernel_rfl
 t9:=by kernel_rfl
 a9:=fun _=>by kernel_rfl
 z9:=fun _=>by kernel_rfl
 v9:=fun _=>by kernel_rfl
 t20:=by kernel_rfl
 a20:=fun _=>by kernel_rfl
 z20:=fun _=>by kernel_rfl
 v20:=fun _=>by kernel_rfl
 t37:=by kernel_rfl
 a37:=fun _=>by kernel_rfl
 z37:=fun _=>by kernel_rfl
 v37:=fun _=>by kernel_rfl
 t70:=by kernel_rfl
 a70:=fun _=>by kernel_rfl
 z70:=fun _=>by kernel_rfl
 v70:=fun _=>by kernel_rfl
 t72:=by kernel_rfl
 a72:=fun _=>by kernel_rfl
 z72:=fun _=>by kernel_rfl
 v72:=fun _=>by kernel_rfl
 t75:=by kernel_rfl
 a75:=fun _=>by kernel_rfl
 z75:=fun _=>by kernel_rfl
 v75:=fun _=>by kernel_rfl
 t164:=by kernel_rfl
 a164:=fun _=>by kernel_rfl
 z164:=fun _=>by kernel_rfl
 v164:=fun _=>by kernel_rfl}
set_option maxRecDepth 100000 in
theorem xb:Lays.n169 Tryz.prog wq:={
 mixed:=by kernel_rfl
 f169:=by kernel_rfl
 t0:=by kernel_rfl
 a0:=fun _=>by kernel_rfl
 z0:=fun _=>by kernel_rfl
 v0:=fun _=>by kernel_rfl
 t3:=by kernel_rfl
 a3:=fun _=>by kernel_rfl
 z3:=fun _=>by kernel_rfl
 v3:=fun _=>by kernel_rfl
 t9:=by kernel_rfl
 a9:=fun _=>by kernel_rfl
 z9:=fun _=>by kernel_rfl
 v9:=fun _=>by kernel_rfl
 t37:=by kernel_rfl
 a37:=fun _=>by kernel_rfl
 z37:=fun _=>by kernel_rfl
 v37:=fun _=>by kernel_rfl
 t70:=by kernel_rfl
 a70:=fun _=>by kernel_rfl
 z70:=fun _=>by kernel_rfl
 v70:=fun _=>by kernel_rfl
 t72:=by kernel_rfl
 a72:=fun _=>by kernel_rfl
 z72:=fun _=>by kernel_rfl
 v72:=fun _=>by kernel_rfl
 t127:=by kernel_rfl
 a127:=fun _=>by kernel_rfl
 z127:=fun _=>by kernel_rfl
 v127:=fun _=>by kernel_rfl}
set_option maxRecDepth 100000 in
theorem EE:Builder.Extra Tryz.prog wq:={
 sizeBuilder:=by kernel_rfl
 liesBuilder:=by kernel_rfl
 t5:=by kernel_rfl
 a5:=fun _=>by kernel_rfl
 z5:=fun _=>by kernel_rfl
 v5:=fun _=>by kernel_rfl
 infoByte:=by kernel_rfl
 cellsByte:=by kernel_rfl
 sizeByte:=by kernel_rfl
 neB5:=by decide}
def nS:Ren:=⟨
 fun n=>if n=129 then 171 else if n=171 then 39 else if n=243 then 71 else if n=246 then 102 else if n=283 then 128 else if n=284 then 129 else if n=285 then 130 else if n=286 then 131 else if n=317 then 170 else if n=318 then 172 else if n=319 then 173 else if n=320 then 174 else if n=337 then 214 else if n=338 then 215 else 0,
 fun n=>if n=0 then 0 else if n=2 then 2 else if n=3 then 3 else if n=4 then 4 else if n=5 then 5 else if n=9 then 9 else if n=20 then 20 else if n=37 then 51 else if n=46 then 211 else if n=51 then 218 else if n=53 then 180 else if n=171 then 179 else if n=173 then 183 else if n=212 then 217 else if n=213 then 219 else if n=232 then 311 else if n=233 then 312 else 0,
 fun n=>if n=17 then 3 else if n=18 then 4 else if n=19 then 5 else 0⟩

set_option maxRecDepth 100000 in
theorem ec:Lays.n171 Tryz.prog nS:={
 mixed:=by kernel_rfl
 f129:=by kernel_rfl
 f171:=by kernel_rfl
 f243:=by kernel_rfl
 f246:=by kernel_rfl
 f283:=by kernel_rfl
 f284:=by kernel_rfl
 f285:=by kernel_rfl
 f286:=by kernel_rfl
 f317:=by kernel_rfl
 f318:=by kernel_rfl
 f319:=by kernel_rfl
 f320:=by kernel_rfl
 f337:=by kernel_rfl
 f338:=by kernel_rfl
 t0:=by kernel_rfl
 a0:=fun _=>by kernel_rfl
 z0:=fun _=>by kernel_rfl
 v0:=fun _=>by kernel_rfl
 t2:=by kernel_rfl
 a2:=fun _=>by kernel_rfl
 z2:=fun _=>by kernel_rfl
 v2:=fun _=>by kernel_rfl
 t3:=by kernel_rfl
 a3:=fun _=>by kernel_rfl
 z3:=fun _=>by kernel_rfl
 v3:=fun _=>by kernel_rfl
 t4:=by kernel_rfl
 a4:=fun _=>by kernel_rfl
 z4:=fun _=>by kernel_rfl
 v4:=fun _=>by kernel_rfl
 t5:=by kernel_rfl
 a5:=fun _=>by kernel_rfl
 z5:=fun _=>by kernel_rfl
 v5:=fun _=>by kernel_rfl
 t9:=by kernel_rfl
 a9:=fun _=>by kernel_rfl
 z9:=fun _=>by kernel_rfl
 v9:=fun _=>by kernel_rfl
 t20:=by kernel_rfl
 a20:=fun _=>by kernel_rfl
 z20:=fun _=>by kernel_rfl
 v20:=fun _=>by kernel_rfl
 t37:=by kernel_rfl
 a37:=fun _=>by kernel_rfl
 z37:=fun _=>by kernel_rfl
 v37:=fun _=>by kernel_rfl
 t46:=by kernel_rfl
 a46:=fun _=>by kernel_rfl
 z46:=fun _=>by kernel_rfl
 v46:=fun _=>by kernel_rfl
 t51:=by kernel_rfl
 a51:=fun _=>by kernel_rfl
 z51:=fun _=>by kernel_rfl
 v51:=fun _=>by kernel_rfl
 t53:=by kernel_rfl
 a53:=fun _=>by kernel_rfl
 z53:=fun _=>by kernel_rfl
 v53:=fun _=>by kernel_rfl
 t171:=by kernel_rfl
 a171:=fun _=>by kernel_rfl
 z171:=fun _=>by kernel_rfl
 v171:=fun _=>by kernel_rfl
 t173:=by kernel_rfl
 a173:=fun _=>by kernel_rfl
 z173:=fun _=>by kernel_rfl
 v173:=fun _=>by kernel_rfl
 t212:=by kernel_rfl
 a212:=fun _=>by kernel_rfl
 z212:=fun _=>by kernel_rfl
 v212:=fun _=>by kernel_rfl
 t213:=by kernel_rfl
 a213:=fun _=>by kernel_rfl
 z213:=fun _=>by kernel_rfl
 t232:=by kernel_rfl
 a232:=fun _=>by kernel_rfl
 z232:=fun _=>by kernel_rfl
 v232:=fun _=>by kernel_rfl
 t233:=by kernel_rfl
 a233:=fun _=>by kernel_rfl
 z233:=fun _=>by kernel_rfl
 v233:=fun _=>by kernel_rfl
 g17:=by kernel_rfl
 g18:=by kernel_rfl
 g19:=by kernel_rfl}
end
section
open Go Go.RowKit Go.Shelf

def Ze(sep:List Nat):List (List Nat)→List Nat
 |[]=>[]
 |[x]=>x
 |x::y::l=>x++(sep++Ze sep (y::l))
def u8(l:List Nat):List UInt8:=l.map UInt8.ofNat
theorem CY(sep:List Nat): ∀xs:List (List Nat),Lib.join (xs.map u8) (u8 sep)=u8 (Ze sep xs)
 |[]=>rfl
 |[x]=>Lib.join_one _ _
 |x::y::l=>by
  have ih:=CY sep (y::l);have ha: ∀a b,u8 (a++b)=u8 a++u8 b:=fun a b=>List.map_append;rw[List.map_cons,Lib.join_cons]at ih ⊢;rw[Ze,ha,ha,←ih,List.map_cons];show u8 x++((u8 y::l.map u8).map (u8 sep++ ·)).flatten=_;rw[List.map_cons,List.flatten_cons,List.append_assoc];rfl
def Lp:List AV→Option (List (List Nat))
 |[]=>some []
 |.str s::l=>(Lp l).map (s:: ·)
 |_::_=>none
theorem GU: ∀xs:List (List Nat),Lp (xs.map AV.str)=some xs
 |[]=>rfl
 |x::xs=>by
  show(Lp (xs.map AV.str)).map (x:: ·)=_;rw[GU xs];rfl
theorem DO: ∀{l:List AV} {xs:List (List Nat)},Lp l=some xs→l=xs.map AV.str
 |[],xs,h=>by injection h with h;subst h;rfl
 |.str s::l,xs,h=>by
  have h:(Lp l).map (s:: ·)=some xs:=h
  cases hl:Lp l with
  |none=>rw[hl]at h;cases h
  |some ys=>
   rw[hl]at h
   injection h with h
   subst h;rw[List.map_cons,←DO hl]
noncomputable def I0:List AV→St→Option (AV×St)
 |[.nils,.str sep],st=>some (.str [],st)
 |[.sl c m 0 len 1,.str sep],st=>match st.h.get c with
  |some (.row false ms)=>match ms[m]? with
   |some (e,vs,some l)=>match Lp (l.take len)with
    |some xs=>if xs.length=len∧len≤1000000∧(Ze sep xs).length≤140737488355328 then some (.str (Ze sep xs),st)else none
    |none=>none
   |_=>none
  |_=>none
 |_,_=>none
theorem LA{sep:List Nat}(hs:Bytes sep): ∀{xs:List (List Nat)},(∀x∈xs,Bytes x)→Bytes (Ze sep xs)
 |[],_=>fun x hx=>by cases hx
 |[x],h=>h x Q1
 |x::y::l,h=>fun z hz=>by
  rw[Ze]at hz;rcases List.mem_append.1 hz with hz|hz
  ·exact h x Q1 z hz
  ·rcases List.mem_append.1 hz with hz|hz
   ·exact hs z hz
   ·exact LA hs (fun x hx=>h x (List.mem_cons_of_mem _ hx)) z hz
theorem xi{G:Env}:Vh Tryz.prog G 18 I0:=by
 intro args st v st' hs hf ha;have hr:Real Tryz.prog 18:=⟨_,Tryz.func18,rfl,by decide+kernel⟩;unfold I0 at hs
 split at hs
 ·rename_i sep
  injection hs with hs
  injection hs with e1 e2
  subst e1 e2;refine⟨hr,fun w0 p w H hG=>⟨Ab.refl _,?_⟩⟩;have h:=Any.strings_Join_none IU EE none 0 (bytesOf sep) w;refine h.mono fun e w' he=>?_;obtain⟨rfl,rfl⟩:=he;exact⟨p,rfl,Step.refl H,fun x hx=>by cases hx⟩
 ·rename_i c m len sep
  split at hs
  ·rename_i ms hc
   split at hs
   ·rename_i e vs l hm
    split at hs
    ·rename_i xs hxs
     split at hs
     ·rename_i hcond;obtain⟨hlen,h1M,hsz⟩:=hcond
      injection hs with hs
      injection hs with e1 e2
      subst e1 e2;refine⟨hr,fun w0 p w H hG=>⟨Ab.refl _,?_⟩⟩;have hR:=H.cls c _ hc;obtain⟨q,arr,el,g1,g2,g3,g4,g5,g6⟩:=hR.mem m e vs (some l) hm;obtain⟨k1,k2⟩:=g6 l rfl;have hb:=g2.own;have hblt:=(Array.getElem?_eq_some_iff.1 hb).1;have hzl:l.take len=xs.map AV.str:=DO hxs
      have hwf: ∀x∈xs,Bytes x:=fun x hx=>by
       have hx2:AV.str x∈l.take len:=by rw[hzl];exact List.mem_map.2 ⟨x,hx,rfl⟩
       obtain⟨j,hj⟩:=List.getElem?_of_mem (List.mem_of_mem_take hx2);exact(k2 j _ hj).2.1
      obtain⟨C,e0,hC,he0,_,hle0⟩:=ha.1;rw[hc]at hC
      injection hC with hC
      subst hC;have he0:(ms.map Prod.fst)[m]? =some e0:=he0;rw[List.getElem?_map,hm]at he0
      injection he0 with he0
      have he0:e=e0:=he0;subst he0
      have hH: ∀(j:Nat) x,(xs.map bytesOf)[j]? =some x→w.cell? ⟨q.b,q.d+j,none⟩=some (.string x):=fun j x hj=>by
       rw[List.getElem?_map]at hj
       cases hxj:xs[j]? with
       |none=>rw[hxj]at hj;cases hj
       |some y=>
        rw[hxj]at hj
        injection hj with hj
        subst hj
        have hjl:j<len:=by have:=(List.getElem?_eq_some_iff.1 hxj).1;omega
        have ha1:l[j]? =some (.str y):=by
         have h:=congrArg (fun x=>x[j]?) hzl;simp only[List.getElem?_map,hxj]at h;rw[List.getElem?_take_of_lt hjl]at h;exact h
        obtain⟨j1,_,_⟩:=k2 j _ ha1;simp only[World.cell?,hb];simp only[Option.isSome_none,Bool.false_eq_true,if_false];rw[j1];rfl
      have hargs:(Qn p [AV.sl c m 0 len 1,.str sep]).toArray= #[.slice (some ⟨q.b,q.d,none⟩) (xs.map bytesOf).length q.e,.string (bytesOf sep)]:=by
       show #[Qe p (AV.sl c m 0 len 1),Qe p (.str sep)]=_;simp only[Qe,g1];rw[List.length_map,hlen];simp
      rw[hargs]
      have hjo:Lib.join ((xs.map bytesOf).map (·.data.toList)) (bytesOf sep).data.toList=u8 (Ze sep xs):=by
       rw[←CY,List.map_map]
       congr 1
      have h:=Any.strings_Join IU EE q.b q.d q.e (xs.map bytesOf) (bytesOf sep) w hH hblt (by rw[List.length_map];omega) (by rw[List.length_map];omega) (by rw[hjo];unfold u8;rw[List.length_map];exact hsz);refine h.mono fun e' w' he=>?_;obtain⟨rfl,hb'⟩:=he;refine⟨p,?_,H.Zy hb',LA ha.2.1 hwf⟩;rw[hjo];rfl
     ·cases hs
    ·cases hs
   ·cases hs
  ·cases hs
 ·cases hs
noncomputable def PX:List AV→Option AV
 |[.int .i64 z]=>if 0≤z∧z≤99 then some (.str (U4 z.toNat))else none
 |_=>none
theorem iR: ∀(n u:Nat),u≤n→Lib.decDigits u=u8 (U4 u):=by
 intro n
 induction n with
 |zero=>
  intro u h;rw[Lib.decDigits,dif_pos Qk,U4,if_pos Qk];rfl
 |succ n ih=>
  intro u h
  by_cases hu:u<10
  ·rw[Lib.decDigits,dif_pos hu,U4,if_pos hu];rfl
  ·rw[Lib.decDigits,dif_neg hu,U4,if_neg hu,ih (u/10) Qk];unfold u8;rw[List.map_append];rfl
theorem TB: ∀(n u:Nat),u≤n→Bytes (U4 u):=by
 intro n
 induction n with
 |zero=>
  intro u h x hx;rw[U4,if_pos Qk]at hx;rw[List.mem_singleton.1 hx];omega
 |succ n ih=>
  intro u h x hx
  by_cases hu:u<10
  ·rw[U4,if_pos hu]at hx;rw[List.mem_singleton.1 hx];omega
  ·rw[U4,if_neg hu]at hx;rcases List.mem_append.1 hx with hx|hx
   ·exact ih (u/10) Qk x hx
   ·rw[List.mem_singleton.1 hx];omega
theorem xk{G:Env}:Vh Tryz.prog G 39 (qO PX):=
 Mo (I:=fun _=>True) ⟨_,Tryz.func39,rfl,by decide+kernel⟩ (fun _ _ _ _=>trivial) fun h args v hv ha=>by
  unfold PX at hv
  split at hv
  ·rename_i z
   split at hv
   ·rename_i hz
    injection hv with hv
    subst hv;refine⟨TB _ _ (Nat.le_refl _),fun p w _=>?_⟩;have hh:=Any.strconv_Itoa_small ec z.toNat Qk w;rw[show((z.toNat:Nat):Int)=z by omega]at hh;refine hh.mono fun e w' he=>?_;obtain⟨rfl,rfl⟩:=he;exact⟨by rw[iR _ _ (Nat.le_refl _)];rfl,Below.refl _ _⟩
   ·cases hv
  ·cases hv
end
section
open Go Go.RowKit

theorem Aq(a b:Nat):(Nat.beq a b=true)=(a=b):=propext ⟨Nat.eq_of_beq_eq_true,fun e=>by rw[e];exact Nat.beq_refl _⟩
mutual
def V5(r:Nat→Nat×Nat):AV→AV
 |.ptr c m off=>.ptr (r c).1 (r c).2 off
 |.sl c m off len z=>.sl (r c).1 (r c).2 off len z
 |.mp c=>.mp (r c).1
 |.ifc t v=>.ifc t (V5 r v)
 |.agg l=>.agg (Hu r l)
 |.tup l=>.tup (Hu r l)
 |.bool b=>.bool b
 |.int k n=>.int k n
 |.str l=>.str l
 |.nilp=>.nilp
 |.nils=>.nils
 |.nilm=>.nilm
 |.nili=>.nili
 |.nilf=>.nilf
 |.slz c m off a z=>.slz c m off a z
 |.sl0 b o s=>.sl0 b o s
 |.fn f a c=>.fn f a c
def Hu(r:Nat→Nat×Nat):List AV→List AV
 |[]=>[]
 |v::l=>V5 r v::Hu r l
end
mutual
def WA(z:List (Nat×Bool)):AV→Bool
 |.ptr c m off=>Nat.beq m 0&&(z[c]?).any fun x=> !x.2
 |.sl c m off len k=>Nat.beq m 0&&(z[c]?).any fun x=> !x.2&&(Nat.ble 1 k&&Nat.ble (off+len *k) x.1)
 |.mp c=>(z[c]?).any fun x=>x.2
 |.ifc t v=>WA z v
 |.agg l=>Sh z l
 |.tup l=>Sh z l
 |.bool _=>true
 |.int _ _=>true
 |.str l=>l.all fun x=>decide (x<256)
 |.nilp=>true
 |.nils=>true
 |.nilm=>true
 |.nili=>true
 |_=>false
def Sh(z:List (Nat×Bool)):List AV→Bool
 |[]=>true
 |v::l=>WA z v&&Sh z l
end
mutual
def OV:AV→AV→Bool
 |.ptr c m o,y=>(match y with|.ptr c' m' o'=>Nat.beq c c'&&(Nat.beq m m'&&Nat.beq o o')|_=>false)
 |.sl c m o n z,y=>(match y with|.sl c' m' o' n' z'=>Nat.beq c c'&&(Nat.beq m m'&&(Nat.beq o o'&&(Nat.beq n n'&&Nat.beq z z')))|_=>false)
 |.mp c,y=>(match y with|.mp c'=>Nat.beq c c'|_=>false)
 |.ifc t v,y=>(match y with|.ifc t' v'=>Nat.beq t t'&&OV v v'|_=>false)
 |.agg l,y=>(match y with|.agg l'=>eH l l'|_=>false)
 |.tup l,y=>(match y with|.tup l'=>eH l l'|_=>false)
 |.bool b,y=>(match y with|.bool b'=>b==b'|_=>false)
 |.int k n,y=>(match y with|.int k' n'=>decide (k=k')&&decide (n=n')|_=>false)
 |.str l,y=>(match y with|.str l'=>decide (l=l')|_=>false)
 |.nilp,y=>(match y with|.nilp=>true|_=>false)
 |.nils,y=>(match y with|.nils=>true|_=>false)
 |.nilm,y=>(match y with|.nilm=>true|_=>false)
 |.nili,y=>(match y with|.nili=>true|_=>false)
 |_,_=>false
def eH:List AV→List AV→Bool
 |[],l=>(match l with|[]=>true|_=>false)
 |v::l,r=>(match r with|w::r=>OV v w&&eH l r|_=>false)
end
mutual
theorem OU: ∀(x y:AV),OV x y=true→x=y
 |.ptr c m o,y,h=>by
  cases y<;>simp only[OV,Bool.and_eq_true,Bool.false_eq_true,Aq]at h
  obtain⟨rfl,rfl,rfl⟩:=h;rfl
 |.sl c m o n z,y,h=>by
  cases y<;>simp only[OV,Bool.and_eq_true,Bool.false_eq_true,Aq]at h
  obtain⟨rfl,rfl,rfl,rfl,rfl⟩:=h;rfl
 |.mp c,y,h=>by
  cases y<;>simp only[OV,Bool.false_eq_true,Aq]at h
  rw[h]
 |.ifc t v,y,h=>by
  cases y<;>simp only[OV,Bool.and_eq_true,Bool.false_eq_true,Aq]at h
  obtain⟨rfl,h⟩:=h;rw[OU v _ h]
 |.agg l,y,h=>by
  cases y<;>simp only[OV,Bool.false_eq_true]at h
  rw[Ld l _ h]
 |.tup l,y,h=>by
  cases y<;>simp only[OV,Bool.false_eq_true]at h
  rw[Ld l _ h]
 |.bool b,y,h=>by
  cases y<;>simp only[OV,Bool.false_eq_true,beq_iff_eq]at h
  rw[h]
 |.int k n,y,h=>by
  cases y<;>simp only[OV,Bool.and_eq_true,Bool.false_eq_true,decide_eq_true_eq]at h
  obtain⟨rfl,rfl⟩:=h;rfl
 |.str l,y,h=>by
  cases y<;>simp only[OV,Bool.false_eq_true,decide_eq_true_eq]at h
  rw[h]
 |.nilp,y,h=>by cases y<;>simp[OV]at h;rfl
 |.nils,y,h=>by cases y<;>simp[OV]at h;rfl
 |.nilm,y,h=>by cases y<;>simp[OV]at h;rfl
 |.nili,y,h=>by cases y<;>simp[OV]at h;rfl
 |.nilf,y,h=>by simp[OV]at h
 |.slz ..,y,h=>by simp[OV]at h
 |.sl0 ..,y,h=>by simp[OV]at h
 |.fn ..,y,h=>by simp[OV]at h
theorem Ld: ∀(x y:List AV),eH x y=true→x=y
 |[],y,h=>by cases y<;>simp[eH]at h;rfl
 |v::l,y,h=>by
  cases y<;>simp only[eH,Bool.and_eq_true,Bool.false_eq_true]at h
  rw[OU v _ h.1,Ld l _ h.2]
end
mutual
theorem FJ{z:List (Nat×Bool)}{r:Nat→Nat×Nat}{p q:Jy}(h: ∀i x,z[i]? =some x→p (r i).1 (r i).2=q i 0)(hm: ∀i e,z[i]? =some (e,true)→(r i).2=0): ∀v,WA z v=true→Qe p (V5 r v)=Qe q v
 |.ptr c m off,w=>by
  simp only[WA,Bool.and_eq_true,Aq,Option.any_eq_true]at w;obtain⟨rfl,x,hx,_⟩:=w;simp only[V5,Qe,h c x hx]
 |.sl c m off len k,w=>by
  simp only[WA,Bool.and_eq_true,Aq,Option.any_eq_true]at w;obtain⟨rfl,x,hx,_⟩:=w;simp only[V5,Qe,h c x hx]
 |.mp c,w=>by
  simp only[WA,Option.any_eq_true]at w;obtain⟨⟨e,b⟩,hx,rfl⟩:=w;have h2:=h c _ hx;rw[hm c e hx]at h2;simp only[V5,Qe,h2]
 |.ifc t v,w=>by
  simp only[WA]at w;simp only[V5,Qe,FJ h hm v w]
 |.agg l,w=>by
  simp only[WA]at w;simp only[V5,Qe,Kq h hm l w]
 |.tup l,w=>by
  simp only[WA]at w;simp only[V5,Qe,Kq h hm l w]
 |.bool b,_=>by simp only[V5,Qe]
 |.int k n,_=>by simp only[V5,Qe]
 |.str l,_=>by simp only[V5,Qe]
 |.nilp,_=>by simp only[V5,Qe]
 |.nils,_=>by simp only[V5,Qe]
 |.nilm,_=>by simp only[V5,Qe]
 |.nili,_=>by simp only[V5,Qe]
 |.nilf,w=>by simp[WA]at w
 |.slz ..,w=>by simp[WA]at w
 |.sl0 ..,w=>by simp[WA]at w
 |.fn ..,w=>by simp[WA]at w
theorem Kq{z:List (Nat×Bool)}{r:Nat→Nat×Nat}{p q:Jy}(h: ∀i x,z[i]? =some x→p (r i).1 (r i).2=q i 0)(hm: ∀i e,z[i]? =some (e,true)→(r i).2=0): ∀l,Sh z l=true→Qn p (Hu r l)=Qn q l
 |[],_=>by simp only[Hu,Qn]
 |v::l,w=>by
  simp only[Sh,Bool.and_eq_true]at w;simp only[Hu,Qn,FJ h hm v w.1,Kq h hm l w.2]
end
mutual
theorem qo{z:List (Nat×Bool)}{g:Nat→Nat}{h:Hp}(hz: ∀i x,z[i]? =some x→ ∃C,h (g i)=some C∧(exts C)[0]? =some x.1): ∀v,WA z v=true→WF h (V5 (fun i=>(g i,0)) v)
 |.ptr c m off,w=>by
  simp only[WA,Bool.and_eq_true,Aq,Option.any_eq_true]at w;obtain⟨rfl,x,hx,_⟩:=w;obtain⟨C,h1,h2⟩:=hz c x hx;exact⟨C,h1,(List.getElem?_eq_some_iff.1 h2).1⟩
 |.sl c m off len k,w=>by
  simp only[WA,Bool.and_eq_true,Aq,Option.any_eq_true]at w;obtain⟨rfl,x,hx,_,h3,h4⟩:=w;obtain⟨C,h1,h2⟩:=hz c x hx;exact⟨C,x.1,h1,h2,Nat.le_of_ble_eq_true h3,Nat.le_of_ble_eq_true h4⟩
 |.mp c,w=>by
  simp only[WA,Option.any_eq_true]at w;obtain⟨x,hx,_⟩:=w;obtain⟨C,h1,h2⟩:=hz c x hx;exact⟨C,h1,(List.getElem?_eq_some_iff.1 h2).1⟩
 |.ifc t v,w=>qo hz v (by simpa only[WA]using w)
 |.agg l,w=>DA hz l (by simpa only[WA]using w)
 |.tup l,w=>DA hz l (by simpa only[WA]using w)
 |.str l,w=>by
  simp only[WA,List.all_eq_true,decide_eq_true_eq]at w;exact w
 |.bool b,_=>trivial
 |.int k n,_=>trivial
 |.nilp,_=>trivial
 |.nils,_=>trivial
 |.nilm,_=>trivial
 |.nili,_=>trivial
 |.nilf,w=>trivial
 |.slz ..,w=>by simp[WA]at w
 |.sl0 ..,w=>trivial
 |.fn ..,w=>by simp[WA]at w
theorem DA{z:List (Nat×Bool)}{g:Nat→Nat}{h:Hp}(hz: ∀i x,z[i]? =some x→ ∃C,h (g i)=some C∧(exts C)[0]? =some x.1): ∀l,Sh z l=true→YN h (Hu (fun i=>(g i,0)) l)
 |[],_=>trivial
 |v::l,w=>by
  simp only[Sh,Bool.and_eq_true]at w;exact⟨qo hz v w.1,DA hz l w.2⟩
end
mutual
theorem yK{z:List (Nat×Bool)}: ∀v,WA z v=true→V5 (fun i=>(i,0)) v=v
 |.ptr c m off,w=>by
  simp only[WA,Bool.and_eq_true,Aq]at w;simp only[V5,w.1]
 |.sl c m off len k,w=>by
  simp only[WA,Bool.and_eq_true,Aq]at w;simp only[V5,w.1]
 |.mp c,w=>by simp only[V5]
 |.ifc t v,w=>by simp only[V5,yK v (by simpa only[WA]using w)]
 |.agg l,w=>by simp only[V5,CB l (by simpa only[WA]using w)]
 |.tup l,w=>by simp only[V5,CB l (by simpa only[WA]using w)]
 |.bool b,_=>by simp only[V5]
 |.int k n,_=>by simp only[V5]
 |.str l,_=>by simp only[V5]
 |.nilp,_=>by simp only[V5]
 |.nils,_=>by simp only[V5]
 |.nilm,_=>by simp only[V5]
 |.nili,_=>by simp only[V5]
 |.nilf,w=>by simp only[V5]
 |.slz ..,w=>by simp only[V5]
 |.sl0 ..,w=>by simp only[V5]
 |.fn ..,w=>by simp only[V5]
theorem CB{z:List (Nat×Bool)}: ∀l,Sh z l=true→Hu (fun i=>(i,0)) l=l
 |[],_=>by simp only[Hu]
 |v::l,w=>by
  simp only[Sh,Bool.and_eq_true]at w;simp only[Hu,yK v w.1,CB l w.2]
end
theorem eU(r:Nat→Nat×Nat)(v:AV):QI (V5 r v)=QI v:=by cases v<;>simp only[V5,QI]
theorem Vt(r:Nat→Nat×Nat): ∀l,Hu r l=l.map (V5 r)
 |[]=>by simp only[Hu,List.map_nil]
 |v::l=>by simp only[Hu,List.map_cons,Vt r l]
theorem Nc{z:List (Nat×Bool)}: ∀l,Sh z l=true→ ∀v∈l,WA z v=true
 |v::l,w,x,hx=>by
  simp only[Sh,Bool.and_eq_true]at w;rcases List.mem_cons.1 hx with rfl|hx
  ·exact w.1
  ·exact Nc l w.2 x hx
inductive LC where
 |row (l:List AV)
 |map (es:List (AV×AV×Nat)) (k:Nat)
def uA(r:Nat→Nat×Nat)(x:AV×AV×Nat):AV×AV×Nat:=(V5 r x.1,V5 r x.2.1,x.2.2)
def LC.rl(r:Nat→Nat×Nat):LC→LC
 |.row l=>.row (Hu r l)
 |.map es k=>.map (es.map (uA r)) k
def LC.cls:LC→Av
 |.row l=>.row false [(l.length,0,some l)]
 |.map es k=>.map es k
def LC.sz:LC→Nat×Bool
 |.row l=>(l.length,false)
 |.map _ _=>(1,true)
def LC.wf(z:List (Nat×Bool)):LC→Bool
 |.row l=>Sh z l&&l.all QI
 |.map es _=>es.all fun x=>WA z x.1&&WA z x.2.1
def iI:List (AV×AV×Nat)→List (AV×AV×Nat)→Bool
 |[],[]=>true
 |x::l,y::r=>OV x.1 y.1&&(OV x.2.1 y.2.1&&(Nat.beq x.2.2 y.2.2&&iI l r))
 |_,_=>false
theorem T6: ∀x y,iI x y=true→x=y
 |[],[],_=>rfl
 |[],_::_,h=>by simp[iI]at h
 |_::_,[],h=>by simp[iI]at h
 |(a,b,c)::l,(a',b',c')::r,h=>by
  simp only[iI,Bool.and_eq_true,Aq]at h;obtain⟨h1,h2,h3,h4⟩:=h;rw[OU _ _ h1,OU _ _ h2,h3,T6 _ _ h4]
def PZ(C:LC)(D:Option Av):Bool:=match D with
 |some (.row false [(e,0,some l)])=>(match C with|.row l'=>Nat.beq e l.length&&eH l' l|_=>false)
 |some (.map es k)=>(match C with|.map es' k'=>iI es' es&&Nat.beq k' k|_=>false)
 |_=>false
theorem O5{C:LC}{D:Option Av}(h:PZ C D=true):D=some C.cls:=by
 unfold PZ at h
 split at h
 ·split at h
  ·simp only[Bool.and_eq_true,Aq]at h;obtain⟨rfl,h⟩:=h;rw[Ld _ _ h];rfl
  ·cases h
 ·split at h
  ·simp only[Bool.and_eq_true,Aq]at h;rw[T6 _ _ h.1,h.2];rfl
  ·cases h
 ·cases h
theorem LC.Nw(r:Nat→Nat×Nat)(C:LC):exts (C.rl r).cls=[C.sz.1]:=by
 cases C with
 |row l=>show [(Hu r l).length]=[l.length];rw[Vt,List.length_map]
 |map es k=>rfl
def Xj(h0:List LC)(g:Nat→Nat)(p:Jy):Jy:=fun c m=>if c<h0.length∧m=0 then p (g c) 0 else none
def FX(h0:List LC):List (Nat×Bool):=h0.map LC.sz
def er(h0:List LC):Hp:=fun c=>(h0[c]?).map LC.cls
section
variable {w0 w:World} {p:Jy} {h:Hp} {h0:List LC} {g:Nat→Nat}
theorem Nh{i:Nat}{x:Nat×Bool}(hx:(FX h0)[i]? =some x): ∃C,h0[i]? =some C∧x=C.sz:=by
 unfold FX at hx;rw[List.getElem?_map]at hx
 cases hc:h0[i]? with
 |none=>rw[hc]at hx;cases hx
 |some C=>rw[hc]at hx;injection hx with hx;exact⟨C,rfl,hx.symm⟩
theorem Cy{i:Nat}{x:Nat×Bool}(hx:(FX h0)[i]? =some x):i<h0.length:=by
 have:=(List.getElem?_eq_some_iff.1 hx).1;unfold FX at this
 simpa using this
theorem pull(H:HR w0 p h w)(hg: ∀c C,h0[c]? =some C→h (g c)=some (C.rl fun i=>(g i,0)).cls)(hin: ∀c d,c<h0.length→d<h0.length→g c=g d→c=d)(hw: ∀C∈h0,C.wf (FX h0)=true):HR w0 (Xj h0 g p) (er h0) w:=by
 have hp: ∀i x,(FX h0)[i]? =some x→p (g i) 0=Xj h0 g p i 0:=fun i x hx=>by rw[Xj,if_pos ⟨Cy hx,rfl⟩]
 have hcv: ∀v,WA (FX h0) v=true→Qe p (V5 (fun i=>(g i,0)) v)=Qe (Xj h0 g p) v:=fun v hv=>FJ hp (fun _ _ _=>rfl) v hv
 have hWF: ∀v,WA (FX h0) v=true→WF (er h0) v:=fun v hv=>by
  have:=qo (g:=id) (h:=er h0) (fun i x hx=>by
   obtain⟨C,hC,rfl⟩:=Nh hx;refine⟨C.cls,by show(h0[i]?).map LC.cls=_;rw[hC];rfl,?_⟩
   cases C<;>rfl) v hv
  rwa [show(fun i=>(id i,0))=(fun i:Nat=>(i,0))from rfl,yK v hv]at this
 refine⟨H.os,H.tape,H.output,H.size,H.old,fun c m x hx=>?_,fun c m x hx=>?_,fun c m x c' m' x' hx hx' hb=>?_,fun c C hC=>?_⟩
 ·unfold Xj at hx
  split at hx
  ·rename_i hc;obtain⟨hc,rfl⟩:=hc;refine⟨(h0[c]'hc).cls,by show(h0[c]?).map LC.cls=_;rw[List.getElem?_eq_getElem hc];rfl,?_⟩
   cases h0[c]'hc<;>exact Nat.zero_lt_one
  ·cases hx
 ·unfold Xj at hx
  split at hx
  ·exact H.lt _ _ _ hx
  ·cases hx
 ·unfold Xj at hx hx'
  split at hx
  ·split at hx'
   ·exact hin _ _ Qk Qk (H.apart _ _ _ _ _ _ hx hx' hb)
   ·cases hx'
  ·cases hx
 ·have hC:(h0[c]?).map LC.cls=some C:=hC
  cases hc:h0[c]? with
  |none=>rw[hc]at hC;cases hC
  |some D=>
   rw[hc]at hC
   injection hC with hC
   subst hC;have hlt:=(List.getElem?_eq_some_iff.1 hc).1;have hD:=hw D (List.mem_of_getElem? hc);have A:=H.cls _ _ (hg c D hc)
   have hpc:Xj h0 g p c 0=p (g c) 0:=by rw[Xj,if_pos ⟨hlt,rfl⟩]
   cases D with
   |row l=>
    have hD:(Sh (FX h0) l&&l.all QI)=true:=hD;rw[Bool.and_eq_true,List.all_eq_true]at hD;have A:VD w0.heap.size p h w (g c) false [((Hu (fun i=>(g i,0)) l).length,0,some (Hu (fun i=>(g i,0)) l))]:=A;obtain⟨q,arr,el,d1,d2,d3,d4,d5,d6⟩:=A.mem 0 _ _ _ rfl;refine(⟨fun m e vs cs he=>?_,fun m1 e1 v1 c1 m2 e2 v2 c2 q1 q2 b1 b2 b3 b4 b5=>?_⟩:VD w0.heap.size (Xj h0 g p) (er h0) w c false [(l.length,0,some l)])
    ·cases m with
     |succ m=>simp at he
     |zero=>
      injection he with he
      injection he with e1 he
      injection he with e2 e3
      subst e1 e2 e3;refine⟨q,arr,el,hpc.trans d1,d2,d3,by rw[Vt,List.length_map]at d4;exact d4,d5,fun l' hl'=>?_⟩
      injection hl' with hl'
      subst hl';refine⟨rfl,fun j v hj=>?_⟩;have hv:=Nc l hD.1 v (List.mem_of_getElem? hj);have:=(d6 _ rfl).2 j (V5 (fun i=>(g i,0)) v) (by rw[Vt,List.getElem?_map,hj];rfl);exact⟨by rw[this.1,hcv v hv],hWF v hv,hD.2 v (List.mem_of_getElem? hj)⟩
    ·cases m1 with
     |succ m1=>simp at b1
     |zero=>cases m2 with
      |succ m2=>simp at b2
      |zero=>
       rw[b3]at b4
       injection b4 with b4
       subst b4
       injection b1 with b1
       injection b2 with b2
       injection b1 with _ b1
       injection b2 with _ b2
       injection b1 with b1
       injection b2 with b2
       omega
   |map es k=>
    have hD:(es.all fun x=>WA (FX h0) x.1&&WA (FX h0) x.2.1)=true:=hD;rw[List.all_eq_true]at hD;obtain⟨q,d1,d2,d3,d4⟩:=A;refine⟨q,hpc.trans d1,?_,fun x hx=>?_,d4⟩
    ·rw[d2]
     congr 2
     refine congrArg List.toArray ?_;rw[List.map_map];refine List.map_congr_left fun x hx=>?_;have:=hD x hx;rw[Bool.and_eq_true]at this;show Xy p (uA _ x)=Xy _ x;unfold Xy uA;rw[hcv _ this.1,hcv _ this.2]
    ·have:=hD x hx;rw[Bool.and_eq_true]at this;exact⟨hWF _ this.1,hWF _ this.2⟩
end
end
end Go.Proofs.YthjgndgnmkiaiaaGreatDoor
