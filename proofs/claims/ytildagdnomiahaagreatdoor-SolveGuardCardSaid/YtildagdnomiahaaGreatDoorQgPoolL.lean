/-
  slices.Sort, slices.Compact at numbers and strconv.AppendInt, by the library's contracts: the numbers of this program put in.
-/
import Derived.Test.YtildagdnomiahaaGreatDoorProg
import Derived.Shelf.Sort.Plain
import Derived.Shelf.Slices.CompactI
import Derived.Shelf.Slices.In.SortNone
import Derived.Shelf.Strconv.AppendIntPublic10
import Derived.Test.YtildagdnomiahaaGreatDoorQgKit
import Derived.Lib.SlicesCompact
import Derived.Lib.ItoaNum
set_option linter.unusedVariables false
namespace Go.Proofs.YtildagdnomiahaaGreatDoor
section
open Go Go.RowKit Go.Shelf

def wX:Ren:=⟨
 fun n=>if n=125 then 292 else if n=128 then 319 else if n=129 then 219 else if n=189 then 261 else if n=215 then 334 else if n=216 then 316 else if n=257 then 291 else if n=294 then 310 else if n=295 then 311 else if n=296 then 312 else if n=297 then 313 else if n=298 then 314 else if n=299 then 315 else if n=300 then 317 else if n=301 then 318 else if n=328 then 329 else if n=329 then 330 else if n=330 then 331 else if n=331 then 332 else if n=332 then 333 else if n=343 then 343 else 0,
 fun n=>if n=0 then 0 else if n=3 then 3 else if n=4 then 4 else if n=5 then 5 else if n=9 then 9 else if n=28 then 48 else if n=46 then 259 else if n=51 then 266 else if n=53 then 209 else if n=131 then 247 else if n=182 then 341 else if n=183 then 342 else if n=218 then 358 else if n=222 then 362 else if n=228 then 369 else if n=229 then 137 else 0,
 fun _=>0⟩

set_option maxRecDepth 100000 in
theorem PY:Lays.n189 Tryz.prog wX:={
 mixed:=by kernel_rfl
 f125:=by kernel_rfl
 f128:=by kernel_rfl
 f129:=by kernel_rfl
 f189:=by kernel_rfl
 f215:=by kernel_rfl
 f216:=by kernel_rfl
 f257:=by kernel_rfl
 f294:=by kernel_rfl
 f295:=by kernel_rfl
 f296:=by kernel_rfl
 f297:=by kernel_rfl
 f298:=by kernel_rfl
 f299:=by kernel_rfl
 f300:=by kernel_rfl
 f301:=by kernel_rfl
 f328:=by kernel_rfl
 f329:=by kernel_rfl
 f330:=by kernel_rfl
 f331:=by kernel_rfl
 f332:=by kernel_rfl
 f343:=by kernel_rfl
 t0:=by kernel_rfl
 a0:=fun _=>by kernel_rfl
 z0:=fun _=>by kernel_rfl
 v0:=fun _=>by kernel_rfl
 t3:=by kernel_rfl
 a3:=fun _=>by kernel_rfl
 z3:=fun _=>by kernel_rfl
 v3:=fun _=>by kernel_rfl
 t4:=by kernel_rfl
 a4:=fun _=>by kernel_rfl
 z4:=fun _=>by kernel_rfl
 v4:=fun _=>by kernel_rfl
 t5:=by kernel_rfl
 a5:=fun _=>by kernel_rfl
 z5:=fun _=>by kernel_rfl
 v5:=fun _=>by kernel_rfl
 t9:=by kernel_rfl
 a9:=fun _=>by kernel_rfl
 z9:=fun _=>by kernel_rfl
 v9:=fun _=>by kernel_rfl
 t28:=by kernel_rfl
 a28:=fun _=>by kernel_rfl
 z28:=fun _=>by kernel_rfl
 v28:=fun _=>by kernel_rfl
 t46:=by kernel_rfl
 a46:=fun _=>by kernel_rfl
 z46:=fun _=>by kernel_rfl
 v46:=fun _=>by kernel_rfl
 t51:=by kernel_rfl
 a51:=fun _=>by kernel_rfl
 z51:=fun _=>by kernel_rfl
 v51:=fun _=>by kernel_rfl
 t53:=by kernel_rfl
 a53:=fun _=>by kernel_rfl
 z53:=fun _=>by kernel_rfl
 v53:=fun _=>by kernel_rfl
 t131:=by kernel_rfl
 a131:=fun _=>by kernel_rfl
 z131:=fun _=>by kernel_rfl
 v131:=fun _=>by kernel_rfl
 t182:=by kernel_rfl
 a182:=fun _=>by kernel_rfl
 z182:=fun _=>by kernel_rfl
 v182:=fun _=>by kernel_rfl
 t183:=by kernel_rfl
 a183:=fun _=>by kernel_rfl
 z183:=fun _=>by kernel_rfl
 v183:=fun _=>by kernel_rfl
 t218:=by kernel_rfl
 a218:=fun _=>by kernel_rfl
 z218:=fun _=>by kernel_rfl
 v218:=fun _=>by kernel_rfl
 t222:=by kernel_rfl
 a222:=fun _=>by kernel_rfl
 z222:=fun _=>by kernel_rfl
 v222:=fun _=>by kernel_rfl
 t228:=by kernel_rfl
 a228:=fun _=>by kernel_rfl
 z228:=fun _=>by kernel_rfl
 v228:=fun _=>by kernel_rfl
 t229:=by kernel_rfl
 a229:=fun _=>by kernel_rfl
 z229:=fun _=>by kernel_rfl
 v229:=fun _=>by kernel_rfl}
def wY:Ren:=⟨
 fun n=>if n=20 then 271 else 0,
 fun n=>if n=0 then 0 else if n=3 then 3 else if n=4 then 4 else if n=22 then 48 else 0,
 fun _=>0⟩

set_option maxRecDepth 100000 in
theorem MS:Lays2.n20 Tryz.prog wY:={
 mixed:=by kernel_rfl
 f20:=by kernel_rfl
 t0:=by kernel_rfl
 a0:=fun _=>by kernel_rfl
 z0:=fun _=>by kernel_rfl
 v0:=fun _=>by kernel_rfl
 t3:=by kernel_rfl
 a3:=fun _=>by kernel_rfl
 z3:=fun _=>by kernel_rfl
 v3:=fun _=>by kernel_rfl
 t4:=by kernel_rfl
 a4:=fun _=>by kernel_rfl
 z4:=fun _=>by kernel_rfl
 v4:=fun _=>by kernel_rfl
 t22:=by kernel_rfl
 a22:=fun _=>by kernel_rfl
 z22:=fun _=>by kernel_rfl
 v22:=fun _=>by kernel_rfl
 i3:=by kernel_rfl}
def vL:Ren:=⟨
 fun n=>if n=129 then 219 else if n=176 then 323 else if n=249 then 340 else if n=283 then 173 else if n=284 then 174 else if n=285 then 175 else if n=286 then 176 else if n=288 then 346 else if n=317 then 218 else if n=318 then 220 else if n=319 then 221 else if n=320 then 222 else if n=337 then 265 else if n=338 then 266 else 0,
 fun n=>if n=0 then 0 else if n=2 then 2 else if n=3 then 3 else if n=4 then 4 else if n=5 then 5 else if n=9 then 9 else if n=20 then 20 else if n=37 then 66 else if n=46 then 259 else if n=51 then 266 else if n=53 then 209 else if n=171 then 208 else if n=173 then 212 else if n=212 then 265 else if n=213 then 267 else if n=232 then 330 else if n=233 then 331 else 0,
 fun n=>if n=17 then 3 else if n=18 then 4 else if n=19 then 5 else 0⟩

set_option maxRecDepth 100000 in
theorem ye:Lays.n176 Tryz.prog vL:={
 mixed:=by kernel_rfl
 f129:=by kernel_rfl
 f176:=by kernel_rfl
 f249:=by kernel_rfl
 f283:=by kernel_rfl
 f284:=by kernel_rfl
 f285:=by kernel_rfl
 f286:=by kernel_rfl
 f288:=by kernel_rfl
 f317:=by kernel_rfl
 f318:=by kernel_rfl
 f319:=by kernel_rfl
 f320:=by kernel_rfl
 f337:=by kernel_rfl
 f338:=by kernel_rfl
 t0:=by kernel_rfl
 a0:=fun _=>by kernel_rfl
 z0:=fun _=>by kernel_rfl
 v0:=fun _=>by kernel_rfl
 t2:=by kernel_rfl
 a2:=fun _=>by kernel_rfl
 z2:=fun _=>by kernel_rfl
 v2:=fun _=>by kernel_rfl
 t3:=by kernel_rfl
 a3:=fun _=>by kernel_rfl
 z3:=fun _=>by kernel_rfl
 v3:=fun _=>by kernel_rfl
 t4:=by kernel_rfl
 a4:=fun _=>by kernel_rfl
 z4:=fun _=>by kernel_rfl
 v4:=fun _=>by kernel_rfl
 t5:=by kernel_rfl
 a5:=fun _=>by kernel_rfl
 z5:=fun _=>by kernel_rfl
 v5:=fun _=>by kernel_rfl
 t9:=by kernel_rfl
 a9:=fun _=>by kernel_rfl
 z9:=fun _=>by kernel_rfl
 v9:=fun _=>by kernel_rfl
 t20:=by kernel_rfl
 a20:=fun _=>by kernel_rfl
 z20:=fun _=>by kernel_rfl
 v20:=fun _=>by kernel_rfl
 t37:=by kernel_rfl
 a37:=fun _=>by kernel_rfl
 z37:=fun _=>by kernel_rfl
 v37:=fun _=>by kernel_rfl
 t46:=by kernel_rfl
 a46:=fun _=>by kernel_rfl
 z46:=fun _=>by kernel_rfl
 v46:=fun _=>by kernel_rfl
 t51:=by kernel_rfl
 a51:=fun _=>by kernel_rfl
 z51:=fun _=>by kernel_rfl
 v51:=fun _=>by kernel_rfl
 t53:=by kernel_rfl
 a53:=fun _=>by kernel_rfl
 z53:=fun _=>by kernel_rfl
 v53:=fun _=>by kernel_rfl
 t171:=by kernel_rfl
 a171:=fun _=>by kernel_rfl
 z171:=fun _=>by kernel_rfl
 v171:=fun _=>by kernel_rfl
 t173:=by kernel_rfl
 a173:=fun _=>by kernel_rfl
 z173:=fun _=>by kernel_rfl
 v173:=fun _=>by kernel_rfl
 t212:=by kernel_rfl
 a212:=fun _=>by kernel_rfl
 z212:=fun _=>by kernel_rfl
 v212:=fun _=>by kernel_rfl
 t213:=by kernel_rfl
 a213:=fun _=>by kernel_rfl
 z213:=fun _=>by kernel_rfl
 t232:=by kernel_rfl
 a232:=fun _=>by kernel_rfl
 z232:=fun _=>by kernel_rfl
 v232:=fun _=>by kernel_rfl
 t233:=by kernel_rfl
 a233:=fun _=>by kernel_rfl
 z233:=fun _=>by kernel_rfl
 v233:=fun _=>by kernel_rfl
 g17:=by kernel_rfl
 g18:=by kernel_rfl
 g19:=by kernel_rfl}
set_option maxRecDepth 100000 in
theorem MR:LaysM.n176 Tryz.prog vL:={
 ton176:=ye
 i0:=by kernel_rfl
 i2:=by kernel_rfl
 i3:=by kernel_rfl
 i4:=by kernel_rfl
 i5:=by kernel_rfl
 i9:=by kernel_rfl
 i20:=by kernel_rfl
 i37:=by kernel_rfl
 i46:=by kernel_rfl
 i51:=by kernel_rfl
 i53:=by kernel_rfl
 i171:=by kernel_rfl
 i173:=by kernel_rfl
 i212:=by kernel_rfl
 i232:=by kernel_rfl
 i233:=by kernel_rfl
 m17:=by kernel_rfl
 m18:=by kernel_rfl
 m19:=by kernel_rfl}
end
section
open Go

def XS(l:List Int):Prop:=l.Pairwise (· < ·)
def LR(x:Int):List Int→List Int
 |[]=>[x]
 |y::l=>if y<x then y::LR x l else if y=x then y::l else x::y::l
def JN(l:List Int):List Int:=l.foldl (fun out x=>LR x out) []
theorem Bi: ∀{a b:List Int},XS a→XS b→(∀x,x∈a↔x∈b)→a=b:=by
 intro a
 induction a with
 |nil=>
  intro b _ _ h
  cases b with
  |nil=>rfl
  |cons y b=>exact absurd ((h y).2 (List.mem_cons_self ..)) Qx
 |cons x a ih=>
  intro b ha hb h
  cases b with
  |nil=>exact absurd ((h x).1 (List.mem_cons_self ..)) Qx
  |cons y b=>
   obtain⟨ha1,ha2⟩:=List.pairwise_cons.1 ha;obtain⟨hb1,hb2⟩:=List.pairwise_cons.1 hb
   have hxy:x=y:=by
    rcases List.mem_cons.1 ((h x).1 (List.mem_cons_self ..))with e|e
    ·exact e
    ·rcases List.mem_cons.1 ((h y).2 (List.mem_cons_self ..))with e'|e'
     ·exact e'.symm
     ·have:=hb1 _ e;have:=ha1 _ e';omega
   subst hxy
   congr 1
   refine ih ha2 hb2 fun z=>⟨fun hz=>?_,fun hz=>?_⟩
   ·rcases List.mem_cons.1 ((h z).1 (List.mem_cons_of_mem _ hz))with e|e
    ·have:=ha1 _ hz;omega
    ·exact e
   ·rcases List.mem_cons.1 ((h z).2 (List.mem_cons_of_mem _ hz))with e|e
    ·have:=hb1 _ hz;omega
    ·exact e
theorem Bx(x z:Int)(l:List Int):z∈LR x l↔z=x∨z∈l:=by
 induction l with
 |nil=>simp[LR]
 |cons y l ih=>
  rw[LR]
  split
  ·rw[List.mem_cons,ih,List.mem_cons];constructor
   ·rintro(h|h|h)
    ·exact .inr (.inl h)
    ·exact .inl h
    ·exact .inr (.inr h)
   ·rintro(h|h|h)
    ·exact .inr (.inl h)
    ·exact .inl h
    ·exact .inr (.inr h)
  ·split
   ·rename_i h;subst h;simp
   ·simp
theorem RT(x:Int){l:List Int}(h:XS l):XS (LR x l):=by
 induction l with
 |nil=>exact List.pairwise_singleton _ _
 |cons y l ih=>
  obtain⟨h1,h2⟩:=List.pairwise_cons.1 h;rw[LR]
  split
  ·rename_i hlt;refine List.pairwise_cons.2 ⟨fun z hz=>?_,ih h2⟩;rcases(Bx x z l).1 hz with e|e
   ·omega
   ·exact h1 z e
  ·split
   ·exact h
   ·rename_i hlt hne;refine List.pairwise_cons.2 ⟨fun z hz=>?_,h⟩;rcases List.mem_cons.1 hz with e|e
    ·omega
    ·have:=h1 z e;omega
theorem AN(l:List Int): ∀acc,XS acc→XS (l.foldl (fun out x=>LR x out) acc)∧ ∀z,z∈l.foldl (fun out x=>LR x out) acc↔z∈acc∨z∈l:=by
 induction l with
 |nil=>intro acc h;exact⟨h,by simp⟩
 |cons x l ih=>
  intro acc h;obtain⟨h1,h2⟩:=ih (LR x acc) (RT x h);refine⟨h1,fun z=>?_⟩;rw[List.foldl_cons,h2,Bx,List.mem_cons];constructor
  ·rintro((h|h)|h)
   ·exact .inr (.inl h)
   ·exact .inl h
   ·exact .inr (.inr h)
  ·rintro(h|h|h)
   ·exact .inl (.inr h)
   ·exact .inl (.inl h)
   ·exact .inr h
theorem Xe(l:List Int):XS (JN l):=(AN l [] List.Pairwise.nil).1
theorem XL(l:List Int)(z:Int):z∈JN l↔z∈l:=by
 have:=(AN l [] List.Pairwise.nil).2 z;unfold JN
 simpa using this
theorem OR{zs:List Int}{x:Int}:x∈Lib.compact zs↔x∈zs:=by
 unfold Lib.compact Lib.compactUpTo;constructor
 ·intro h;obtain⟨i,hi,rfl⟩:=List.mem_map.1 h;have hi':i<zs.length:=List.mem_range.1 (List.mem_filter.1 hi).1;simp[getElem!_pos,hi']
 ·intro h;obtain⟨i,hi,rfl⟩:=List.getElem_of_mem h;rw[List.mem_map]
  have: ∀j (hj:j<zs.length),zs[j]=zs[i]→ ∃a,a∈(List.range zs.length).filter (Lib.keeps zs.toArray)∧(zs.toArray)[a]! =zs[i]:=by
   intro j
   induction j with
   |zero=>intro hj e;exact⟨0,List.mem_filter.2 ⟨List.mem_range.2 hj,by simp[Lib.keeps]⟩,by simp[getElem!_pos,hj,e]⟩
   |succ j ih=>
    intro hj e
    by_cases h2:zs[j]=zs[j+1]
    ·exact ih Qe (h2.trans e)
    ·refine⟨j+1,List.mem_filter.2 ⟨List.mem_range.2 hj,?_⟩,by simp[getElem!_pos,hj,e]⟩;apply Lib.keeps_pos
     have:j<zs.length:=by omega
     simp[getElem!_pos,hj,this];exact fun e=>h2 e.symm
  exact this i hi rfl
theorem Ns{zs:List Int}(h:zs.Pairwise (· ≤ ·)):XS (Lib.compact zs):=by
 unfold XS Lib.compact Lib.compactUpTo;rw[List.pairwise_map];refine List.Pairwise.imp_of_mem ?_ (List.Pairwise.filter _ List.pairwise_lt_range);intro i j hi hj hij;have hj1:=List.mem_filter.1 hj;have hjl:j<zs.length:=List.mem_range.1 hj1.1;have hk:=hj1.2
 have hil:i<zs.length:=by omega
 have hj1l:j-1<zs.length:=by omega
 simp only[Lib.keeps,decide_eq_true_eq]at hk;rcases hk with hk|hk
 ·omega
 ·have e1:zs.toArray[j]! =zs[j]:=by simp[getElem!_pos,hjl]
  have e2:zs.toArray[j-1]! =zs[j-1]:=by simp[getElem!_pos,hj1l]
  have e3:zs.toArray[i]! =zs[i]:=by simp[getElem!_pos,hil]
  rw[e1,e2]at hk;rw[e3,e1];have hle:zs[j-1]≤zs[j]:=List.pairwise_iff_getElem.1 h _ _ _ _ Qe
  by_cases hij':i=j-1
  ·subst hij';omega
  ·have:zs[i]≤zs[j-1]:=List.pairwise_iff_getElem.1 h _ _ _ _ Qe;omega
def Uu(zs:List Int):List Int:=zs.mergeSort fun x y=>decide (x≤y)
theorem LH(zs:List Int):(Uu zs).Pairwise (· ≤ ·):=by
 have:=List.pairwise_mergeSort (le:=fun x y:Int=>decide (x≤y)) (fun a b c h1 h2=>by simp at *;omega) (fun a b=>by simp;omega) zs
 exact this.imp fun h=>by simpa using h
theorem Ix(zs:List Int):Lib.compact (Uu zs)=JN zs:=
 Bi (Ns (LH zs)) (Xe zs) fun x=>by rw[OR,XL];exact List.mem_mergeSort

def NH(n:Int):List Nat:=(Lib.itoa n).map UInt8.toNat
def Yq:List Int→List Nat
 |[]=>[]
 |n::l=>NH n++44::Yq l
def jQ(l:List UInt8):Nat:=l.foldl (fun a c=>10 *a+(c.toNat-48)) 0
theorem Wf(u:Nat)(h:u<10):(UInt8.ofNat (48+u)).toNat=48+u:=by
 rw[UInt8.toNat_ofNat'];omega
theorem GG(u:Nat):jQ (Lib.decDigits u)=u:=by
 induction u using Nat.strongRecOn with
 |_ u ih=>
  rw[Lib.decDigits]
  by_cases h:u<10
  ·rw[dif_pos h];unfold jQ;rw[List.foldl_cons,List.foldl_nil,Wf u h];omega
  ·rw[dif_neg h];unfold jQ;rw[List.foldl_append,List.foldl_cons,List.foldl_nil,Wf _ (Nat.mod_lt _ Q8)];have:=ih (u/10) Qe;unfold jQ at this;rw[this];omega
theorem E4(u:Nat): ∀c∈Lib.decDigits u,48≤c.toNat∧c.toNat≤57:=by
 induction u using Nat.strongRecOn with
 |_ u ih=>
  intro c hc;rw[Lib.decDigits]at hc
  by_cases h:u<10
  ·rw[dif_pos h]at hc;rw[List.mem_singleton.1 hc,Wf u h];omega
  ·rw[dif_neg h]at hc;rcases List.mem_append.1 hc with hc|hc
   ·exact ih (u/10) Qe c hc
   ·have:=Nat.mod_lt u (show 0<10 by decide);rw[List.mem_singleton.1 hc,Wf _ this];omega
theorem Rr{a b:Nat}(h:Lib.decDigits a=Lib.decDigits b):a=b:=by rw[←GG a,h,GG]
theorem qd{a b:Int}(h:Lib.itoa a=Lib.itoa b):a=b:=by
 unfold Lib.itoa at h
 split at h<;>split at h
 ·injection h with _ h
  have:=Rr h;omega
 ·have:(45:UInt8)∈Lib.decDigits b.toNat:=by rw[←h];exact List.mem_cons_self ..
  exact absurd (E4 _ _ this).1 Q8
 ·have:(45:UInt8)∈Lib.decDigits a.toNat:=by rw[h];exact List.mem_cons_self ..
  exact absurd (E4 _ _ this).1 Q8
 ·have:=Rr h;omega
theorem EG: ∀{a b:List UInt8},a.map UInt8.toNat=b.map UInt8.toNat→a=b
 |[],[],_=>rfl
 |[],_::_,h=>by cases h
 |_::_,[],h=>by cases h
 |x::a,y::b,h=>by
  injection h with h1 h2
  rw[UInt8.toNat_inj.1 h1,EG h2]
theorem S9{a b:Int}(h:NH a=NH b):a=b:=qd (EG h)
theorem BO(n:Int):44∉NH n:=by
 intro h;obtain⟨c,hc,e⟩:=List.mem_map.1 h;unfold Lib.itoa at hc
 split at hc
 ·rcases List.mem_cons.1 hc with rfl|hc
  ·exact absurd e Q8
  ·have:=E4 _ _ hc;omega
 ·have:=E4 _ _ hc;omega
theorem TJ{a b:List Nat}{r s:List Nat}(ha:44∉a)(hb:44∉b)(h:a++44::r=b++44::s):a=b∧r=s:=by
 induction a generalizing b with
 |nil=>
  cases b with
  |nil=>injection h with _ h;exact⟨rfl,h⟩
  |cons y b=>injection h with h1 _;exact absurd (h1▸List.mem_cons_self ..) hb
 |cons x a ih=>
  cases b with
  |nil=>injection h with h1 _;exact absurd (h1▸List.mem_cons_self ..) ha
  |cons y b=>
   injection h with h1 h2
   obtain⟨e1,e2⟩:=ih (fun h=>ha (List.mem_cons_of_mem _ h)) (fun h=>hb (List.mem_cons_of_mem _ h)) h2;exact⟨by rw[h1,e1],e2⟩
theorem BJ: ∀{a b:List Int},Yq a=Yq b→a=b
 |[],[],_=>rfl
 |[],m::b,h=>by rw[Yq,Yq]at h;have:=congrArg List.length h;simp at this
 |n::a,[],h=>by rw[Yq,Yq]at h;have:=congrArg List.length h;simp at this
 |n::a,m::b,h=>by
  rw[Yq,Yq]at h;obtain⟨h1,h2⟩:=TJ (BO n) (BO m) h;rw[S9 h1,BJ h2]
theorem BP(n:Int): ∀x∈NH n,x<256:=by
 intro x h;obtain⟨c,_,rfl⟩:=List.mem_map.1 h;exact c.toNat_lt
theorem KC: ∀l:List Int,∀x∈Yq l,x<256
 |[],x,h=>by cases h
 |n::l,x,h=>by
  rw[Yq]at h;rcases List.mem_append.1 h with h|h
  ·exact BP n x h
  ·rcases List.mem_cons.1 h with rfl|h
   ·decide
   ·exact KC l x h

end
end Go.Proofs.YtildagdnomiahaaGreatDoor
