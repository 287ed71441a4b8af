/-
  slices.Sort, slices.Compact at numbers and strconv.AppendInt, by the library's contracts: the numbers of this program put in.
-/
import Derived.Test.YtildagdnomiahaaGreatDoorProg
import Derived.Shelf.Sort.Plain
import Derived.Shelf.Slices.CompactI
import Derived.Shelf.Slices.In.SortNone
import Derived.Shelf.Strconv.AppendIntPublic10
import Derived.Lib.SlicesCompact
import Derived.Lib.ItoaNum
import Derived.Test.YtildagdnomiahaaGreatDoorQvSy2
set_option linter.unusedVariables false
namespace Go.Proofs.YtildagdnomiahaaGreatDoor
section
open Go Go.RowKit Go.Shelf

def lu:Ren:=⟨
 fun n=>if n=125 then 292 else if n=128 then 319 else if n=129 then 219 else if n=189 then 261 else if n=215 then 334 else if n=216 then 316 else if n=257 then 291 else if n=294 then 310 else if n=295 then 311 else if n=296 then 312 else if n=297 then 313 else if n=298 then 314 else if n=299 then 315 else if n=300 then 317 else if n=301 then 318 else if n=328 then 329 else if n=329 then 330 else if n=330 then 331 else if n=331 then 332 else if n=332 then 333 else if n=343 then 343 else 0,
 fun n=>if n=0 then 0 else if n=3 then 3 else if n=4 then 4 else if n=5 then 5 else if n=9 then 9 else if n=28 then 48 else if n=46 then 259 else if n=51 then 266 else if n=53 then 209 else if n=131 then 247 else if n=182 then 341 else if n=183 then 342 else if n=218 then 358 else if n=222 then 362 else if n=228 then 369 else if n=229 then 137 else 0,
 fun _=>0⟩

set_option maxRecDepth 100000 in
theorem SI:Lays.n189 Tryz.prog lu:={
 mixed:=by kernel_rfl
 f125:=by kernel_rfl
 f128:=by kernel_rfl
 f129:=by kernel_rfl
 f189:=by kernel_rfl
 f215:=by kernel_rfl
 f216:=by kernel_rfl
 f257:=by kernel_rfl
 f294:=by kernel_rfl
 f295:=by kernel_rfl
 f296:=by kernel_rfl
 f297:=by kernel_rfl
 f298:=by kernel_rfl
 f299:=by kernel_rfl
 f300:=by kernel_rfl
 f301:=by kernel_rfl
 f328:=by kernel_rfl
 f329:=by kernel_rfl
 f330:=by kernel_rfl
 f331:=by kernel_rfl
 f332:=by kernel_rfl
 f343:=by kernel_rfl
 t0:=by kernel_rfl
 a0:=fun _=>by kernel_rfl
 z0:=fun _=>by kernel_rfl
 v0:=fun _=>by kernel_rfl
 t3:=by kernel_rfl
 a3:=fun _=>by kernel_rfl
 z3:=fun _=>by kernel_rfl
 v3:=fun _=>by kernel_rfl
 t4:=by kernel_rfl
 a4:=fun _=>by kernel_rfl
 z4:=fun _=>by kernel_rfl
 v4:=fun _=>by kernel_rfl
 t5:=by kernel_rfl
 a5:=fun _=>by kernel_rfl
 z5:=fun _=>by kernel_rfl
 v5:=fun _=>by kernel_rfl
 t9:=by kernel_rfl
 a9:=fun _=>by kernel_rfl
 z9:=fun _=>by kernel_rfl
 v9:=fun _=>by kernel_rfl
 t28:=by kernel_rfl
 a28:=fun _=>by kernel_rfl
 z28:=fun _=>by kernel_rfl
 v28:=fun _=>by kernel_rfl
 t46:=by kernel_rfl
 a46:=fun _=>by kernel_rfl
 z46:=fun _=>by kernel_rfl
 v46:=fun _=>by kernel_rfl
 t51:=by kernel_rfl
 a51:=fun _=>by kernel_rfl
 z51:=fun _=>by kernel_rfl
 v51:=fun _=>by kernel_rfl
 t53:=by kernel_rfl
 a53:=fun _=>by kernel_rfl
 z53:=fun _=>by kernel_rfl
 v53:=fun _=>by kernel_rfl
 t131:=by kernel_rfl
 a131:=fun _=>by kernel_rfl
 z131:=fun _=>by kernel_rfl
 v131:=fun _=>by kernel_rfl
 t182:=by kernel_rfl
 a182:=fun _=>by kernel_rfl
 z182:=fun _=>by kernel_rfl
 v182:=fun _=>by kernel_rfl
 t183:=by kernel_rfl
 a183:=fun _=>by kernel_rfl
 z183:=fun _=>by kernel_rfl
 v183:=fun _=>by kernel_rfl
 t218:=by kernel_rfl
 a218:=fun _=>by kernel_rfl
 z218:=fun _=>by kernel_rfl
 v218:=fun _=>by kernel_rfl
 t222:=by kernel_rfl
 a222:=fun _=>by kernel_rfl
 z222:=fun _=>by kernel_rfl
 v222:=fun _=>by kernel_rfl
 t228:=by kernel_rfl
 a228:=fun _=>by kernel_rfl
 z228:=fun _=>by kernel_rfl
 v228:=fun _=>by kernel_rfl
 t229:=by kernel_rfl
 a229:=fun _=>by kernel_rfl
 z229:=fun _=>by kernel_rfl
 v229:=fun _=>by kernel_rfl}
def lx:Ren:=⟨
 fun n=>if n=20 then 271 else 0,
 fun n=>if n=0 then 0 else if n=3 then 3 else if n=4 then 4 else if n=22 then 48 else 0,
 fun _=>0⟩

set_option maxRecDepth 100000 in
theorem uy:Lays2.n20 Tryz.prog lx:={
 mixed:=by kernel_rfl
 f20:=by kernel_rfl
 t0:=by kernel_rfl
 a0:=fun _=>by kernel_rfl
 z0:=fun _=>by kernel_rfl
 v0:=fun _=>by kernel_rfl
 t3:=by kernel_rfl
 a3:=fun _=>by kernel_rfl
 z3:=fun _=>by kernel_rfl
 v3:=fun _=>by kernel_rfl
 t4:=by kernel_rfl
 a4:=fun _=>by kernel_rfl
 z4:=fun _=>by kernel_rfl
 v4:=fun _=>by kernel_rfl
 t22:=by kernel_rfl
 a22:=fun _=>by kernel_rfl
 z22:=fun _=>by kernel_rfl
 v22:=fun _=>by kernel_rfl
 i3:=by kernel_rfl}
def ir:Ren:=⟨
 fun n=>if n=129 then 219 else if n=176 then 323 else if n=249 then 340 else if n=283 then 173 else if n=284 then 174 else if n=285 then 175 else if n=286 then 176 else if n=288 then 346 else if n=317 then 218 else if n=318 then 220 else if n=319 then 221 else if n=320 then 222 else if n=337 then 265 else if n=338 then 266 else 0,
 fun n=>if n=0 then 0 else if n=2 then 2 else if n=3 then 3 else if n=4 then 4 else if n=5 then 5 else if n=9 then 9 else if n=20 then 20 else if n=37 then 66 else if n=46 then 259 else if n=51 then 266 else if n=53 then 209 else if n=171 then 208 else if n=173 then 212 else if n=212 then 265 else if n=213 then 267 else if n=232 then 330 else if n=233 then 331 else 0,
 fun n=>if n=17 then 3 else if n=18 then 4 else if n=19 then 5 else 0⟩

set_option maxRecDepth 100000 in
theorem vi:Lays.n176 Tryz.prog ir:={
 mixed:=by kernel_rfl
 f129:=by kernel_rfl
 f176:=by kernel_rfl
 f249:=by kernel_rfl
 f283:=by kernel_rfl
 f284:=by kernel_rfl
 f285:=by kernel_rfl
 f286:=by kernel_rfl
 f288:=by kernel_rfl
 f317:=by kernel_rfl
 f318:=by kernel_rfl
 f319:=by kernel_rfl
 f320:=by kernel_rfl
 f337:=by kernel_rfl
 f338:=by kernel_rfl
 t0:=by kernel_rfl
 a0:=fun _=>by kernel_rfl
 z0:=fun _=>by kernel_rfl
 v0:=fun _=>by kernel_rfl
 t2:=by kernel_rfl
 a2:=fun _=>by kernel_rfl
 z2:=fun _=>by kernel_rfl
 v2:=fun _=>by kernel_rfl
 t3:=by kernel_rfl
 a3:=fun _=>by kernel_rfl
 z3:=fun _=>by kernel_rfl
 v3:=fun _=>by kernel_rfl
 t4:=by kernel_rfl
 a4:=fun _=>by kernel_rfl
 z4:=fun _=>by kernel_rfl
 v4:=fun _=>by kernel_rfl
 t5:=by kernel_rfl
 a5:=fun _=>by kernel_rfl
 z5:=fun _=>by kernel_rfl
 v5:=fun _=>by kernel_rfl
 t9:=by kernel_rfl
 a9:=fun _=>by kernel_rfl
 z9:=fun _=>by kernel_rfl
 v9:=fun _=>by kernel_rfl
 t20:=by kernel_rfl
 a20:=fun _=>by kernel_rfl
 z20:=fun _=>by kernel_rfl
 v20:=fun _=>by kernel_rfl
 t37:=by kernel_rfl
 a37:=fun _=>by kernel_rfl
 z37:=fun _=>by kernel_rfl
 v37:=fun _=>by kernel_rfl
 t46:=by kernel_rfl
 a46:=fun _=>by kernel_rfl
 z46:=fun _=>by kernel_rfl
 v46:=fun _=>by kernel_rfl
 t51:=by kernel_rfl
 a51:=fun _=>by kernel_rfl
 z51:=fun _=>by kernel_rfl
 v51:=fun _=>by kernel_rfl
 t53:=by kernel_rfl
 a53:=fun _=>by kernel_rfl
 z53:=fun _=>by kernel_rfl
 v53:=fun _=>by kernel_rfl
 t171:=by kernel_rfl
 a171:=fun _=>by kernel_rfl
 z171:=fun _=>by kernel_rfl
 v171:=fun _=>by kernel_rfl
 t173:=by kernel_rfl
 a173:=fun _=>by kernel_rfl
 z173:=fun _=>by kernel_rfl
 v173:=fun _=>by kernel_rfl
 t212:=by kernel_rfl
 a212:=fun _=>by kernel_rfl
 z212:=fun _=>by kernel_rfl
 v212:=fun _=>by kernel_rfl
 t213:=by kernel_rfl
 a213:=fun _=>by kernel_rfl
 z213:=fun _=>by kernel_rfl
 t232:=by kernel_rfl
 a232:=fun _=>by kernel_rfl
 z232:=fun _=>by kernel_rfl
 v232:=fun _=>by kernel_rfl
 t233:=by kernel_rfl
 a233:=fun _=>by kernel_rfl
 z233:=fun _=>by kernel_rfl
 v233:=fun _=>by kernel_rfl
 g17:=by kernel_rfl
 g18:=by kernel_rfl
 g19:=by kernel_rfl}
set_option maxRecDepth 100000 in
theorem ux:LaysM.n176 Tryz.prog ir:={
 ton176:=vi
 i0:=by kernel_rfl
 i2:=by kernel_rfl
 i3:=by kernel_rfl
 i4:=by kernel_rfl
 i5:=by kernel_rfl
 i9:=by kernel_rfl
 i20:=by kernel_rfl
 i37:=by kernel_rfl
 i46:=by kernel_rfl
 i51:=by kernel_rfl
 i53:=by kernel_rfl
 i171:=by kernel_rfl
 i173:=by kernel_rfl
 i212:=by kernel_rfl
 i232:=by kernel_rfl
 i233:=by kernel_rfl
 m17:=by kernel_rfl
 m18:=by kernel_rfl
 m19:=by kernel_rfl}
end
section
open Go

def V6(l:List Int):Prop:=l.Pairwise (· < ·)
def Od(x:Int):List Int→List Int
 |[]=>[x]
 |y::l=>if y<x then y::Od x l else if y=x then y::l else x::y::l
def JS(l:List Int):List Int:=l.foldl (fun out x=>Od x out) []
theorem CR: ∀{a b:List Int},V6 a→V6 b→(∀x,x∈a↔x∈b)→a=b:=by
 intro a
 induction a with
 |nil=>
  intro b _ _ h
  cases b with
  |nil=>rfl
  |cons y b=>exact absurd ((h y).2 (List.mem_cons_self ..)) Qx
 |cons x a ih=>
  intro b ha hb h
  cases b with
  |nil=>exact absurd ((h x).1 (List.mem_cons_self ..)) Qx
  |cons y b=>
   obtain⟨ha1,ha2⟩:=List.pairwise_cons.1 ha;obtain⟨hb1,hb2⟩:=List.pairwise_cons.1 hb
   have hxy:x=y:=by
    rcases List.mem_cons.1 ((h x).1 (List.mem_cons_self ..))with e|e
    ·exact e
    ·rcases List.mem_cons.1 ((h y).2 (List.mem_cons_self ..))with e'|e'
     ·exact e'.symm
     ·have:=hb1 _ e;have:=ha1 _ e';omega
   subst hxy
   congr 1
   refine ih ha2 hb2 fun z=>⟨fun hz=>?_,fun hz=>?_⟩
   ·rcases List.mem_cons.1 ((h z).1 (List.mem_cons_of_mem _ hz))with e|e
    ·have:=ha1 _ hz;omega
    ·exact e
   ·rcases List.mem_cons.1 ((h z).2 (List.mem_cons_of_mem _ hz))with e|e
    ·have:=hb1 _ hz;omega
    ·exact e
theorem Dd(x z:Int)(l:List Int):z∈Od x l↔z=x∨z∈l:=by
 induction l with
 |nil=>simp[Od]
 |cons y l ih=>
  rw[Od]
  split
  ·rw[List.mem_cons,ih,List.mem_cons];constructor
   ·rintro(h|h|h)
    ·exact .inr (.inl h)
    ·exact .inl h
    ·exact .inr (.inr h)
   ·rintro(h|h|h)
    ·exact .inr (.inl h)
    ·exact .inl h
    ·exact .inr (.inr h)
  ·split
   ·rename_i h;subst h;simp
   ·simp
theorem TS(x:Int){l:List Int}(h:V6 l):V6 (Od x l):=by
 induction l with
 |nil=>exact List.pairwise_singleton _ _
 |cons y l ih=>
  obtain⟨h1,h2⟩:=List.pairwise_cons.1 h;rw[Od]
  split
  ·rename_i hlt;refine List.pairwise_cons.2 ⟨fun z hz=>?_,ih h2⟩;rcases(Dd x z l).1 hz with e|e
   ·omega
   ·exact h1 z e
  ·split
   ·exact h
   ·rename_i hlt hne;refine List.pairwise_cons.2 ⟨fun z hz=>?_,h⟩;rcases List.mem_cons.1 hz with e|e
    ·omega
    ·have:=h1 z e;omega
theorem FU(l:List Int): ∀acc,V6 acc→V6 (l.foldl (fun out x=>Od x out) acc)∧ ∀z,z∈l.foldl (fun out x=>Od x out) acc↔z∈acc∨z∈l:=by
 induction l with
 |nil=>intro acc h;exact⟨h,by simp⟩
 |cons x l ih=>
  intro acc h;obtain⟨h1,h2⟩:=ih (Od x acc) (TS x h);refine⟨h1,fun z=>?_⟩;rw[List.foldl_cons,h2,Dd,List.mem_cons];constructor
  ·rintro((h|h)|h)
   ·exact .inr (.inl h)
   ·exact .inl h
   ·exact .inr (.inr h)
  ·rintro(h|h|h)
   ·exact .inl (.inr h)
   ·exact .inl (.inl h)
   ·exact .inr h
theorem X9(l:List Int):V6 (JS l):=(FU l [] List.Pairwise.nil).1
theorem Vx(l:List Int)(z:Int):z∈JS l↔z∈l:=by
 have:=(FU l [] List.Pairwise.nil).2 z;unfold JS
 simpa using this
theorem Bl{zs:List Int}{x:Int}:x∈Lib.compact zs↔x∈zs:=by
 unfold Lib.compact Lib.compactUpTo;constructor
 ·intro h;obtain⟨i,hi,rfl⟩:=List.mem_map.1 h;have hi':i<zs.length:=List.mem_range.1 (List.mem_filter.1 hi).1;simp[getElem!_pos,hi']
 ·intro h;obtain⟨i,hi,rfl⟩:=List.getElem_of_mem h;rw[List.mem_map]
  have: ∀j (hj:j<zs.length),zs[j]=zs[i]→ ∃a,a∈(List.range zs.length).filter (Lib.keeps zs.toArray)∧(zs.toArray)[a]! =zs[i]:=by
   intro j
   induction j with
   |zero=>intro hj e;exact⟨0,List.mem_filter.2 ⟨List.mem_range.2 hj,by simp[Lib.keeps]⟩,by simp[getElem!_pos,hj,e]⟩
   |succ j ih=>
    intro hj e
    by_cases h2:zs[j]=zs[j+1]
    ·exact ih Qd (h2.trans e)
    ·refine⟨j+1,List.mem_filter.2 ⟨List.mem_range.2 hj,?_⟩,by simp[getElem!_pos,hj,e]⟩;apply Lib.keeps_pos
     have:j<zs.length:=by omega
     simp[getElem!_pos,hj,this];exact fun e=>h2 e.symm
  exact this i hi rfl
theorem O4{zs:List Int}(h:zs.Pairwise (· ≤ ·)):V6 (Lib.compact zs):=by
 unfold V6 Lib.compact Lib.compactUpTo;rw[List.pairwise_map];refine List.Pairwise.imp_of_mem ?_ (List.Pairwise.filter _ List.pairwise_lt_range);intro i j hi hj hij;have hj1:=List.mem_filter.1 hj;have hjl:j<zs.length:=List.mem_range.1 hj1.1;have hk:=hj1.2
 have hil:i<zs.length:=by omega
 have hj1l:j-1<zs.length:=by omega
 simp only[Lib.keeps,decide_eq_true_eq]at hk;rcases hk with hk|hk
 ·omega
 ·have e1:zs.toArray[j]! =zs[j]:=by simp[getElem!_pos,hjl]
  have e2:zs.toArray[j-1]! =zs[j-1]:=by simp[getElem!_pos,hj1l]
  have e3:zs.toArray[i]! =zs[i]:=by simp[getElem!_pos,hil]
  rw[e1,e2]at hk;rw[e3,e1];have hle:zs[j-1]≤zs[j]:=List.pairwise_iff_getElem.1 h _ _ _ _ Qd
  by_cases hij':i=j-1
  ·subst hij';omega
  ·have:zs[i]≤zs[j-1]:=List.pairwise_iff_getElem.1 h _ _ _ _ Qd;omega
def U4(zs:List Int):List Int:=zs.mergeSort fun x y=>decide (x≤y)
theorem NS(zs:List Int):(U4 zs).Pairwise (· ≤ ·):=by
 have:=List.pairwise_mergeSort (le:=fun x y:Int=>decide (x≤y)) (fun a b c h1 h2=>by simp at *;omega) (fun a b=>by simp;omega) zs
 exact this.imp fun h=>by simpa using h
theorem Kz(zs:List Int):Lib.compact (U4 zs)=JS zs:=
 CR (O4 (NS zs)) (X9 zs) fun x=>by rw[Bl,Vx];exact List.mem_mergeSort

def Ga(n:Int):List Nat:=(Lib.itoa n).map UInt8.toNat
def Y7:List Int→List Nat
 |[]=>[]
 |n::l=>Ga n++44::Y7 l
def zQ(l:List UInt8):Nat:=l.foldl (fun a c=>10 *a+(c.toNat-48)) 0
theorem WQ(u:Nat)(h:u<10):(UInt8.ofNat (48+u)).toNat=48+u:=by
 rw[UInt8.toNat_ofNat'];omega
theorem Ct(u:Nat):zQ (Lib.decDigits u)=u:=by
 induction u using Nat.strongRecOn with
 |_ u ih=>
  rw[Lib.decDigits]
  by_cases h:u<10
  ·rw[dif_pos h];unfold zQ;rw[List.foldl_cons,List.foldl_nil,WQ u h];omega
  ·rw[dif_neg h];unfold zQ;rw[List.foldl_append,List.foldl_cons,List.foldl_nil,WQ _ (Nat.mod_lt _ Q9)];have:=ih (u/10) Qd;unfold zQ at this;rw[this];omega
theorem AA(u:Nat): ∀c∈Lib.decDigits u,48≤c.toNat∧c.toNat≤57:=by
 induction u using Nat.strongRecOn with
 |_ u ih=>
  intro c hc;rw[Lib.decDigits]at hc
  by_cases h:u<10
  ·rw[dif_pos h]at hc;rw[List.mem_singleton.1 hc,WQ u h];omega
  ·rw[dif_neg h]at hc;rcases List.mem_append.1 hc with hc|hc
   ·exact ih (u/10) Qd c hc
   ·have:=Nat.mod_lt u (show 0<10 by decide);rw[List.mem_singleton.1 hc,WQ _ this];omega
theorem Te{a b:Nat}(h:Lib.decDigits a=Lib.decDigits b):a=b:=by rw[←Ct a,h,Ct]
theorem uK{a b:Int}(h:Lib.itoa a=Lib.itoa b):a=b:=by
 unfold Lib.itoa at h
 split at h<;>split at h
 ·injection h with _ h
  have:=Te h;omega
 ·have:(45:UInt8)∈Lib.decDigits b.toNat:=by rw[←h];exact List.mem_cons_self ..
  exact absurd (AA _ _ this).1 Q9
 ·have:(45:UInt8)∈Lib.decDigits a.toNat:=by rw[h];exact List.mem_cons_self ..
  exact absurd (AA _ _ this).1 Q9
 ·have:=Te h;omega
theorem AL: ∀{a b:List UInt8},a.map UInt8.toNat=b.map UInt8.toNat→a=b
 |[],[],_=>rfl
 |[],_::_,h=>by cases h
 |_::_,[],h=>by cases h
 |x::a,y::b,h=>by
  injection h with h1 h2
  rw[UInt8.toNat_inj.1 h1,AL h2]
theorem M4{a b:Int}(h:Ga a=Ga b):a=b:=uK (AL h)
theorem D0(n:Int):44∉Ga n:=by
 intro h;obtain⟨c,hc,e⟩:=List.mem_map.1 h;unfold Lib.itoa at hc
 split at hc
 ·rcases List.mem_cons.1 hc with rfl|hc
  ·exact absurd e Q9
  ·have:=AA _ _ hc;omega
 ·have:=AA _ _ hc;omega
theorem ja{a b:List Nat}{r s:List Nat}(ha:44∉a)(hb:44∉b)(h:a++44::r=b++44::s):a=b∧r=s:=by
 induction a generalizing b with
 |nil=>
  cases b with
  |nil=>injection h with _ h;exact⟨rfl,h⟩
  |cons y b=>injection h with h1 _;exact absurd (h1▸List.mem_cons_self ..) hb
 |cons x a ih=>
  cases b with
  |nil=>injection h with h1 _;exact absurd (h1▸List.mem_cons_self ..) ha
  |cons y b=>
   injection h with h1 h2
   obtain⟨e1,e2⟩:=ih (fun h=>ha (List.mem_cons_of_mem _ h)) (fun h=>hb (List.mem_cons_of_mem _ h)) h2;exact⟨by rw[h1,e1],e2⟩
theorem Dv: ∀{a b:List Int},Y7 a=Y7 b→a=b
 |[],[],_=>rfl
 |[],m::b,h=>by rw[Y7,Y7]at h;have:=congrArg List.length h;simp at this
 |n::a,[],h=>by rw[Y7,Y7]at h;have:=congrArg List.length h;simp at this
 |n::a,m::b,h=>by
  rw[Y7,Y7]at h;obtain⟨h1,h2⟩:=ja (D0 n) (D0 m) h;rw[M4 h1,Dv h2]
theorem D1(n:Int): ∀x∈Ga n,x<256:=by
 intro x h;obtain⟨c,_,rfl⟩:=List.mem_map.1 h;exact c.toNat_lt
theorem LR: ∀l:List Int,∀x∈Y7 l,x<256
 |[],x,h=>by cases h
 |n::l,x,h=>by
  rw[Y7]at h;rcases List.mem_append.1 h with h|h
  ·exact D1 n x h
  ·rcases List.mem_cons.1 h with rfl|h
   ·decide
   ·exact LR l x h

end
section
open Go Go.RowKit Go.Shelf Go.Sort
variable {G:Env} {P:Program} {f:FuncId} {l:List AV} {st:St} {zs:List Int}

def ZP:List AV→Option (List Int)
 |[]=>some []
 |.int .i64 s::l=>(ZP l).map (s:: ·)
 |_::_=>none
def FG(z:Int):AV:=.int .i64 z
theorem qv(p:QY)(z:Int):Qe p (FG z)=Value.int .i64 z:=rfl
theorem Vc: ∀zs:List Int,ZP (zs.map FG)=some zs
 |[]=>rfl
 |z::zs=>by
  show(ZP (zs.map FG)).map (z:: ·)=_;rw[Vc zs];rfl
theorem Gb(h:ZP l=some zs):l=zs.map FG:=by
 induction l generalizing zs with
 |nil=>injection h with h;subst h;rfl
 |cons a l ih=>
  unfold ZP at h
  split at h
  ·rename_i h1;cases h1
  ·rename_i s l' h1
   injection h1 with h1 h2
   subst h1 h2
   cases hl:ZP l with
   |none=>rw[hl]at h;cases h
   |some zl=>
    rw[hl]at h
    injection h with h
    subst h;rw[List.map_cons,←ih hl];rfl
  ·cases h
theorem LU(h:ZP l=some zs):zs.length=l.length∧ ∀(p:QY) (j:Nat) (z:Int),zs[j]? =some z→ ∃a,l[j]? =some a∧Qe p a=Value.int .i64 z:=by
 rw[Gb h];exact⟨by simp,fun p j z hj=>⟨FG z,by rw[List.getElem?_map,hj];rfl,rfl⟩⟩
def BA(ms:List (Nat×Nat×Option (List AV))):List (Nat×Nat×Option (List AV)):=ms.map fun x=>(x.1,x.2.1,none)
def XZ(ms:List (Nat×Nat×Option (List AV)))(m e vs:Nat)(l:List AV):List (Nat×Nat×Option (List AV)):=(BA ms).set m (e,vs,some l)
theorem OT{ms:List (Nat×Nat×Option (List AV))}{m e vs:Nat}{cs0:Option (List AV)}(h:ms[m]? =some (e,vs,cs0)):Told ms (XZ ms m e vs l)∧(XZ ms m e vs l)[m]? =some (e,vs,some l)∧ ∀k e' vs' l',(XZ ms m e vs l)[k]? =some (e',vs',some l')→k=m∧e'=e∧l'=l:=by
 have hlt:=(List.getElem?_eq_some_iff.1 h).1
 have hself:(XZ ms m e vs l)[m]? =some (e,vs,some l):=by
  unfold XZ;rw[List.getElem?_set_self (by simp[BA,hlt])]
 have hoth: ∀k,k≠m→(XZ ms m e vs l)[k]? =(ms[k]?).map fun x=>(x.1,x.2.1,none):=fun k hk=>by
  unfold XZ;rw[List.getElem?_set_ne (fun e=>hk e.symm),BA,List.getElem?_map]
 refine⟨⟨by simp[XZ,BA],fun k e' vs' cs hk=>?_⟩,hself,fun k e' vs' l' hk=>?_⟩
 ·by_cases hkm:k=m
  ·subst hkm;rw[hself]at hk
   injection hk with hk;injection hk with h1 hk;injection hk with h2 hk
   subst h1 h2;exact⟨_,h⟩
  ·rw[hoth k hkm]at hk
   cases hmk:ms[k]? with
   |none=>rw[hmk]at hk;cases hk
   |some x=>
    rw[hmk]at hk;obtain⟨a,b,c⟩:=x
    injection hk with hk;injection hk with h1 hk;injection hk with h2 hk
    subst h1 h2;exact⟨_,rfl⟩
 ·by_cases hkm:k=m
  ·subst hkm;rw[hself]at hk
   injection hk with hk;injection hk with h1 hk;injection hk with h2 hk;injection hk with hk
   exact⟨rfl,h1.symm,hk.symm⟩
  ·rw[hoth k hkm]at hk
   cases hmk:ms[k]? with
   |none=>rw[hmk]at hk;cases hk
   |some x=>
    rw[hmk]at hk
    injection hk with hk;injection hk with h1 hk;injection hk with h2 hk
    cases hk
noncomputable def YT(F:List Int→List Int)(V:Nat→Nat→List Int→AV)(V0:AV→AV):List AV→St→Option (AV×St)
 |[.sl c m 0 len 1],st=>if len=0 then some (V0 (.sl c m 0 0 1),st)else match st.h.get c with
  |some (.row false ms)=>match ms[m]? with
   |some (e,vs,some l)=>if l.length=len∧0<len∧len≤1000000 then match ZP l with
     |some zs=>some (V c m zs,⟨st.n,st.h.set c (.row false (XZ ms m e vs ((F zs).map FG)))⟩)
     |none=>none
    else none
   |_=>none
  |_=>none
 |[.nils],st=>some (V0 .nils,st)
 |_,_=>none
theorem Lf{F:List Int→List Int}{V:Nat→Nat→List Int→AV}{V0:AV→AV}{R:Option Addr→Nat→List Int→Value}{R0:Value→Value}(hr:Real P f)(hF: ∀zs,(F zs).length=zs.length)
  (hV: ∀(p:QY) (h:Hp) c m zs q C e,zs≠[]→p c m=some q→h c=some C→(exts C)[m]? =some e→zs.length≤e→Qe p (V c m zs)=R (some ⟨q.b,q.d,none⟩) q.e zs∧WF h (V c m zs)) (hV0: ∀(p:QY) (h:Hp) (ks:AV),WF h ks→Qe p (V0 ks)=R0 (Qe p ks)∧WF h (V0 ks))
  (hC: ∀(b o cap:Nat) (zs:List Int) (w:World),Holds (Value.int .i64) w b o zs.toArray→b<w.heap.size→zs.length≤1000000→zs.length≤cap→zs≠[]→Calls P f #[.slice (some ⟨b,o,none⟩) zs.length cap] w fun e w'=>e=.returned (R (some ⟨b,o,none⟩) cap zs)∧ ∃n os,w'=grow (putRow (Value.int .i64) (Sort.ahead w n) b o (F zs).toArray) os)
  (hC0: ∀(a:Option Addr) (cap:Nat) (w:World),Calls P f #[.slice a 0 cap] w fun e w'=>e=.returned (R0 (.slice a 0 cap))∧w'=w):W2 P G f (YT F V V0):=by
 intro args st v st' hs hf ha;unfold YT at hs
 split at hs
 ·rename_i c m len
  by_cases hl0:len=0
  ·rw[if_pos hl0]at hs
   injection hs with hs
   injection hs with e1 e2
   subst e1 e2 hl0;have hw:WF st.h.get (.sl c m 0 0 1):=ha.1;refine⟨hr,fun w0 p w H hG=>⟨Ab.refl _,?_⟩⟩;obtain⟨C,e,g1,g2,_,_⟩:=hw;obtain⟨q,hq⟩:=H.Ws c C g1 m (List.getElem?_eq_some_iff.1 g2).1
   have hcs:Qe p (.sl c m 0 0 1)=.slice (some ⟨q.b,q.d+0,none⟩) 0 ((q.e-0)/1):=by simp only[Qe,hq]
   have hv:=hV0 p st.h.get (.sl c m 0 0 1) ha.1;show Calls P f #[Qe p (.sl c m 0 0 1)] w _;rw[hcs]at hv ⊢;refine(hC0 _ _ w).mono fun e w'=>?_
   rintro⟨rfl,rfl⟩
   exact⟨p,by rw[hv.1],.refl H,hv.2⟩
  rw[if_neg hl0]at hs
  split at hs
  ·rename_i ms hc
   split at hs
   ·rename_i e vs l hm
    split at hs
    ·rename_i hcond;obtain⟨hlen,h0,h1M⟩:=hcond
     split at hs
     ·rename_i zs hzs
      injection hs with hs
      injection hs with e1 e2
      subst e1 e2;obtain⟨hzl,hzg⟩:=LU hzs
      have hzn:zs≠[]:=by intro e;subst e;simp at hzl;omega
      obtain⟨hT,hself,honly⟩:=OT (l:=(F zs).map FG) hm;have hexts:exts (.row false (XZ ms m e vs ((F zs).map FG)))=exts (.row false ms):=hT.exts;have hAb:Ab st ⟨st.n,st.h.set c (.row false (XZ ms m e vs ((F zs).map FG)))⟩:=F6 hc (by rw[hexts];exact List.prefix_refl _);refine⟨hr,fun w0 p w H hG=>⟨hAb,?_⟩⟩;have hR:=H.cls c _ hc;obtain⟨q,arr,el,g1,g2,g3,g4,g5,g6⟩:=hR.mem m e vs (some l) hm;obtain⟨k1,k2⟩:=g6 l rfl;have hb:=g2.own;have hblt:=(Array.getElem?_eq_some_iff.1 hb).1
      have hH:Holds (Value.int .i64) w q.b q.d zs.toArray:=by
       intro j hj
       have hj':j<zs.length:=by simpa using hj
       refine⟨?_,by simp[World.frozen?,hb]⟩;obtain⟨a,ha1,ha2⟩:=hzg p j _ (List.getElem?_eq_getElem hj');obtain⟨j1,_,_⟩:=k2 j a ha1;simp only[World.cell?,hb];simp only[Option.isSome_none,Bool.false_eq_true,if_false];rw[j1,ha2];simp[hj']
      have hargs:(Qm p [AV.sl c m 0 len 1]).toArray= #[.slice (some ⟨q.b,q.d,none⟩) zs.length q.e]:=by
       show #[Qe p (AV.sl c m 0 len 1)]=_;simp only[Qe,g1];rw[hzl,hlen];simp
      rw[hargs];refine(hC q.b q.d q.e zs w hH hblt Qd Qd hzn).mono fun e' w'=>?_
      rintro⟨rfl,n,os,rfl⟩
      have hv:=hV p (st.h.set c (.row false (XZ ms m e vs ((F zs).map FG)))).get c m zs q (.row false (XZ ms m e vs ((F zs).map FG))) e hzn g1 (by rw[Jc];exact Jy _ _ _) (by rw[hexts];simp[exts,List.getElem?_map,hm]) Qd;refine⟨p,by rw[hv.1],?_,hv.2⟩
      have S1:=H.over hc hT hb (arr':=putCells (Value.int .i64) q.d (F zs).toArray arr) (by simp[putCells]) g1 rfl (fun k e1 vs1 l1 q1 hk hq1=>by
       obtain⟨rfl,rfl,rfl⟩:=honly k e1 vs1 l1 hk
       rw[g1]at hq1;injection hq1 with hq1;subst hq1
       refine⟨fun _=>⟨by rw[List.length_map,hF];omega,fun j a hj=>?_⟩,fun hne=>absurd rfl hne⟩;rw[List.getElem?_map]at hj
       cases hz:(F zs)[j]? with
       |none=>rw[hz]at hj;cases hj
       |some z=>
        rw[hz]at hj
        injection hj with hj
        subst hj;have hjl:=(List.getElem?_eq_some_iff.1 hz).1
        have hjl':j<zs.length:=by rw[←hF];exact hjl
        refine⟨?_,?_,rfl⟩
        ·rw[qv]
         have:q.d+j<arr.size:=by omega
         have hzj:=(List.getElem?_eq_some_iff.1 hz).2;simp[putCells,this,hjl,hzj]
        ·trivial)
      rw[Jc]
      have hset: ∀k,(putRow (Value.int .i64) (Sort.ahead w n) q.b q.d (F zs).toArray).heap[k]? =(w.setRow q.b (putCells (Value.int .i64) q.d (F zs).toArray arr)).heap[k]? :=fun k=>by
       by_cases hk:k=q.b
       ·subst hk;rw[setRow_heap w q.b arr _ el (0,0) hb];show(w.heap.modify q.b (onCells (putCells (Value.int .i64) q.d (F zs).toArray)))[q.b]? =_;rw[Array.getElem?_modify,if_pos rfl,hb];rfl
       ·rw[setRow_other w q.b k _ hk];show(w.heap.modify q.b (onCells (putCells (Value.int .i64) q.d (F zs).toArray)))[k]? =_;rw[Array.getElem?_modify,if_neg (fun e:q.b=k=>hk e.symm)]
      refine S1.trans (S1.hr.Wv ⟨rfl,rfl,rfl,?_,fun k hk=>?_⟩)
      ·simp[World.setRow,putRow,mapBlock,Sort.ahead,grow]
      ·rw[heap_grow_old _ _ (by simpa [World.setRow,putRow,mapBlock,Sort.ahead]using hk),hset]
     ·cases hs
    ·cases hs
   ·cases hs
  ·cases hs
 ·injection hs with hs
  injection hs with e1 e2
  subst e1 e2;refine⟨hr,fun w0 p w H hG=>⟨Ab.refl _,(hC0 none 0 w).mono fun e w'=>?_⟩⟩
  rintro⟨rfl,rfl⟩
  exact⟨p,by rw[(hV0 p st.h.get .nils trivial).1];rfl,.refl H,(hV0 p st.h.get .nils trivial).2⟩
 ·cases hs
def AT(zs:List Int):List Int:=Lib.compact zs++List.replicate (zs.length-(Lib.compact zs).length) 0
def Et(_ _:Nat)(_:List Int):AV:=.tup []
def EM(c m:Nat)(zs:List Int):AV:=.sl c m 0 (Lib.compact zs).length 1
theorem Y3(zs:List Int):(Lib.compact zs).length≤zs.length:=by
 unfold Lib.compact Lib.compactUpTo;rw[List.length_map];refine Nat.le_trans (List.length_filter_le _ _) ?_;simp
theorem TJ:W2 Tryz.prog G 261 (YT U4 Et fun _=>.tup []):=by
 refine Lf (R:=fun _ _ _=>.tuple #[]) (R0:=fun _=>.tuple #[]) ⟨_,Tryz.func261,rfl,by decide⟩ (fun zs=>List.length_mergeSort _) (fun p h c m zs q C e _ _ _ _ _=>⟨rfl,trivial⟩) (fun p h ks _=>⟨rfl,trivial⟩) (fun b o cap zs w hH hb hsz hcap hn=>?_) (fun a cap w=>?_)
 ·exact Any.slices_Sort_int SI b o cap zs w hH hb Qd
 ·exact Any.slices_Sort_int_none SI a cap w
theorem BH:W2 Tryz.prog G 271 (YT AT EM id):=by
 refine Lf (R:=fun a cap zs=>.slice a (Lib.compact zs).length cap) (R0:=id) ⟨_,Tryz.func271,rfl,by decide⟩ (fun zs=>?_) (fun p h c m zs q C e hn h1 h2 h3 h4=>?_) (fun p h ks hw=>⟨rfl,hw⟩) (fun b o cap zs w hH hb hsz hcap hn=>?_) (fun a cap w=>?_)
 ·have:=Y3 zs;simp[AT];omega
 ·have:=Y3 zs;refine⟨?_,?_⟩
  ·unfold EM;simp only[Qe,h1];simp
  ·unfold EM;exact⟨C,e,h2,h3,by decide,by omega⟩
 ·refine(Any.slices_Compact_int uy b o cap zs w hH Qd hcap).mono fun e w'=>?_
  rintro⟨rfl,n,rfl⟩
  exact⟨rfl,n,#[],by rw[grow_empty];rfl⟩
 ·exact Any.slices_Compact_int_empty uy a cap w
theorem Fs{F:List Int→List Int}{V:Nat→Nat→List Int→AV}{V0:AV→AV}(hs:G.s f=some (YT F V V0))(hf:Qh st){c m:Nat}(hr:Qu st.h.get c m l)(hz:ZP l=some zs)(h0:zs≠[])(hb:zs.length≤1000000)(hF:(F zs).length=zs.length):
  ∃v st',Ev P G f [.sl c m 0 zs.length 1] st v st'∧v=V c m zs∧Qu st'.h.get c m ((F zs).map FG)∧wb [c] st st':=by
 have hlt:=hr.lt hf;obtain⟨vs,ms,h1,h2⟩:=hr;have hl:=(LU hz).1;have hp:0<zs.length:=List.length_pos_iff.2 h0;obtain⟨hT,hself,_⟩:=OT (l:=(F zs).map FG) h2
 have e:YT F V V0 [.sl c m 0 zs.length 1] st=some (V c m zs,⟨st.n,st.h.set c (.row false (XZ ms m l.length vs ((F zs).map FG)))⟩):=by
  unfold YT;show(if zs.length=0 then _ else _)=_;rw[if_neg Qd];simp only[h1,h2];rw[if_pos ⟨hl.symm,hp,hb⟩];simp only[hz]
 refine⟨V c m zs,⟨st.n,st.h.set c (.row false (XZ ms m l.length vs ((F zs).map FG)))⟩,⟨0,1,?_⟩,rfl,⟨vs,_,by rw[Jc];exact Jy _ _ _,by rw[hself,List.length_map,hF,hl]⟩,⟨fun k hk=>?_,Nat.le_refl _,fun k hk hX=>?_⟩⟩
 ·show(Option.rec _ (fun sm=>sm [.sl c m 0 zs.length 1] st) (G.s f):Option (AV×St))=_;rw[hs];exact e
 ·have hk:st.n≤k:=hk;rw[Jc,Yu _ _ Qd];exact hf k hk
 ·rw[Jc,Yu _ _ (by simpa using hX)]
theorem EF{F:List Int→List Int}{V:Nat→Nat→List Int→AV}{V0:AV→AV}(hs:G.s f=some (YT F V V0))(hf:Qh st):Ev P G f [.nils] st (V0 .nils) st:=⟨0,1,by
 show(Option.rec _ (fun sm=>sm [.nils] st) (G.s f):Option (AV×St))=_
 rw[hs];rfl⟩
theorem EE{F:List Int→List Int}{V:Nat→Nat→List Int→AV}{V0:AV→AV}(hs:G.s f=some (YT F V V0))(hf:Qh st)(c m:Nat):Ev P G f [.sl c m 0 0 1] st (V0 (.sl c m 0 0 1)) st:=⟨0,1,by
 show(Option.rec _ (fun sm=>sm [.sl c m 0 0 1] st) (G.s f):Option (AV×St))=_;rw[hs];show YT F V V0 [.sl c m 0 0 1] st=_
 rfl⟩
end
end Go.Proofs.YtildagdnomiahaaGreatDoor
