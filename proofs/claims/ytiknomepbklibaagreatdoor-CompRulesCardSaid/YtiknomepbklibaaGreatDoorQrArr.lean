/-
  slices.Sort, slices.Compact at numbers and strconv.AppendInt, by the library's contracts: the numbers of this program put in.
-/
import Derived.Shelf.Sort.Plain
import Derived.Shelf.Slices.CompactI
import Derived.Shelf.Slices.In.SortNone
import Derived.Shelf.Strconv.AppendIntPublic10
import Derived.Lib.SlicesCompact
import Derived.Lib.ItoaNum
import Derived.Test.YtiknomepbklibaaGreatDoorQrSy2
import Derived.Lib.AppendIntMem
import Derived.Lib.ItoaLen
import Derived.Lib.Slices
import Derived.Lib.Hide
import Derived.Laws.IdiomStrings
import Derived.OwnWalk
import Derived.WalkKit
import Derived.BigCall
import Derived.ChangeShapes
import Derived.ChangeOld
import Derived.Below
import Derived.Carry
set_option maxRecDepth 1000000
set_option linter.unusedVariables false
section
namespace Go.Proofs.YtiknomepbklibaaGreatDoor
open Go Go.RowKit Go.Shelf

def aj:Ren:=⟨
 fun n=>if n=125 then 90 else if n=128 then 122 else if n=129 then 123 else if n=189 then 66 else if n=215 then 149 else if n=216 then 119 else if n=257 then 89 else if n=294 then 113 else if n=295 then 114 else if n=296 then 115 else if n=297 then 116 else if n=298 then 117 else if n=299 then 118 else if n=300 then 120 else if n=301 then 121 else if n=328 then 144 else if n=329 then 145 else if n=330 then 146 else if n=331 then 147 else if n=332 then 148 else if n=343 then 173 else 0,
 fun n=>if n=0 then 0 else if n=3 then 3 else if n=4 then 4 else if n=5 then 5 else if n=9 then 9 else if n=28 then 54 else if n=46 then 58 else if n=51 then 154 else if n=53 then 156 else if n=131 then 59 else if n=182 then 146 else if n=183 then 147 else if n=218 then 185 else if n=222 then 189 else if n=228 then 204 else if n=229 then 205 else 0,
 fun _=>0⟩

set_option maxRecDepth 100000 in
theorem SS:Lays.n189 Tryz.prog aj:={
 mixed:=by kernel_rfl
 f125:=by kernel_rfl
 f128:=by kernel_rfl
 f129:=by kernel_rfl
 f189:=by kernel_rfl
 f215:=by kernel_rfl
 f216:=by kernel_rfl
 f257:=by kernel_rfl
 f294:=by kernel_rfl
 f295:=by kernel_rfl
 f296:=by kernel_rfl
 f297:=by kernel_rfl
 f298:=by kernel_rfl
 f299:=by kernel_rfl
 f300:=by kernel_rfl
 f301:=by kernel_rfl
 f328:=by kernel_rfl
 f329:=by kernel_rfl
 f330:=by kernel_rfl
 f331:=by kernel_rfl
 f332:=by kernel_rfl
 f343:=by kernel_rfl
 t0:=by kernel_rfl
 a0:=fun _=>by kernel_rfl
 z0:=fun _=>by kernel_rfl
 v0:=fun _=>by kernel_rfl
 t3:=by kernel_rfl
 a3:=fun _=>by kernel_rfl
 z3:=fun _=>by kernel_rfl
 v3:=fun _=>by kernel_rfl
 t4:=by kernel_rfl
 a4:=fun _=>by kernel_rfl
 z4:=fun _=>by kernel_rfl
 v4:=fun _=>by kernel_rfl
 t5:=by kernel_rfl
 a5:=fun _=>by kernel_rfl
 z5:=fun _=>by kernel_rfl
 v5:=fun _=>by kernel_rfl
 t9:=by kernel_rfl
 a9:=fun _=>by kernel_rfl
 z9:=fun _=>by kernel_rfl
 v9:=fun _=>by kernel_rfl
 t28:=by kernel_rfl
 a28:=fun _=>by kernel_rfl
 z28:=fun _=>by kernel_rfl
 v28:=fun _=>by kernel_rfl
 t46:=by kernel_rfl
 a46:=fun _=>by kernel_rfl
 z46:=fun _=>by kernel_rfl
 v46:=fun _=>by kernel_rfl
 t51:=by kernel_rfl
 a51:=fun _=>by kernel_rfl
 z51:=fun _=>by kernel_rfl
 v51:=fun _=>by kernel_rfl
 t53:=by kernel_rfl
 a53:=fun _=>by kernel_rfl
 z53:=fun _=>by kernel_rfl
 v53:=fun _=>by kernel_rfl
 t131:=by kernel_rfl
 a131:=fun _=>by kernel_rfl
 z131:=fun _=>by kernel_rfl
 v131:=fun _=>by kernel_rfl
 t182:=by kernel_rfl
 a182:=fun _=>by kernel_rfl
 z182:=fun _=>by kernel_rfl
 v182:=fun _=>by kernel_rfl
 t183:=by kernel_rfl
 a183:=fun _=>by kernel_rfl
 z183:=fun _=>by kernel_rfl
 v183:=fun _=>by kernel_rfl
 t218:=by kernel_rfl
 a218:=fun _=>by kernel_rfl
 z218:=fun _=>by kernel_rfl
 v218:=fun _=>by kernel_rfl
 t222:=by kernel_rfl
 a222:=fun _=>by kernel_rfl
 z222:=fun _=>by kernel_rfl
 v222:=fun _=>by kernel_rfl
 t228:=by kernel_rfl
 a228:=fun _=>by kernel_rfl
 z228:=fun _=>by kernel_rfl
 v228:=fun _=>by kernel_rfl
 t229:=by kernel_rfl
 a229:=fun _=>by kernel_rfl
 z229:=fun _=>by kernel_rfl
 v229:=fun _=>by kernel_rfl}
def ak:Ren:=⟨
 fun n=>if n=20 then 67 else 0,
 fun n=>if n=0 then 0 else if n=3 then 3 else if n=4 then 4 else if n=22 then 54 else 0,
 fun _=>0⟩

set_option maxRecDepth 100000 in
theorem jT:Lays2.n20 Tryz.prog ak:={
 mixed:=by kernel_rfl
 f20:=by kernel_rfl
 t0:=by kernel_rfl
 a0:=fun _=>by kernel_rfl
 z0:=fun _=>by kernel_rfl
 v0:=fun _=>by kernel_rfl
 t3:=by kernel_rfl
 a3:=fun _=>by kernel_rfl
 z3:=fun _=>by kernel_rfl
 v3:=fun _=>by kernel_rfl
 t4:=by kernel_rfl
 a4:=fun _=>by kernel_rfl
 z4:=fun _=>by kernel_rfl
 v4:=fun _=>by kernel_rfl
 t22:=by kernel_rfl
 a22:=fun _=>by kernel_rfl
 z22:=fun _=>by kernel_rfl
 v22:=fun _=>by kernel_rfl
 i3:=by kernel_rfl}
def er:Ren:=⟨
 fun n=>if n=129 then 123 else if n=176 then 112 else if n=249 then 143 else if n=283 then 180 else if n=284 then 181 else if n=285 then 182 else if n=286 then 183 else if n=288 then 172 else if n=317 then 187 else if n=318 then 188 else if n=319 then 189 else if n=320 then 190 else if n=337 then 193 else if n=338 then 194 else 0,
 fun n=>if n=0 then 0 else if n=2 then 2 else if n=3 then 3 else if n=4 then 4 else if n=5 then 5 else if n=9 then 9 else if n=20 then 20 else if n=37 then 143 else if n=46 then 58 else if n=51 then 154 else if n=53 then 156 else if n=171 then 213 else if n=173 then 215 else if n=212 then 218 else if n=213 then 219 else if n=232 then 221 else if n=233 then 222 else 0,
 fun n=>if n=17 then 0 else if n=18 then 1 else if n=19 then 2 else 0⟩

set_option maxRecDepth 100000 in
theorem zV:Lays.n176 Tryz.prog er:={
 mixed:=by kernel_rfl
 f129:=by kernel_rfl
 f176:=by kernel_rfl
 f249:=by kernel_rfl
 f283:=by kernel_rfl
 f284:=by kernel_rfl
 f285:=by kernel_rfl
 f286:=by kernel_rfl
 f288:=by kernel_rfl
 f317:=by kernel_rfl
 f318:=by kernel_rfl
 f319:=by kernel_rfl
 f320:=by kernel_rfl
 f337:=by kernel_rfl
 f338:=by kernel_rfl
 t0:=by kernel_rfl
 a0:=fun _=>by kernel_rfl
 z0:=fun _=>by kernel_rfl
 v0:=fun _=>by kernel_rfl
 t2:=by kernel_rfl
 a2:=fun _=>by kernel_rfl
 z2:=fun _=>by kernel_rfl
 v2:=fun _=>by kernel_rfl
 t3:=by kernel_rfl
 a3:=fun _=>by kernel_rfl
 z3:=fun _=>by kernel_rfl
 v3:=fun _=>by kernel_rfl
 t4:=by kernel_rfl
 a4:=fun _=>by kernel_rfl
 z4:=fun _=>by kernel_rfl
 v4:=fun _=>by kernel_rfl
 t5:=by kernel_rfl
 a5:=fun _=>by kernel_rfl
 z5:=fun _=>by kernel_rfl
 v5:=fun _=>by kernel_rfl
 t9:=by kernel_rfl
 a9:=fun _=>by kernel_rfl
 z9:=fun _=>by kernel_rfl
 v9:=fun _=>by kernel_rfl
 t20:=by kernel_rfl
 a20:=fun _=>by kernel_rfl
 z20:=fun _=>by kernel_rfl
 v20:=fun _=>by kernel_rfl
 t37:=by kernel_rfl
 a37:=fun _=>by kernel_rfl
 z37:=fun _=>by kernel_rfl
 v37:=fun _=>by kernel_rfl
 t46:=by kernel_rfl
 a46:=fun _=>by kernel_rfl
 z46:=fun _=>by kernel_rfl
 v46:=fun _=>by kernel_rfl
 t51:=by kernel_rfl
 a51:=fun _=>by kernel_rfl
 z51:=fun _=>by kernel_rfl
 v51:=fun _=>by kernel_rfl
 t53:=by kernel_rfl
 a53:=fun _=>by kernel_rfl
 z53:=fun _=>by kernel_rfl
 v53:=fun _=>by kernel_rfl
 t171:=by kernel_rfl
 a171:=fun _=>by kernel_rfl
 z171:=fun _=>by kernel_rfl
 v171:=fun _=>by kernel_rfl
 t173:=by kernel_rfl
 a173:=fun _=>by kernel_rfl
 z173:=fun _=>by kernel_rfl
 v173:=fun _=>by kernel_rfl
 t212:=by kernel_rfl
 a212:=fun _=>by kernel_rfl
 z212:=fun _=>by kernel_rfl
 v212:=fun _=>by kernel_rfl
 t213:=by kernel_rfl
 a213:=fun _=>by kernel_rfl
 z213:=fun _=>by kernel_rfl
 t232:=by kernel_rfl
 a232:=fun _=>by kernel_rfl
 z232:=fun _=>by kernel_rfl
 v232:=fun _=>by kernel_rfl
 t233:=by kernel_rfl
 a233:=fun _=>by kernel_rfl
 z233:=fun _=>by kernel_rfl
 v233:=fun _=>by kernel_rfl
 g17:=by kernel_rfl
 g18:=by kernel_rfl
 g19:=by kernel_rfl}
set_option maxRecDepth 100000 in
theorem jS:LaysM.n176 Tryz.prog er:={
 ton176:=zV
 i0:=by kernel_rfl
 i2:=by kernel_rfl
 i3:=by kernel_rfl
 i4:=by kernel_rfl
 i5:=by kernel_rfl
 i9:=by kernel_rfl
 i20:=by kernel_rfl
 i37:=by kernel_rfl
 i46:=by kernel_rfl
 i51:=by kernel_rfl
 i53:=by kernel_rfl
 i171:=by kernel_rfl
 i173:=by kernel_rfl
 i212:=by kernel_rfl
 i232:=by kernel_rfl
 i233:=by kernel_rfl
 m17:=by kernel_rfl
 m18:=by kernel_rfl
 m19:=by kernel_rfl}
end Go.Proofs.YtiknomepbklibaaGreatDoor
end
section
namespace Go.Proofs.YtiknomepbklibaaGreatDoor
open Go

def VS(l:List Int):Prop:=l.Pairwise (· < ·)
def Xi(x:Int):List Int→List Int
 |[]=>[x]
 |y::l=>if y<x then y::Xi x l else if y=x then y::l else x::y::l
def JT(l:List Int):List Int:=l.foldl (fun out x=>Xi x out) []
theorem CX: ∀{a b:List Int},VS a→VS b→(∀x,x∈a↔x∈b)→a=b:=by
 intro a
 induction a with
 |nil=>
  intro b _ _ h
  cases b with
  |nil=>rfl
  |cons y b=>exact absurd ((h y).2 (List.mem_cons_self ..)) QA
 |cons x a ih=>
  intro b ha hb h
  cases b with
  |nil=>exact absurd ((h x).1 (List.mem_cons_self ..)) QA
  |cons y b=>
   obtain⟨ha1,ha2⟩:=List.pairwise_cons.1 ha;obtain⟨hb1,hb2⟩:=List.pairwise_cons.1 hb
   have hxy:x=y:=by
    rcases List.mem_cons.1 ((h x).1 (List.mem_cons_self ..))with e|e
    ·exact e
    ·rcases List.mem_cons.1 ((h y).2 (List.mem_cons_self ..))with e'|e'
     ·exact e'.symm
     ·have:=hb1 _ e;have:=ha1 _ e';omega
   subst hxy
   congr 1
   refine ih ha2 hb2 fun z=>⟨fun hz=>?_,fun hz=>?_⟩
   ·rcases List.mem_cons.1 ((h z).1 (List.mem_cons_of_mem _ hz))with e|e
    ·have:=ha1 _ hz;omega
    ·exact e
   ·rcases List.mem_cons.1 ((h z).2 (List.mem_cons_of_mem _ hz))with e|e
    ·have:=hb1 _ hz;omega
    ·exact e
theorem Dq(x z:Int)(l:List Int):z∈Xi x l↔z=x∨z∈l:=by
 induction l with
 |nil=>simp[Xi]
 |cons y l ih=>
  rw[Xi]
  split
  ·rw[List.mem_cons,ih,List.mem_cons];constructor
   ·rintro(h|h|h)
    ·exact .inr (.inl h)
    ·exact .inl h
    ·exact .inr (.inr h)
   ·rintro(h|h|h)
    ·exact .inr (.inl h)
    ·exact .inl h
    ·exact .inr (.inr h)
  ·split
   ·rename_i h;subst h;simp
   ·simp
theorem TP(x:Int){l:List Int}(h:VS l):VS (Xi x l):=by
 induction l with
 |nil=>exact List.pairwise_singleton _ _
 |cons y l ih=>
  obtain⟨h1,h2⟩:=List.pairwise_cons.1 h;rw[Xi]
  split
  ·rename_i hlt;refine List.pairwise_cons.2 ⟨fun z hz=>?_,ih h2⟩;rcases(Dq x z l).1 hz with e|e
   ·omega
   ·exact h1 z e
  ·split
   ·exact h
   ·rename_i hlt hne;refine List.pairwise_cons.2 ⟨fun z hz=>?_,h⟩;rcases List.mem_cons.1 hz with e|e
    ·omega
    ·have:=h1 z e;omega
theorem Ho(l:List Int): ∀acc,VS acc→VS (l.foldl (fun out x=>Xi x out) acc)∧ ∀z,z∈l.foldl (fun out x=>Xi x out) acc↔z∈acc∨z∈l:=by
 induction l with
 |nil=>intro acc h;exact⟨h,by simp⟩
 |cons x l ih=>
  intro acc h;obtain⟨h1,h2⟩:=ih (Xi x acc) (TP x h);refine⟨h1,fun z=>?_⟩;rw[List.foldl_cons,h2,Dq,List.mem_cons];constructor
  ·rintro((h|h)|h)
   ·exact .inr (.inl h)
   ·exact .inl h
   ·exact .inr (.inr h)
  ·rintro(h|h|h)
   ·exact .inl (.inr h)
   ·exact .inl (.inl h)
   ·exact .inr h
theorem Vd(l:List Int):VS (JT l):=(Ho l [] List.Pairwise.nil).1
theorem VM(l:List Int)(z:Int):z∈JT l↔z∈l:=by
 have:=(Ho l [] List.Pairwise.nil).2 z;unfold JT
 simpa using this
theorem B8{zs:List Int}{x:Int}:x∈Lib.compact zs↔x∈zs:=by
 unfold Lib.compact Lib.compactUpTo;constructor
 ·intro h;obtain⟨i,hi,rfl⟩:=List.mem_map.1 h;have hi':i<zs.length:=List.mem_range.1 (List.mem_filter.1 hi).1;simp[getElem!_pos,hi']
 ·intro h;obtain⟨i,hi,rfl⟩:=List.getElem_of_mem h;rw[List.mem_map]
  have: ∀j (hj:j<zs.length),zs[j]=zs[i]→ ∃a,a∈(List.range zs.length).filter (Lib.keeps zs.toArray)∧(zs.toArray)[a]! =zs[i]:=by
   intro j
   induction j with
   |zero=>intro hj e;exact⟨0,List.mem_filter.2 ⟨List.mem_range.2 hj,by simp[Lib.keeps]⟩,by simp[getElem!_pos,hj,e]⟩
   |succ j ih=>
    intro hj e
    by_cases h2:zs[j]=zs[j+1]
    ·exact ih Qe (h2.trans e)
    ·refine⟨j+1,List.mem_filter.2 ⟨List.mem_range.2 hj,?_⟩,by simp[getElem!_pos,hj,e]⟩;apply Lib.keeps_pos
     have:j<zs.length:=by omega
     simp[getElem!_pos,hj,this];exact fun e=>h2 e.symm
  exact this i hi rfl
theorem OK{zs:List Int}(h:zs.Pairwise (· ≤ ·)):VS (Lib.compact zs):=by
 unfold VS Lib.compact Lib.compactUpTo;rw[List.pairwise_map];refine List.Pairwise.imp_of_mem ?_ (List.Pairwise.filter _ List.pairwise_lt_range);intro i j hi hj hij;have hj1:=List.mem_filter.1 hj;have hjl:j<zs.length:=List.mem_range.1 hj1.1;have hk:=hj1.2
 have hil:i<zs.length:=by omega
 have hj1l:j-1<zs.length:=by omega
 simp only[Lib.keeps,decide_eq_true_eq]at hk;rcases hk with hk|hk
 ·omega
 ·have e1:zs.toArray[j]! =zs[j]:=by simp[getElem!_pos,hjl]
  have e2:zs.toArray[j-1]! =zs[j-1]:=by simp[getElem!_pos,hj1l]
  have e3:zs.toArray[i]! =zs[i]:=by simp[getElem!_pos,hil]
  rw[e1,e2]at hk;rw[e3,e1];have hle:zs[j-1]≤zs[j]:=List.pairwise_iff_getElem.1 h _ _ _ _ Qe
  by_cases hij':i=j-1
  ·subst hij';omega
  ·have:zs[i]≤zs[j-1]:=List.pairwise_iff_getElem.1 h _ _ _ _ Qe;omega
def XO(zs:List Int):List Int:=zs.mergeSort fun x y=>decide (x≤y)
theorem Oo(zs:List Int):(XO zs).Pairwise (· ≤ ·):=by
 have:=List.pairwise_mergeSort (le:=fun x y:Int=>decide (x≤y)) (fun a b c h1 h2=>by simp at *;omega) (fun a b=>by simp;omega) zs
 exact this.imp fun h=>by simpa using h
theorem KS(zs:List Int):Lib.compact (XO zs)=JT zs:=
 CX (OK (Oo zs)) (Vd zs) fun x=>by rw[B8,VM];exact List.mem_mergeSort

def Gt(n:Int):List Nat:=(Lib.itoa n).map UInt8.toNat
def Zm:List Int→List Nat
 |[]=>[]
 |n::l=>Gt n++44::Zm l
def yQ(l:List UInt8):Nat:=l.foldl (fun a c=>10 *a+(c.toNat-48)) 0
theorem El(u:Nat)(h:u<10):(UInt8.ofNat (48+u)).toNat=48+u:=by
 rw[UInt8.toNat_ofNat'];omega
theorem C3(u:Nat):yQ (Lib.decDigits u)=u:=by
 induction u using Nat.strongRecOn with
 |_ u ih=>
  rw[Lib.decDigits]
  by_cases h:u<10
  ·rw[dif_pos h];unfold yQ;rw[List.foldl_cons,List.foldl_nil,El u h];omega
  ·rw[dif_neg h];unfold yQ;rw[List.foldl_append,List.foldl_cons,List.foldl_nil,El _ (Nat.mod_lt _ QE)];have:=ih (u/10) Qe;unfold yQ at this;rw[this];omega
theorem AN(u:Nat): ∀c∈Lib.decDigits u,48≤c.toNat∧c.toNat≤57:=by
 induction u using Nat.strongRecOn with
 |_ u ih=>
  intro c hc;rw[Lib.decDigits]at hc
  by_cases h:u<10
  ·rw[dif_pos h]at hc;rw[List.mem_singleton.1 hc,El u h];omega
  ·rw[dif_neg h]at hc;rcases List.mem_append.1 hc with hc|hc
   ·exact ih (u/10) Qe c hc
   ·have:=Nat.mod_lt u (show 0<10 by decide);rw[List.mem_singleton.1 hc,El _ this];omega
theorem Tm{a b:Nat}(h:Lib.decDigits a=Lib.decDigits b):a=b:=by rw[←C3 a,h,C3]
theorem uf{a b:Int}(h:Lib.itoa a=Lib.itoa b):a=b:=by
 unfold Lib.itoa at h
 split at h<;>split at h
 ·injection h with _ h
  have:=Tm h;omega
 ·have:(45:UInt8)∈Lib.decDigits b.toNat:=by rw[←h];exact List.mem_cons_self ..
  exact absurd (AN _ _ this).1 QE
 ·have:(45:UInt8)∈Lib.decDigits a.toNat:=by rw[h];exact List.mem_cons_self ..
  exact absurd (AN _ _ this).1 QE
 ·have:=Tm h;omega
theorem Ff: ∀{a b:List UInt8},a.map UInt8.toNat=b.map UInt8.toNat→a=b
 |[],[],_=>rfl
 |[],_::_,h=>by cases h
 |_::_,[],h=>by cases h
 |x::a,y::b,h=>by
  injection h with h1 h2
  rw[UInt8.toNat_inj.1 h1,Ff h2]
theorem MA{a b:Int}(h:Gt a=Gt b):a=b:=uf (Ff h)
theorem D8(n:Int):44∉Gt n:=by
 intro h;obtain⟨c,hc,e⟩:=List.mem_map.1 h;unfold Lib.itoa at hc
 split at hc
 ·rcases List.mem_cons.1 hc with rfl|hc
  ·exact absurd e QE
  ·have:=AN _ _ hc;omega
 ·have:=AN _ _ hc;omega
theorem qF{a b:List Nat}{r s:List Nat}(ha:44∉a)(hb:44∉b)(h:a++44::r=b++44::s):a=b∧r=s:=by
 induction a generalizing b with
 |nil=>
  cases b with
  |nil=>injection h with _ h;exact⟨rfl,h⟩
  |cons y b=>injection h with h1 _;exact absurd (h1▸List.mem_cons_self ..) hb
 |cons x a ih=>
  cases b with
  |nil=>injection h with h1 _;exact absurd (h1▸List.mem_cons_self ..) ha
  |cons y b=>
   injection h with h1 h2
   obtain⟨e1,e2⟩:=ih (fun h=>ha (List.mem_cons_of_mem _ h)) (fun h=>hb (List.mem_cons_of_mem _ h)) h2;exact⟨by rw[h1,e1],e2⟩
theorem D4: ∀{a b:List Int},Zm a=Zm b→a=b
 |[],[],_=>rfl
 |[],m::b,h=>by rw[Zm,Zm]at h;have:=congrArg List.length h;simp at this
 |n::a,[],h=>by rw[Zm,Zm]at h;have:=congrArg List.length h;simp at this
 |n::a,m::b,h=>by
  rw[Zm,Zm]at h;obtain⟨h1,h2⟩:=qF (D8 n) (D8 m) h;rw[MA h1,D4 h2]
theorem D9(n:Int): ∀x∈Gt n,x<256:=by
 intro x h;obtain⟨c,_,rfl⟩:=List.mem_map.1 h;exact c.toNat_lt
theorem Nt: ∀l:List Int,∀x∈Zm l,x<256
 |[],x,h=>by cases h
 |n::l,x,h=>by
  rw[Zm]at h;rcases List.mem_append.1 h with h|h
  ·exact D9 n x h
  ·rcases List.mem_cons.1 h with rfl|h
   ·decide
   ·exact Nt l x h

end Go.Proofs.YtiknomepbklibaaGreatDoor
end
section
namespace Go.Proofs.YtiknomepbklibaaGreatDoor
open Go Go.RowKit Go.Shelf Go.Sort
variable {G:Env} {P:Program} {f:FuncId} {l:List AV} {st:St} {zs:List Int}

def XR:List AV→Option (List Int)
 |[]=>some []
 |.int .i64 s::l=>(XR l).map (s:: ·)
 |_::_=>none
def Hc(z:Int):AV:=.int .i64 z
theorem qo(p:JE)(z:Int):Qi p (Hc z)=Value.int .i64 z:=rfl
theorem Ee: ∀zs:List Int,XR (zs.map Hc)=some zs
 |[]=>rfl
 |z::zs=>by
  show(XR (zs.map Hc)).map (z:: ·)=_;rw[Ee zs];rfl
theorem Gu(h:XR l=some zs):l=zs.map Hc:=by
 induction l generalizing zs with
 |nil=>injection h with h;subst h;rfl
 |cons a l ih=>
  unfold XR at h
  split at h
  ·rename_i h1;cases h1
  ·rename_i s l' h1
   injection h1 with h1 h2
   subst h1 h2
   cases hl:XR l with
   |none=>rw[hl]at h;cases h
   |some zl=>
    rw[hl]at h
    injection h with h
    subst h;rw[List.map_cons,←ih hl];rfl
  ·cases h
theorem Nv(h:XR l=some zs):zs.length=l.length∧ ∀(p:JE) (j:Nat) (z:Int),zs[j]? =some z→ ∃a,l[j]? =some a∧Qi p a=Value.int .i64 z:=by
 rw[Gu h];exact⟨by simp,fun p j z hj=>⟨Hc z,by rw[List.getElem?_map,hj];rfl,rfl⟩⟩
def BS(ms:List (Nat×Nat×Option (List AV))):List (Nat×Nat×Option (List AV)):=ms.map fun x=>(x.1,x.2.1,none)
def V2(ms:List (Nat×Nat×Option (List AV)))(m e vs:Nat)(l:List AV):List (Nat×Nat×Option (List AV)):=(BS ms).set m (e,vs,some l)
theorem Gj{ms:List (Nat×Nat×Option (List AV))}{m e vs:Nat}{cs0:Option (List AV)}(h:ms[m]? =some (e,vs,cs0)):Told ms (V2 ms m e vs l)∧(V2 ms m e vs l)[m]? =some (e,vs,some l)∧ ∀k e' vs' l',(V2 ms m e vs l)[k]? =some (e',vs',some l')→k=m∧e'=e∧l'=l:=by
 have hlt:=(List.getElem?_eq_some_iff.1 h).1
 have hself:(V2 ms m e vs l)[m]? =some (e,vs,some l):=by
  unfold V2;rw[List.getElem?_set_self (by simp[BS,hlt])]
 have hoth: ∀k,k≠m→(V2 ms m e vs l)[k]? =(ms[k]?).map fun x=>(x.1,x.2.1,none):=fun k hk=>by
  unfold V2;rw[List.getElem?_set_ne (fun e=>hk e.symm),BS,List.getElem?_map]
 refine⟨⟨by simp[V2,BS],fun k e' vs' cs hk=>?_⟩,hself,fun k e' vs' l' hk=>?_⟩
 ·by_cases hkm:k=m
  ·subst hkm;rw[hself]at hk
   injection hk with hk;injection hk with h1 hk;injection hk with h2 hk
   subst h1 h2;exact⟨_,h⟩
  ·rw[hoth k hkm]at hk
   cases hmk:ms[k]? with
   |none=>rw[hmk]at hk;cases hk
   |some x=>
    rw[hmk]at hk;obtain⟨a,b,c⟩:=x
    injection hk with hk;injection hk with h1 hk;injection hk with h2 hk
    subst h1 h2;exact⟨_,rfl⟩
 ·by_cases hkm:k=m
  ·subst hkm;rw[hself]at hk
   injection hk with hk;injection hk with h1 hk;injection hk with h2 hk;injection hk with hk
   exact⟨rfl,h1.symm,hk.symm⟩
  ·rw[hoth k hkm]at hk
   cases hmk:ms[k]? with
   |none=>rw[hmk]at hk;cases hk
   |some x=>
    rw[hmk]at hk
    injection hk with hk;injection hk with h1 hk;injection hk with h2 hk
    cases hk
noncomputable def Zk(F:List Int→List Int)(V:Nat→Nat→List Int→AV)(V0:AV→AV):List AV→St→Option (AV×St)
 |[.sl c m 0 len 1],st=>if len=0 then some (V0 (.sl c m 0 0 1),st)else match st.h.get c with
  |some (.row false ms)=>match ms[m]? with
   |some (e,vs,some l)=>if l.length=len∧0<len∧len≤1000000 then match XR l with
     |some zs=>some (V c m zs,⟨st.n,st.h.set c (.row false (V2 ms m e vs ((F zs).map Hc)))⟩)
     |none=>none
    else none
   |_=>none
  |_=>none
 |[.nils],st=>some (V0 .nils,st)
 |_,_=>none
theorem Lz{F:List Int→List Int}{V:Nat→Nat→List Int→AV}{V0:AV→AV}{R:Option Addr→Nat→List Int→Value}{R0:Value→Value}(hr:Real P f)(hF: ∀zs,(F zs).length=zs.length)
  (hV: ∀(p:JE) (h:Hp) c m zs q C e,zs≠[]→p c m=some q→h c=some C→(exts C)[m]? =some e→zs.length≤e→Qi p (V c m zs)=R (some ⟨q.b,q.d,none⟩) q.e zs∧WF h (V c m zs)) (hV0: ∀(p:JE) (h:Hp) (ks:AV),WF h ks→Qi p (V0 ks)=R0 (Qi p ks)∧WF h (V0 ks))
  (hC: ∀(b o cap:Nat) (zs:List Int) (w:World),Holds (Value.int .i64) w b o zs.toArray→b<w.heap.size→zs.length≤1000000→zs.length≤cap→zs≠[]→Calls P f #[.slice (some ⟨b,o,none⟩) zs.length cap] w fun e w'=>e=.returned (R (some ⟨b,o,none⟩) cap zs)∧ ∃n os,w'=grow (putRow (Value.int .i64) (Sort.ahead w n) b o (F zs).toArray) os)
  (hC0: ∀(a:Option Addr) (cap:Nat) (w:World),Calls P f #[.slice a 0 cap] w fun e w'=>e=.returned (R0 (.slice a 0 cap))∧w'=w):GH P G f (Zk F V V0):=by
 intro args st v st' hs hf ha;unfold Zk at hs
 split at hs
 ·rename_i c m len
  by_cases hl0:len=0
  ·rw[if_pos hl0]at hs
   injection hs with hs
   injection hs with e1 e2
   subst e1 e2 hl0;have hw:WF st.h.get (.sl c m 0 0 1):=ha.1;refine⟨hr,fun w0 p w H hG=>⟨Ab.refl _,?_⟩⟩;obtain⟨C,e,g1,g2,_,_⟩:=hw;obtain⟨q,hq⟩:=H.AO c C g1 m (List.getElem?_eq_some_iff.1 g2).1
   have hcs:Qi p (.sl c m 0 0 1)=.slice (some ⟨q.b,q.d+0,none⟩) 0 ((q.e-0)/1):=by simp only[Qi,hq]
   have hv:=hV0 p st.h.get (.sl c m 0 0 1) ha.1;show Calls P f #[Qi p (.sl c m 0 0 1)] w _;rw[hcs]at hv ⊢;refine(hC0 _ _ w).mono fun e w'=>?_
   rintro⟨rfl,rfl⟩
   exact⟨p,by rw[hv.1],.refl H,hv.2⟩
  rw[if_neg hl0]at hs
  split at hs
  ·rename_i ms hc
   split at hs
   ·rename_i e vs l hm
    split at hs
    ·rename_i hcond;obtain⟨hlen,h0,h1M⟩:=hcond
     split at hs
     ·rename_i zs hzs
      injection hs with hs
      injection hs with e1 e2
      subst e1 e2;obtain⟨hzl,hzg⟩:=Nv hzs
      have hzn:zs≠[]:=by intro e;subst e;simp at hzl;omega
      obtain⟨hT,hself,honly⟩:=Gj (l:=(F zs).map Hc) hm;have hexts:exts (.row false (V2 ms m e vs ((F zs).map Hc)))=exts (.row false ms):=hT.exts;have hAb:Ab st ⟨st.n,st.h.set c (.row false (V2 ms m e vs ((F zs).map Hc)))⟩:=IH hc (by rw[hexts];exact List.prefix_refl _);refine⟨hr,fun w0 p w H hG=>⟨hAb,?_⟩⟩;have hR:=H.cls c _ hc;obtain⟨q,arr,el,g1,g2,g3,g4,g5,g6⟩:=hR.mem m e vs (some l) hm;obtain⟨k1,k2⟩:=g6 l rfl;have hb:=g2.own;have hblt:=(Array.getElem?_eq_some_iff.1 hb).1
      have hH:Holds (Value.int .i64) w q.b q.d zs.toArray:=by
       intro j hj
       have hj':j<zs.length:=by simpa using hj
       refine⟨?_,by simp[World.frozen?,hb]⟩;obtain⟨a,ha1,ha2⟩:=hzg p j _ (List.getElem?_eq_getElem hj');obtain⟨j1,_,_⟩:=k2 j a ha1;simp only[World.cell?,hb];simp only[Option.isSome_none,Bool.false_eq_true,if_false];rw[j1,ha2];simp[hj']
      have hargs:(Qs p [AV.sl c m 0 len 1]).toArray= #[.slice (some ⟨q.b,q.d,none⟩) zs.length q.e]:=by
       show #[Qi p (AV.sl c m 0 len 1)]=_;simp only[Qi,g1];rw[hzl,hlen];simp
      rw[hargs];refine(hC q.b q.d q.e zs w hH hblt Qe Qe hzn).mono fun e' w'=>?_
      rintro⟨rfl,n,os,rfl⟩
      have hv:=hV p (st.h.set c (.row false (V2 ms m e vs ((F zs).map Hc)))).get c m zs q (.row false (V2 ms m e vs ((F zs).map Hc))) e hzn g1 (by rw[JF];exact Ui _ _ _) (by rw[hexts];simp[exts,List.getElem?_map,hm]) Qe;refine⟨p,by rw[hv.1],?_,hv.2⟩
      have S1:=H.over hc hT hb (arr':=putCells (Value.int .i64) q.d (F zs).toArray arr) (by simp[putCells]) g1 rfl (fun k e1 vs1 l1 q1 hk hq1=>by
       obtain⟨rfl,rfl,rfl⟩:=honly k e1 vs1 l1 hk
       rw[g1]at hq1;injection hq1 with hq1;subst hq1
       refine⟨fun _=>⟨by rw[List.length_map,hF];omega,fun j a hj=>?_⟩,fun hne=>absurd rfl hne⟩;rw[List.getElem?_map]at hj
       cases hz:(F zs)[j]? with
       |none=>rw[hz]at hj;cases hj
       |some z=>
        rw[hz]at hj
        injection hj with hj
        subst hj;have hjl:=(List.getElem?_eq_some_iff.1 hz).1
        have hjl':j<zs.length:=by rw[←hF];exact hjl
        refine⟨?_,?_,rfl⟩
        ·rw[qo]
         have:q.d+j<arr.size:=by omega
         have hzj:=(List.getElem?_eq_some_iff.1 hz).2;simp[putCells,this,hjl,hzj]
        ·trivial)
      rw[JF]
      have hset: ∀k,(putRow (Value.int .i64) (Sort.ahead w n) q.b q.d (F zs).toArray).heap[k]? =(w.setRow q.b (putCells (Value.int .i64) q.d (F zs).toArray arr)).heap[k]? :=fun k=>by
       by_cases hk:k=q.b
       ·subst hk;rw[setRow_heap w q.b arr _ el (0,0) hb];show(w.heap.modify q.b (onCells (putCells (Value.int .i64) q.d (F zs).toArray)))[q.b]? =_;rw[Array.getElem?_modify,if_pos rfl,hb];rfl
       ·rw[setRow_other w q.b k _ hk];show(w.heap.modify q.b (onCells (putCells (Value.int .i64) q.d (F zs).toArray)))[k]? =_;rw[Array.getElem?_modify,if_neg (fun e:q.b=k=>hk e.symm)]
      refine S1.trans (S1.hr.AQ ⟨rfl,rfl,rfl,?_,fun k hk=>?_⟩)
      ·simp[World.setRow,putRow,mapBlock,Sort.ahead,grow]
      ·rw[heap_grow_old _ _ (by simpa [World.setRow,putRow,mapBlock,Sort.ahead]using hk),hset]
     ·cases hs
    ·cases hs
   ·cases hs
  ·cases hs
 ·injection hs with hs
  injection hs with e1 e2
  subst e1 e2;refine⟨hr,fun w0 p w H hG=>⟨Ab.refl _,(hC0 none 0 w).mono fun e w'=>?_⟩⟩
  rintro⟨rfl,rfl⟩
  exact⟨p,by rw[(hV0 p st.h.get .nils trivial).1];rfl,.refl H,(hV0 p st.h.get .nils trivial).2⟩
 ·cases hs
def Aj(zs:List Int):List Int:=Lib.compact zs++List.replicate (zs.length-(Lib.compact zs).length) 0
def LA(_ _:Nat)(_:List Int):AV:=.tup []
def Em(c m:Nat)(zs:List Int):AV:=.sl c m 0 (Lib.compact zs).length 1
theorem Zg(zs:List Int):(Lib.compact zs).length≤zs.length:=by
 unfold Lib.compact Lib.compactUpTo;rw[List.length_map];refine Nat.le_trans (List.length_filter_le _ _) ?_;simp
theorem TG:GH Tryz.prog G 66 (Zk XO LA fun _=>.tup []):=by
 refine Lz (R:=fun _ _ _=>.tuple #[]) (R0:=fun _=>.tuple #[]) ⟨_,Tryz.func66,rfl,by decide⟩ (fun zs=>List.length_mergeSort _) (fun p h c m zs q C e _ _ _ _ _=>⟨rfl,trivial⟩) (fun p h ks _=>⟨rfl,trivial⟩) (fun b o cap zs w hH hb hsz hcap hn=>?_) (fun a cap w=>?_)
 ·exact Any.slices_Sort_int SS b o cap zs w hH hb Qe
 ·exact Any.slices_Sort_int_none SS a cap w
theorem HU:GH Tryz.prog G 67 (Zk Aj Em id):=by
 refine Lz (R:=fun a cap zs=>.slice a (Lib.compact zs).length cap) (R0:=id) ⟨_,Tryz.func67,rfl,by decide⟩ (fun zs=>?_) (fun p h c m zs q C e hn h1 h2 h3 h4=>?_) (fun p h ks hw=>⟨rfl,hw⟩) (fun b o cap zs w hH hb hsz hcap hn=>?_) (fun a cap w=>?_)
 ·have:=Zg zs;simp[Aj];omega
 ·have:=Zg zs;refine⟨?_,?_⟩
  ·unfold Em;simp only[Qi,h1];simp
  ·unfold Em;exact⟨C,e,h2,h3,by decide,by omega⟩
 ·refine(Any.slices_Compact_int jT b o cap zs w hH Qe hcap).mono fun e w'=>?_
  rintro⟨rfl,n,rfl⟩
  exact⟨rfl,n,#[],by rw[grow_empty];rfl⟩
 ·exact Any.slices_Compact_int_empty jT a cap w
theorem N5{F:List Int→List Int}{V:Nat→Nat→List Int→AV}{V0:AV→AV}(hs:G.s f=some (Zk F V V0))(hf:Qj st){c m:Nat}(hr:Q4 st.h.get c m l)(hz:XR l=some zs)(h0:zs≠[])(hb:zs.length≤1000000)(hF:(F zs).length=zs.length):
  ∃v st',Ev P G f [.sl c m 0 zs.length 1] st v st'∧v=V c m zs∧Q4 st'.h.get c m ((F zs).map Hc)∧x9 [c] st st':=by
 have hlt:=hr.lt hf;obtain⟨vs,ms,h1,h2⟩:=hr;have hl:=(Nv hz).1;have hp:0<zs.length:=List.length_pos_iff.2 h0;obtain⟨hT,hself,_⟩:=Gj (l:=(F zs).map Hc) h2
 have e:Zk F V V0 [.sl c m 0 zs.length 1] st=some (V c m zs,⟨st.n,st.h.set c (.row false (V2 ms m l.length vs ((F zs).map Hc)))⟩):=by
  unfold Zk;show(if zs.length=0 then _ else _)=_;rw[if_neg Qe];simp only[h1,h2];rw[if_pos ⟨hl.symm,hp,hb⟩];simp only[hz]
 refine⟨V c m zs,⟨st.n,st.h.set c (.row false (V2 ms m l.length vs ((F zs).map Hc)))⟩,⟨0,1,?_⟩,rfl,⟨vs,_,by rw[JF];exact Ui _ _ _,by rw[hself,List.length_map,hF,hl]⟩,⟨fun k hk=>?_,Nat.le_refl _,fun k hk hX=>?_⟩⟩
 ·show(Option.rec _ (fun sm=>sm [.sl c m 0 zs.length 1] st) (G.s f):Option (AV×St))=_;rw[hs];exact e
 ·have hk:st.n≤k:=hk;rw[JF,YU _ _ Qe];exact hf k hk
 ·rw[JF,YU _ _ (by simpa using hX)]
theorem Kj{F:List Int→List Int}{V:Nat→Nat→List Int→AV}{V0:AV→AV}(hs:G.s f=some (Zk F V V0))(hf:Qj st):Ev P G f [.nils] st (V0 .nils) st:=⟨0,1,by
 show(Option.rec _ (fun sm=>sm [.nils] st) (G.s f):Option (AV×St))=_
 rw[hs];rfl⟩
theorem Ki{F:List Int→List Int}{V:Nat→Nat→List Int→AV}{V0:AV→AV}(hs:G.s f=some (Zk F V V0))(hf:Qj st)(c m:Nat):Ev P G f [.sl c m 0 0 1] st (V0 (.sl c m 0 0 1)) st:=⟨0,1,by
 show(Option.rec _ (fun sm=>sm [.sl c m 0 0 1] st) (G.s f):Option (AV×St))=_;rw[hs];show Zk F V V0 [.sl c m 0 0 1] st=_
 rfl⟩
end Go.Proofs.YtiknomepbklibaaGreatDoor
end
section
namespace Go.Proofs.YtiknomepbklibaaGreatDoor
open Go Go.Shelf Go.RowKit Go.Sort

theorem ui:(Tryz.prog.info? 5).map (fun i=>(i.zero,i.size,i.bytes))=some (some (.int .u8 0),1,1):=by kernel_rfl
def Ed:List Int→List UInt8
 |[]=>[]
 |n::l=>Lib.itoa n++44::Ed l
theorem D6: ∀(a b:List Int),Ed (a++b)=Ed a++Ed b
 |[],b=>rfl
 |n::a,b=>by rw[List.cons_append,Ed,Ed,D6 a b,List.append_assoc];rfl
theorem M4{zs:List Int}{k:Nat}{z:Int}(h:zs[k]? =some z):Ed (zs.take (k+1))=Ed (zs.take k)++(Lib.itoa z++[44]):=by
 rw[List.take_add_one,h,D6];rfl
theorem D5: ∀l:List Int,(∀z∈l,-9223372036854775808≤z∧z≤9223372036854775807)→(Ed l).length≤22 *l.length
 |[],_=>by simp[Ed]
 |n::l,h=>by
  have h1:=D5 l fun z hz=>h z (List.mem_cons_of_mem _ hz);have h2:=h n (List.mem_cons_self ..);have h3:=Lib.itoa_length_le n h2.1 h2.2;rw[Ed,List.length_append,List.length_cons,List.length_cons];omega
theorem uc: ∀l:List Int,(Ed l).map UInt8.toNat=Zm l
 |[]=>rfl
 |n::l=>by rw[Ed,Zm,List.map_append,List.map_cons,uc l];rfl

set_option maxHeartbeats 6400000 in
set_option maxRecDepth 100000 in
theorem SV(A:Option Addr)(blk off cap:Nat)(zs:List Int)(w:World)(hz: ∀z∈zs,-9223372036854775808≤z∧z≤9223372036854775807)(hH:Holds (Value.int .i64) w blk off zs.toArray)(hA:0<zs.length→A=some ⟨blk,off,none⟩∧blk<w.heap.size)(hl:zs.length≤1000000)
  (htab:Lib.TabIs Tryz.prog w "internal/strconv.uint64pow10" .u64 Lib.pow10Tab):
  Calls Tryz.prog 87 #[.slice A zs.length cap] w fun e w'=>e=.returned (.string ⟨(Ed zs).toArray⟩)∧Below w.heap.size w w':=by
 obtain⟨i0,hi,hz0,hz1,hz2⟩:=info_parts ui;have hT:=Lib.tabBelow_of_tabIs htab;have HH:=Lib.hid hH;clear hH
 go_enter Tryz.func87,Tryz.ntmps87
 go_wp2
 go_loopg [3,8] zs.length (fun q v3 v8 wr=> ∃k:Nat,q=zs.length-k∧k≤zs.length∧v8=.int .i64 k∧wr.ownsRow w.heap.size 5 1 v3 (Ed (zs.take k)).length (Lib.byteCells (Ed (zs.take k)))∧Below w.heap.size w wr)
 case atStart=>exact⟨0,by omega,Nat.zero_le _,rfl,World.ownsRow_nil _ _ _ _,Below.refl _ _⟩
 case round=>
  obtain⟨k,hq,hk,rfl,hown,hb⟩:=hrel
  by_cases hlt:k<zs.length
  ·obtain⟨rfl,hblk⟩:=hA Qe;obtain⟨c1,f1⟩:=HH.out k (by simpa using hlt)
   have c2:wr.cell? ⟨blk,off+k,none⟩=some (.int .i64 (zs[k])):=by
    rw[hb.cell (p:=⟨blk,off+k,none⟩) hblk,c1];simp[getElem!_pos,hlt]
   have hget:zs[k]? =some zs[k]:=List.getElem?_eq_getElem hlt;have hbz:=hz _ (List.getElem_mem hlt);obtain⟨z,hzk⟩: ∃z,z=zs[k]:=⟨_,rfl⟩;rw[←hzk]at c2 hget hbz;have hlz:=Lib.itoa_length_le z hbz.1 hbz.2;have hkl:=D5 (zs.take k) fun z hz'=>hz z (List.mem_of_mem_take hz');rw[List.length_take]at hkl;have HG:=Lib.hid hget;have HK:=Lib.hid hzk;clear hget hzk;obtain⟨L,hL⟩: ∃L,L=Ed (zs.take k):=⟨_,rfl⟩;rw[←hL]at hown hkl;have HL:=Lib.hid hL;clear hL
   go_wp2_with (go_at_call 112;refine(Any.strconv_AppendInt_10 jS w.heap.size L.length z hbz.1 hbz.2 _ _ wr hown hb.size Qe (hT.on hb)).mono ?_;rintro e w1 ⟨v1,rfl,hown1,hnx1,-⟩;refine Hid.out ?_)
   refine Lib.hid ?_;have hown1:w1.ownsRow w.heap.size 5 1 v1 (L.length+(Lib.itoa z).length) (Lib.byteCells L++Lib.byteCells (Lib.itoa z)):=hown1;have hs1:=hnx1.size;have hs2:=hb.size
   go_wp2_with (at_builtin;refine wpList_append_own _ rfl _ _ 143 rfl w.heap.size 5 i0 (.int .u8 0) 1 1 Tryz.underlying143 hi hz0 hz1 hz2 rfl QE _ _ _ rfl (hown1.alloc _) ⟨w1.heap.size,0,none⟩ 1 1 [Value.int .u8 44] rfl rfl ?c1 ?c2 ?c3 ?c4 ?c5 ?_)
   case c1=>exact MX _ _ _ _ rfl
   case c2=>intro u hu;simp at hu;subst hu;rfl
   case c3=>unfold maxLen;omega
   case c4=>omega
   case c5=>simp;omega
   intro v2 w2 hown2 hgrow _;have hnx2:Below w.heap.size w w2:=((hb.trans hnx1).alloc (by have:=hnx1.size;have:=hb.size;omega) _).grown hgrow (by have:=hnx1.size;have:=hb.size;simp;omega) (fun k hk=>(hown1.lt k hk).1)
   go_wp2
   go_roundg (zs.length-(k+1))
   case measure=>omega
   case rel=>
    refine⟨k+1,rfl,by omega,rfl,?_,hnx2⟩;rw[M4 HG.out,←HL.out]
    have e1:Lib.byteCells (L++(Lib.itoa z++[44]))=Lib.byteCells L++(Lib.byteCells (Lib.itoa z)++[Value.int .u8 44]):=by simp[Lib.byteCells]
    have e2:(L++(Lib.itoa z++[44])).length=L.length+(Lib.itoa z).length+1:=by simp;omega
    rw[e1,e2]
    simpa [List.append_assoc]using hown2
  ·have hkk:zs.take k=zs:=List.take_of_length_le Qe;rw[hkk]at hown;obtain⟨l,hl'⟩: ∃l,l=Ed zs:=⟨_,rfl⟩;rw[←hl']at hown;have HL:=Lib.hid hl';clear hl';rcases hown.2 with⟨rfl,h0⟩|⟨g,cap',cur,rfl,-,-,-,-,-,-⟩
   ·have hcv:(convert 143 9 (.slice none 0 0)).run Tryz.prog wr=.ok (.string ⟨#[]⟩) wr:=by
     rw[run_convert_bytes_string wr 143 9 5 none 0 0 Tryz.underlying143 Tryz.underlying5 Tryz.underlying9];simp[Conv.bytesToString];rfl
    go_wp2
    go_ret
    have h1:=HL.out;have h2:l=[]:=List.length_eq_zero_iff.1 Qe;rw[←h1,h2];exact⟨rfl,hb⟩
   ·have hcv:=run_convert_bytes_back (P:=Tryz.prog) wr 143 9 5 ⟨g,0,none⟩ cap' l Tryz.underlying143 Tryz.underlying5 Tryz.underlying9 (fun j hj=>hown.cells (g:=g) rfl j _ (by simp[Lib.byteCells,hj]))
    go_wp2
    go_ret
    rw[←HL.out];exact⟨rfl,hb⟩
end Go.Proofs.YtiknomepbklibaaGreatDoor
end
section
namespace Go.Proofs.YtiknomepbklibaaGreatDoor
open Go Go.RowKit Go.Shelf Go.Sort

noncomputable def DS:Nat→Nat→List Nat→List Nat
 |0,_,acc=>acc
 |f+1,u,acc=>Qo (Nat.ble u 9) ((48+u)::acc) (DS f (u/10) ((48+u % 10)::acc))
noncomputable def xN:Int→List Nat
 |.ofNat u=>DS 20 u []
 |.negSucc u=>45::DS 20 (u+1) []
noncomputable def zW:List Int→List Nat
 |[]=>[]
 |n::l=>xN n++44::zW l
theorem DR: ∀(f u:Nat) (acc:List Nat),u<10^(f+1)→DS (f+1) u acc=(Lib.decDigits u).map UInt8.toNat++acc:=by
 intro f
 induction f with
 |zero=>
  intro u acc h
  have h9:u<10:=by simpa using h
  rw[DS,Lib.decDigits,dif_pos h9,Nat.ble_eq_true_of_le Qe,Q7,List.map_singleton,El u h9];rfl
 |succ f ih=>
  intro u acc h;rw[DS,Lib.decDigits]
  by_cases h9:u<10
  ·rw[dif_pos h9,Nat.ble_eq_true_of_le Qe,Q7,List.map_singleton,El u h9];rfl
  ·have hb:Nat.ble u 9=false:=by
    cases hb:Nat.ble u 9 with
    |false=>rfl
    |true=>have:=Nat.le_of_ble_eq_true hb;omega
   rw[dif_neg h9,hb,Qx,ih (u/10) _ (by rw[Nat.pow_succ]at h;omega),List.map_append,List.map_singleton,El _ (Nat.mod_lt _ QE),List.append_assoc];rfl
theorem ug{z:Int}(h1: -9223372036854775808≤z)(h2:z≤9223372036854775807):xN z=Gt z:=by
 have hp:(10:Nat)^20=100000000000000000000:=by decide
 cases z with
 |ofNat u=>
  have h2:(u:Int)≤9223372036854775807:=h2;show DS 20 u []=(Lib.itoa (u:Int)).map UInt8.toNat;rw[DR 19 u [] (by rw[hp];omega),List.append_nil,Lib.itoa,if_neg Qe];rfl
 |negSucc u=>
  have h1: -9223372036854775808≤Int.negSucc u:=h1;show 45::DS 20 (u+1) []=(Lib.itoa (Int.negSucc u)).map UInt8.toNat;rw[DR 19 (u+1) [] (by rw[hp];omega),List.append_nil,Lib.itoa,if_pos Qe];rfl
def eH(z:Int):Bool:=decide (-9223372036854775808≤z)&&decide (z≤9223372036854775807)
theorem Ry{z:Int}:eH z=true↔ -9223372036854775808≤z∧z≤9223372036854775807:=by unfold eH;rw[Bool.and_eq_true,decide_eq_true_eq,decide_eq_true_eq]
theorem Lg: ∀{l:List Int},l.all eH=true→zW l=Zm l
 |[],_=>rfl
 |z::l,h=>by
  rw[List.all_cons,Bool.and_eq_true]at h;have:=Ry.1 h.1;rw[zW,Zm,ug this.1 this.2,Lg h.2]

def E4(w:World):Prop:=Lib.TabIs Tryz.prog w "internal/strconv.uint64pow10" .u64 Lib.pow10Tab
theorem E4.below{w w':World}(h:E4 w)(hb:Below w.heap.size w w'):E4 w':=Lib.tabBelow_of_tabIs h w' hb

noncomputable def Ik:List AV→St→Option (AV×St)
 |[.nils],st=>some (.str [],st)
 |[.sl c m 0 len 1],st=>match st.h.get c with
  |some (.row false ms)=>match ms[m]? with
   |some (e,vs,some l)=>match XR (l.take len)with
    |some zs=>if zs.length=len∧len≤1000000∧zs.all eH=true then some (.str (zW zs),st)else none
    |none=>none
   |_=>none
  |_=>none
 |_,_=>none
theorem Gr(zs:List Int):(⟨(Ed zs).toArray⟩:ByteArray)=bytesOf (Zm zs):=by
 unfold bytesOf;rw[←uc,List.map_map]
 have:(UInt8.ofNat∘UInt8.toNat)=id:=by funext x;simp
 rw[this,List.map_id]
theorem SU{G:Env}(hI: ∀w0 w,G.i w0→Below w0.heap.size w0 w→E4 w):GH Tryz.prog G 87 Ik:=by
 intro args st v st' hs hf ha;have hr:Real Tryz.prog 87:=⟨_,Tryz.func87,rfl,by decide⟩;unfold Ik at hs
 split at hs
 ·injection hs with hs
  injection hs with e1 e2
  subst e1 e2;refine⟨hr,fun w0 p w H hG=>⟨Ab.refl _,?_⟩⟩;have h:=SV none 0 0 0 [] w QA (fun j hj=>absurd hj QA) (fun h=>absurd h QA) QA (hI w0 w hG.2 H.under);refine h.mono fun e w' he=>?_;obtain⟨rfl,hb⟩:=he;exact⟨p,by rw[Gr];rfl,H.AQ hb,fun x hx=>by cases hx⟩
 ·rename_i c m len
  split at hs
  ·rename_i ms hc
   split at hs
   ·rename_i e vs l hm
    split at hs
    ·rename_i zs hzs
     split at hs
     ·rename_i hcond;obtain⟨hlen,h1M,hall⟩:=hcond
      injection hs with hs
      injection hs with e1 e2
      subst e1 e2;have hbz: ∀z∈zs,-9223372036854775808≤z∧z≤9223372036854775807:=fun z hz=>Ry.1 (List.all_eq_true.1 hall z hz);refine⟨hr,fun w0 p w H hG=>⟨Ab.refl _,?_⟩⟩;have hR:=H.cls c _ hc;obtain⟨q,arr,el,g1,g2,g3,g4,g5,g6⟩:=hR.mem m e vs (some l) hm;obtain⟨k1,k2⟩:=g6 l rfl;have hb:=g2.own;have hblt:=(Array.getElem?_eq_some_iff.1 hb).1;have hzl:l.take len=zs.map Hc:=Gu hzs
      have hH:Holds (Value.int .i64) w q.b q.d zs.toArray:=by
       intro j hj
       have hj':j<zs.length:=by simpa using hj
       refine⟨?_,by simp[World.frozen?,hb]⟩
       have ha1:l[j]? =some (Hc zs[j]):=by
        have h:=congrArg (fun x=>x[j]?) hzl;simp only[List.getElem?_map,List.getElem?_eq_getElem hj']at h;rw[List.getElem?_take_of_lt Qe]at h;exact h
       obtain⟨j1,_,_⟩:=k2 j _ ha1;simp only[World.cell?,hb];simp only[Option.isSome_none,Bool.false_eq_true,if_false];rw[j1];simp[hj',Hc,Qi]
      have hargs:(Qs p [AV.sl c m 0 len 1]).toArray= #[.slice (some ⟨q.b,q.d,none⟩) zs.length q.e]:=by
       show #[Qi p (AV.sl c m 0 len 1)]=_;simp only[Qi,g1];rw[hlen];simp
      rw[hargs];refine(SV (some ⟨q.b,q.d,none⟩) q.b q.d q.e zs w hbz hH (fun _=>⟨rfl,hblt⟩) Qe (hI w0 w hG.2 H.under)).mono fun e' w' he=>?_;obtain⟨rfl,hb'⟩:=he;refine⟨p,?_,H.AQ hb',?_⟩
      ·rw[Gr,←Lg hall];rfl
      ·rw[Lg hall];exact Nt zs
     ·cases hs
    ·cases hs
   ·cases hs
  ·cases hs
 ·cases hs
theorem CA{P:Program}{G G':Env}(hG0: ∀g,G.g g=false)(hE:Ks P G)(hI: ∀w0 w,G'.i w0→Below w0.heap.size w0 w→G.i w)(hm:P.follows .mixedOrders=true){f:FuncId}{L fuel n:Nat}(h:isTrue (Uf P G L fuel f [] ⟨n,.nil⟩)=true):GH P G' f GX:=by
 intro args st v st' hs hf ha
 cases args with
 |cons a l=>cases hs
 |nil=>
  injection hs with hs
  injection hs with e1 e2
  subst e1 e2
  obtain⟨⟨u,st2⟩,h1⟩: ∃r,Uf P G L fuel f [] ⟨n,.nil⟩=some r:=by
   cases hr:Uf P G L fuel f [] ⟨n,.nil⟩with
   |none=>rw[hr]at h;cases h
   |some r=>exact⟨r,rfl⟩
  refine⟨(Cc (BR hm) hE L fuel f [] _ _ _ h1 (fun _ _=>rfl) trivial).1,fun w0 p w H hG=>⟨Ab.refl _,?_⟩⟩;refine(Pb hG0 hE hm (args:=[]) (by simp[Zp]) h w (hI w0 w hG.2 H.under)).mono fun e w' he=>?_;obtain⟨rfl,hb⟩:=he;exact⟨p,rfl,H.AQ hb,trivial⟩

noncomputable section
def qB:List (FuncId×(List AV→St→Option (AV×St))):=
 (87,Ik)::
 (67,Zk Aj Em id)::
 []
def eJ:Env:=⟨fun _=>false,Td Tw,Gy qB,E4⟩
end
theorem xh:Ks Tryz.prog eJ:=⟨fun f q h=>Pm (f,q) (Gz h),fun f sm h=>by
 have h:Gy qB f=some sm:=h;have h:=Gx h;unfold qB at h;rcases List.mem_cons.1 h with h|h
 ·injection h with e1 e2;subst e1 e2;exact SU fun w0 w h hb=>E4.below h hb
 rcases List.mem_cons.1 h with h|h
 ·injection h with e1 e2;subst e1 e2;exact HU
 cases h⟩
end Go.Proofs.YtiknomepbklibaaGreatDoor
end
section
namespace Go.Proofs.YtiknomepbklibaaGreatDoor
open Go

theorem BJ:isTrue (Uf Tryz.prog eJ 10000 1000 22 [] ⟨0,.nil⟩)=true:=by decide+kernel

end Go.Proofs.YtiknomepbklibaaGreatDoor
end
section
namespace Go.Proofs.YtiknomepbklibaaGreatDoor
open Go Go.RowKit Go.Shelf Go.Sort

noncomputable section
def qC:List (FuncId×(List AV→St→Option (AV×St))):=
 (87,Ik)::
 (22,GX)::
 (66,Zk XO LA fun _=>.tup [])::
 (67,Zk Aj Em id)::
 []
def Q5:Env:=⟨fun _=>false,Td Tw,Gy qC,E4⟩
end
theorem xi:Ks Tryz.prog Q5:=⟨fun f q h=>Pm (f,q) (Gz h),fun f sm h=>by
 have h:Gy qC f=some sm:=h;have h:=Gx h;unfold qC at h;rcases List.mem_cons.1 h with h|h
 ·injection h with e1 e2;subst e1 e2;exact SU fun w0 w h hb=>E4.below h hb
 rcases List.mem_cons.1 h with h|h
 ·injection h with e1 e2;subst e1 e2;exact CA (fun _=>rfl) xh (fun w0 w h hb=>E4.below h hb) mixed BJ
 rcases List.mem_cons.1 h with h|h
 ·injection h with e1 e2;subst e1 e2;exact TG
 rcases List.mem_cons.1 h with h|h
 ·injection h with e1 e2;subst e1 e2;exact HU
 cases h⟩
theorem Rp(st:St):Ev Tryz.prog Q5 22 [] st (.bool true) st:=⟨0,1,rfl⟩
end Go.Proofs.YtiknomepbklibaaGreatDoor
end
section
namespace Go.Proofs.YtiknomepbklibaaGreatDoor
open Go

theorem Qr:tk Tryz.prog 3=.one:=by kernel_rfl
theorem Ly:YM Tryz.prog 3=some 1:=by kernel_rfl
theorem Vs:zeroOf Tryz.prog 3=some [.int .i64 0]:=by kernel_rfl
theorem Yh:Tryz.prog.underlying 3=some (.int .i64):=by kernel_rfl
theorem J0:tk Tryz.prog 4=.one:=by kernel_rfl
theorem A9:YM Tryz.prog 4=some 1:=by kernel_rfl
theorem XZ:zeroOf Tryz.prog 4=some [.bool false]:=by kernel_rfl
theorem Yq:Tryz.prog.underlying 4=some (.bool):=by kernel_rfl
theorem Ii:tk Tryz.prog 9=.one:=by kernel_rfl
theorem OP:zeroOf Tryz.prog 9=some [.str []]:=by kernel_rfl
theorem Wu:Tryz.prog.underlying 9=some (.string):=by kernel_rfl
theorem IT:Tryz.prog.underlying 142=some (.slice 9):=by kernel_rfl
theorem QR:U1 Tryz.prog 142=some 1:=by kernel_rfl
theorem Zj:Tryz.prog.underlying 58=some (.int .u64):=by kernel_rfl
theorem CJ:Fu Tryz.prog 142 9 1:=⟨IT,by kernel_rfl,⟨_,OP,rfl⟩,by kernel_rfl,by decide,by decide+kernel⟩
end Go.Proofs.YtiknomepbklibaaGreatDoor
end
section
namespace Go.Proofs.YtiknomepbklibaaGreatDoor
open Go

theorem Oh:tk Tryz.prog 42=.one:=by kernel_rfl
theorem JZ:Tryz.prog.underlying 42=some (.slice 44):=by kernel_rfl
theorem JD:U1 Tryz.prog 42=some 6:=by kernel_rfl
theorem QX:tk Tryz.prog 44=.agg 6:=by kernel_rfl
theorem ZL:YM Tryz.prog 44=some 6:=by kernel_rfl
theorem YT:zeroOf Tryz.prog 44=some [.str [],.int .i64 0,.int .i64 0,.int .i64 0,.int .i64 0,.nils]:=by kernel_rfl
theorem OD:QK Tryz.prog 44 0=some 0:=by kernel_rfl
theorem OC:QK Tryz.prog 44 1=some 1:=by kernel_rfl
theorem OB:QK Tryz.prog 44 2=some 2:=by kernel_rfl
theorem OA:QK Tryz.prog 44 3=some 3:=by kernel_rfl
theorem O9:QK Tryz.prog 44 4=some 4:=by kernel_rfl
theorem O8:QK Tryz.prog 44 5=some 5:=by kernel_rfl
theorem CG:Cs Tryz.prog 44 [(0,1),(1,1),(2,1),(3,1),(4,1),(5,1)] [.str [],.int .i64 0,.int .i64 0,.int .i64 0,.int .i64 0,.nils]:=⟨⟨_,Tryz.underlying44,by kernel_rfl,by kernel_rfl⟩,YT⟩
theorem OU:tk Tryz.prog 177=.agg 2:=by kernel_rfl
theorem TB:YM Tryz.prog 177=some 2:=by kernel_rfl
theorem ZJ:zeroOf Tryz.prog 177=some [.int .i64 0,.int .i64 0]:=by kernel_rfl
theorem Ja:tk Tryz.prog 54=.one:=by kernel_rfl
theorem C9:YM Tryz.prog 54=some 1:=by kernel_rfl
theorem Uv:zeroOf Tryz.prog 54=some [.nils]:=by kernel_rfl
theorem Jr:Tryz.prog.underlying 54=some (.slice 3):=by kernel_rfl
theorem Qw:U1 Tryz.prog 54=some 1:=by kernel_rfl
theorem Zu:Fu Tryz.prog 42 44 6:=⟨JZ,by kernel_rfl,⟨_,YT,rfl⟩,by kernel_rfl,by decide,by decide+kernel⟩
theorem QM:Fu Tryz.prog 54 3 1:=⟨Jr,by kernel_rfl,⟨_,Vs,rfl⟩,by kernel_rfl,by decide,by decide+kernel⟩
end Go.Proofs.YtiknomepbklibaaGreatDoor
end
section
namespace Go.Proofs.YtiknomepbklibaaGreatDoor
open Go Go.RowKit

structure Fw{K:Type}(h:Hp)(z:Nat)(R:K→List AV→Prop)(l:List K)(kk:AV)(ls:List (List AV)):Prop where
 r:Jk h [] z ls kk
 ln:ls.length=l.length
 at_: ∀(i:Nat) (k:K),l[i]? =some k→ ∃cs,ls[i]? =some cs∧R k cs
def zC(l:List Int):List (List AV):=l.map fun z=>[AV.int .i64 z]
theorem Qn(l:List Int):(zC l).length=l.length:=by simp[zC]
theorem Jt{l:List Int}{i:Nat}{z:Int}(h:l[i]? =some z):(zC l)[i]? =some [AV.int .i64 z]:=by rw[zC,List.getElem?_map,h];rfl
theorem JY(a b:List Int):zC (a++b)=zC a++zC b:=by simp[zC]
theorem Fz(l:List Int): ∀cs∈zC l,cs.length=1:=by
 intro cs h;obtain⟨s,_,rfl⟩:=List.mem_map.1 h;rfl
def Vm(l:List Int):Prop:= ∀z∈l,-9223372036854775808≤z∧z≤9223372036854775807
def aD(z:Int)(cs:List AV):Prop:=cs=[.int .i64 z]∧ -9223372036854775808≤z∧z≤9223372036854775807
theorem KV{H:Type}{h:Hp}{xs:List AV}{d:DataW H}(r:Rd Tryz.prog h 3 xs d): ∃z:Int,aD z xs:=by
 cases r with
 |bool ht=>rw[Yh]at ht;cases ht
 |int ht hw=>
  rw[Yh]at ht
  injection ht with ht
  injection ht with ht
  subst ht;simp only[Lit.wf,Bool.and_eq_true,decide_eq_true_eq]at hw;refine⟨_,rfl,?_⟩
  first
   |exact hw
   |(have h1:IntKind.i64.wrap _=_:=hw;have:=IntWalk.i64_bounds h1;exact this)
   |skip
 |str ht hs=>rw[Yh]at ht;cases ht
 |nil ht=>rw[Yh]at ht;cases ht
 |none ht=>rw[Yh]at ht;cases ht
 |row ht hz' hr hl he hm hd=>rw[Yh]at ht;cases ht
 |agg ht hl hp hd=>rw[Yh]at ht;cases ht
end Go.Proofs.YtiknomepbklibaaGreatDoor
end
section
namespace Go.Proofs.YtiknomepbklibaaGreatDoor
open Go

theorem Q6:tk Tryz.prog 23=.one:=by kernel_rfl
theorem Uz:YM Tryz.prog 23=some 1:=by kernel_rfl
theorem J6:Tryz.prog.underlying 23=some (.slice 54):=by kernel_rfl
theorem QY:U1 Tryz.prog 23=some 1:=by kernel_rfl
theorem YX:tk Tryz.prog 68=.one:=by kernel_rfl
theorem ED:Tryz.prog.underlying 68=some (.pointer 97):=by kernel_rfl
theorem Z1:tk Tryz.prog 95=.one:=by kernel_rfl
theorem GJ:zeroOf Tryz.prog 97=some [.nils,.nilm]:=by kernel_rfl
theorem Zd:QK Tryz.prog 97 0=some 0:=by kernel_rfl
theorem Ae:QK Tryz.prog 97 1=some 1:=by kernel_rfl
theorem GY:Cs Tryz.prog 97 [(0,1),(1,1)] [.nils,.nilm]:=⟨⟨_,Tryz.underlying97,by kernel_rfl,by kernel_rfl⟩,GJ⟩
theorem QU:Fu Tryz.prog 23 54 1:=⟨J6,by kernel_rfl,⟨_,Uv,rfl⟩,by kernel_rfl,by decide,by decide+kernel⟩
theorem Eu:Tryz.prog.underlying 95=some (.map 9 3):=by kernel_rfl
end Go.Proofs.YtiknomepbklibaaGreatDoor
end
section
namespace Go.Proofs.YtiknomepbklibaaGreatDoor
open Go

section
variable {P:Program} {G:Env} {K:List (Nat×AV)} {st:St} {t yt e:TypeId} {x y:Operand}
theorem Y6{c m o:Nat}(ht:P.underlying t=some (.pointer e))(hx:Jb G K x=some (.ptr c m o))(hy:Jb G K y=some .nilp):U4 P G K (.binOp .eql t x y yt) st (.bool false) st:=
 UO hx hy (by
  show QN (Ek (P.underlying t) (.ptr c m o)) (ob (Ey (.ptr c m o) .nilp) fun b=>some (AV.bool b))=_
  rw[ht];rfl)
theorem KY{c m o:Nat}(ht:P.underlying t=some (.pointer e))(hx:Jb G K x=some (.ptr c m o))(hy:Jb G K y=some .nilp):U4 P G K (.binOp .neq t x y yt) st (.bool true) st:=
 UO hx hy (by
  show QN (Ek (P.underlying t) (.ptr c m o)) (ob (Ey (.ptr c m o) .nilp) fun b=>some (AV.bool !b))=_
  rw[ht];rfl)
end
end Go.Proofs.YtiknomepbklibaaGreatDoor
end
section
namespace Go.Proofs.YtiknomepbklibaaGreatDoor
open Go
variable {G:Env} {K:List (Nat×AV)} {P:Program} {e t:TypeId} {n:Nat} {st:St}

theorem AF{x i:Operand}{c m off z:Nat}{k:IntKind}{j:Nat}(he:Wk P t=some (n,e))(hz:P.cellsOf e=z)(hx:Jb G K x=some (.ptr c m off))(hi:Jb G K i=some (.int k (j:Int)))(hj:j<n):
  U4 P G K (.indexAddr t x i) st (.ptr c m (off+j *z)) st:=.of fun T hT cc d ty pos af g=>by
 show ret (ob (QJ G T x) fun x=>ob (QJ G T i) fun i=>Yj P t x i) st=_;rw[hT.QJ hx,hT.QJ hi,Ql,Ql];show ret (ob (Og (j:Int)) fun i=>ob (Wk P t) fun q=>QN (Nat.ble (i+1) q.1) (UB (off+i *P.cellsOf q.2) fun o=>some (AV.ptr c m o))) st=_;show ret (ob (Wk P t) fun q=>QN (Nat.ble (j+1) q.1) (UB (off+j *P.cellsOf q.2) fun o=>some (AV.ptr c m o))) st=_;rw[he,Ql];show ret (QN (Nat.ble (j+1) n) (UB (off+j *P.cellsOf e) fun o=>some (AV.ptr c m o))) st=_;rw[Nat.ble_eq_true_of_le hj,hz];show ret (UB (off+j *z) fun o=>some (AV.ptr c m o)) st=_;rw[Ji];rfl
theorem Lj:Wk Tryz.prog 177=some (2,3):=by kernel_rfl
theorem Xf:Program.cellsOf Tryz.prog 3=1:=by kernel_rfl
theorem A8:Tryz.prog.underlying 177=some (.array 2 3):=by kernel_rfl
theorem ZN{parts:Array (Nat×Operand)}{k:Nat}{z r:List AV}{ps:List (Nat×AV)}(u:P.underlying t=some (.array n e))(ue:(P.underlying e).isSome=true)(hk:P.cellsOf e=k)(hz:zeroOf P t=some z)(hp:Zq (Jb G K) parts=some ps)(hf:XH (fun i=>some (i *k,k)) ps z=some r):
  U4 P G K (.build t parts) st (.agg r) st:=.of fun T hT c d ty pos af g=>by
 show ret (Wj P t parts (QJ G T)) st=_;unfold Wj;simp only[u,ue,QO,hz,Ql,hT.parts hp,hk,hf,Ub];rfl
theorem Ig:(Tryz.prog.underlying 3).isSome=true:=by kernel_rfl
theorem G2(a b x y:Int):Yz Tryz.prog 177 [.int .i64 a,.int .i64 b] [.int .i64 x,.int .i64 y]=some (Qo (FJ a x) (FJ b y) false):=by kernel_rfl
def eD:AV→Bool
 |.nils=>true
 |_=>false
theorem Ge{yt:TypeId}{x y:Operand}{kb:AV}(hn:YB kb=some n)(ht:P.underlying t=some (.slice e))(hx:Jb G K x=some kb)(hy:Jb G K y=some .nils):U4 P G K (.binOp .eql t x y yt) st (.bool (eD kb)) st:=
 UO hx hy (by
  cases kb<;>first|(cases hn;done)|skip
  all_goals
   show QN (Ek (P.underlying t) _) (ob (Ey _ .nils) fun b=>some (AV.bool b))=_
   rw[ht];rfl)
theorem SK{kb:AV}(h:eD kb=true):kb=.nils:=by cases kb<;>first|rfl|cases h
end Go.Proofs.YtiknomepbklibaaGreatDoor
end
