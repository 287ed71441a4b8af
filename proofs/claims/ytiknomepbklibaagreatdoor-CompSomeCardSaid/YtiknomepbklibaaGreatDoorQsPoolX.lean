/-
  slices.Sort, slices.Compact at numbers and strconv.AppendInt, by the library's contracts: the numbers of this program put in.
-/
import Derived.Shelf.Sort.Plain
import Derived.Shelf.Slices.CompactI
import Derived.Shelf.Slices.In.SortNone
import Derived.Shelf.Strconv.AppendIntPublic10
import Derived.Lib.SlicesCompact
import Derived.Lib.ItoaNum
import Derived.Test.YtiknomepbklibaaGreatDoorQsSy2
import Derived.Lib.AppendIntMem
import Derived.Lib.ItoaLen
import Derived.Lib.Slices
import Derived.Lib.Hide
import Derived.Laws.IdiomStrings
import Derived.OwnWalk
import Derived.WalkKit
import Derived.BigCall
import Derived.ChangeShapes
import Derived.ChangeOld
import Derived.Below
import Derived.Carry
set_option maxRecDepth 1000000
set_option linter.unusedVariables false
namespace Go.Proofs.YtiknomepbklibaaGreatDoor
section
open Go Go.RowKit Go.Shelf

def ik:Ren:=⟨
 fun n=>if n=125 then 90 else if n=128 then 122 else if n=129 then 123 else if n=189 then 66 else if n=215 then 149 else if n=216 then 119 else if n=257 then 89 else if n=294 then 113 else if n=295 then 114 else if n=296 then 115 else if n=297 then 116 else if n=298 then 117 else if n=299 then 118 else if n=300 then 120 else if n=301 then 121 else if n=328 then 144 else if n=329 then 145 else if n=330 then 146 else if n=331 then 147 else if n=332 then 148 else if n=343 then 173 else 0,
 fun n=>if n=0 then 0 else if n=3 then 3 else if n=4 then 4 else if n=5 then 5 else if n=9 then 9 else if n=28 then 54 else if n=46 then 58 else if n=51 then 154 else if n=53 then 156 else if n=131 then 59 else if n=182 then 146 else if n=183 then 147 else if n=218 then 185 else if n=222 then 189 else if n=228 then 204 else if n=229 then 205 else 0,
 fun _=>0⟩

set_option maxRecDepth 100000 in
theorem Tu:Lays.n189 Tryz.prog ik:={
 mixed:=by kernel_rfl
 f125:=by kernel_rfl
 f128:=by kernel_rfl
 f129:=by kernel_rfl
 f189:=by kernel_rfl
 f215:=by kernel_rfl
 f216:=by kernel_rfl
 f257:=by kernel_rfl
 f294:=by kernel_rfl
 f295:=by kernel_rfl
 f296:=by kernel_rfl
 f297:=by kernel_rfl
 f298:=by kernel_rfl
 f299:=by kernel_rfl
 f300:=by kernel_rfl
 f301:=by kernel_rfl
 f328:=by kernel_rfl
 f329:=by kernel_rfl
 f330:=by kernel_rfl
 f331:=by kernel_rfl
 f332:=by kernel_rfl
 f343:=by kernel_rfl
 t0:=by kernel_rfl
 a0:=fun _=>by kernel_rfl
 z0:=fun _=>by kernel_rfl
 v0:=fun _=>by kernel_rfl
 t3:=by kernel_rfl
 a3:=fun _=>by kernel_rfl
 z3:=fun _=>by kernel_rfl
 v3:=fun _=>by kernel_rfl
 t4:=by kernel_rfl
 a4:=fun _=>by kernel_rfl
 z4:=fun _=>by kernel_rfl
 v4:=fun _=>by kernel_rfl
 t5:=by kernel_rfl
 a5:=fun _=>by kernel_rfl
 z5:=fun _=>by kernel_rfl
 v5:=fun _=>by kernel_rfl
 t9:=by kernel_rfl
 a9:=fun _=>by kernel_rfl
 z9:=fun _=>by kernel_rfl
 v9:=fun _=>by kernel_rfl
 t28:=by kernel_rfl
 a28:=fun _=>by kernel_rfl
 z28:=fun _=>by kernel_rfl
 v28:=fun _=>by kernel_rfl
 t46:=by kernel_rfl
 a46:=fun _=>by kernel_rfl
 z46:=fun _=>by kernel_rfl
 v46:=fun _=>by kernel_rfl
 t51:=by kernel_rfl
 a51:=fun _=>by kernel_rfl
 z51:=fun _=>by kernel_rfl
 v51:=fun _=>by kernel_rfl
 t53:=by kernel_rfl
 a53:=fun _=>by kernel_rfl
 z53:=fun _=>by kernel_rfl
 v53:=fun _=>by kernel_rfl
 t131:=by kernel_rfl
 a131:=fun _=>by kernel_rfl
 z131:=fun _=>by kernel_rfl
 v131:=fun _=>by kernel_rfl
 t182:=by kernel_rfl
 a182:=fun _=>by kernel_rfl
 z182:=fun _=>by kernel_rfl
 v182:=fun _=>by kernel_rfl
 t183:=by kernel_rfl
 a183:=fun _=>by kernel_rfl
 z183:=fun _=>by kernel_rfl
 v183:=fun _=>by kernel_rfl
 t218:=by kernel_rfl
 a218:=fun _=>by kernel_rfl
 z218:=fun _=>by kernel_rfl
 v218:=fun _=>by kernel_rfl
 t222:=by kernel_rfl
 a222:=fun _=>by kernel_rfl
 z222:=fun _=>by kernel_rfl
 v222:=fun _=>by kernel_rfl
 t228:=by kernel_rfl
 a228:=fun _=>by kernel_rfl
 z228:=fun _=>by kernel_rfl
 v228:=fun _=>by kernel_rfl
 t229:=by kernel_rfl
 a229:=fun _=>by kernel_rfl
 z229:=fun _=>by kernel_rfl
 v229:=fun _=>by kernel_rfl}
def il:Ren:=⟨
 fun n=>if n=20 then 67 else 0,
 fun n=>if n=0 then 0 else if n=3 then 3 else if n=4 then 4 else if n=22 then 54 else 0,
 fun _=>0⟩

set_option maxRecDepth 100000 in
theorem uG:Lays2.n20 Tryz.prog il:={
 mixed:=by kernel_rfl
 f20:=by kernel_rfl
 t0:=by kernel_rfl
 a0:=fun _=>by kernel_rfl
 z0:=fun _=>by kernel_rfl
 v0:=fun _=>by kernel_rfl
 t3:=by kernel_rfl
 a3:=fun _=>by kernel_rfl
 z3:=fun _=>by kernel_rfl
 v3:=fun _=>by kernel_rfl
 t4:=by kernel_rfl
 a4:=fun _=>by kernel_rfl
 z4:=fun _=>by kernel_rfl
 v4:=fun _=>by kernel_rfl
 t22:=by kernel_rfl
 a22:=fun _=>by kernel_rfl
 z22:=fun _=>by kernel_rfl
 v22:=fun _=>by kernel_rfl
 i3:=by kernel_rfl}
def ff:Ren:=⟨
 fun n=>if n=129 then 123 else if n=176 then 112 else if n=249 then 143 else if n=283 then 180 else if n=284 then 181 else if n=285 then 182 else if n=286 then 183 else if n=288 then 172 else if n=317 then 187 else if n=318 then 188 else if n=319 then 189 else if n=320 then 190 else if n=337 then 193 else if n=338 then 194 else 0,
 fun n=>if n=0 then 0 else if n=2 then 2 else if n=3 then 3 else if n=4 then 4 else if n=5 then 5 else if n=9 then 9 else if n=20 then 20 else if n=37 then 143 else if n=46 then 58 else if n=51 then 154 else if n=53 then 156 else if n=171 then 213 else if n=173 then 215 else if n=212 then 218 else if n=213 then 219 else if n=232 then 221 else if n=233 then 222 else 0,
 fun n=>if n=17 then 0 else if n=18 then 1 else if n=19 then 2 else 0⟩

set_option maxRecDepth 100000 in
theorem vf:Lays.n176 Tryz.prog ff:={
 mixed:=by kernel_rfl
 f129:=by kernel_rfl
 f176:=by kernel_rfl
 f249:=by kernel_rfl
 f283:=by kernel_rfl
 f284:=by kernel_rfl
 f285:=by kernel_rfl
 f286:=by kernel_rfl
 f288:=by kernel_rfl
 f317:=by kernel_rfl
 f318:=by kernel_rfl
 f319:=by kernel_rfl
 f320:=by kernel_rfl
 f337:=by kernel_rfl
 f338:=by kernel_rfl
 t0:=by kernel_rfl
 a0:=fun _=>by kernel_rfl
 z0:=fun _=>by kernel_rfl
 v0:=fun _=>by kernel_rfl
 t2:=by kernel_rfl
 a2:=fun _=>by kernel_rfl
 z2:=fun _=>by kernel_rfl
 v2:=fun _=>by kernel_rfl
 t3:=by kernel_rfl
 a3:=fun _=>by kernel_rfl
 z3:=fun _=>by kernel_rfl
 v3:=fun _=>by kernel_rfl
 t4:=by kernel_rfl
 a4:=fun _=>by kernel_rfl
 z4:=fun _=>by kernel_rfl
 v4:=fun _=>by kernel_rfl
 t5:=by kernel_rfl
 a5:=fun _=>by kernel_rfl
 z5:=fun _=>by kernel_rfl
 v5:=fun _=>by kernel_rfl
 t9:=by kernel_rfl
 a9:=fun _=>by kernel_rfl
 z9:=fun _=>by kernel_rfl
 v9:=fun _=>by kernel_rfl
 t20:=by kernel_rfl
 a20:=fun _=>by kernel_rfl
 z20:=fun _=>by kernel_rfl
 v20:=fun _=>by kernel_rfl
 t37:=by kernel_rfl
 a37:=fun _=>by kernel_rfl
 z37:=fun _=>by kernel_rfl
 v37:=fun _=>by kernel_rfl
 t46:=by kernel_rfl
 a46:=fun _=>by kernel_rfl
 z46:=fun _=>by kernel_rfl
 v46:=fun _=>by kernel_rfl
 t51:=by kernel_rfl
 a51:=fun _=>by kernel_rfl
 z51:=fun _=>by kernel_rfl
 v51:=fun _=>by kernel_rfl
 t53:=by kernel_rfl
 a53:=fun _=>by kernel_rfl
 z53:=fun _=>by kernel_rfl
 v53:=fun _=>by kernel_rfl
 t171:=by kernel_rfl
 a171:=fun _=>by kernel_rfl
 z171:=fun _=>by kernel_rfl
 v171:=fun _=>by kernel_rfl
 t173:=by kernel_rfl
 a173:=fun _=>by kernel_rfl
 z173:=fun _=>by kernel_rfl
 v173:=fun _=>by kernel_rfl
 t212:=by kernel_rfl
 a212:=fun _=>by kernel_rfl
 z212:=fun _=>by kernel_rfl
 v212:=fun _=>by kernel_rfl
 t213:=by kernel_rfl
 a213:=fun _=>by kernel_rfl
 z213:=fun _=>by kernel_rfl
 t232:=by kernel_rfl
 a232:=fun _=>by kernel_rfl
 z232:=fun _=>by kernel_rfl
 v232:=fun _=>by kernel_rfl
 t233:=by kernel_rfl
 a233:=fun _=>by kernel_rfl
 z233:=fun _=>by kernel_rfl
 v233:=fun _=>by kernel_rfl
 g17:=by kernel_rfl
 g18:=by kernel_rfl
 g19:=by kernel_rfl}
set_option maxRecDepth 100000 in
theorem uF:LaysM.n176 Tryz.prog ff:={
 ton176:=vf
 i0:=by kernel_rfl
 i2:=by kernel_rfl
 i3:=by kernel_rfl
 i4:=by kernel_rfl
 i5:=by kernel_rfl
 i9:=by kernel_rfl
 i20:=by kernel_rfl
 i37:=by kernel_rfl
 i46:=by kernel_rfl
 i51:=by kernel_rfl
 i53:=by kernel_rfl
 i171:=by kernel_rfl
 i173:=by kernel_rfl
 i212:=by kernel_rfl
 i232:=by kernel_rfl
 i233:=by kernel_rfl
 m17:=by kernel_rfl
 m18:=by kernel_rfl
 m19:=by kernel_rfl}
end
section
open Go

def Wg(l:List Int):Prop:=l.Pairwise (· < ·)
def Xl(x:Int):List Int→List Int
 |[]=>[x]
 |y::l=>if y<x then y::Xl x l else if y=x then y::l else x::y::l
def JP(l:List Int):List Int:=l.foldl (fun out x=>Xl x out) []
theorem Dv: ∀{a b:List Int},Wg a→Wg b→(∀x,x∈a↔x∈b)→a=b:=by
 intro a
 induction a with
 |nil=>
  intro b _ _ h
  cases b with
  |nil=>rfl
  |cons y b=>exact absurd ((h y).2 (List.mem_cons_self ..)) Q4
 |cons x a ih=>
  intro b ha hb h
  cases b with
  |nil=>exact absurd ((h x).1 (List.mem_cons_self ..)) Q4
  |cons y b=>
   obtain⟨ha1,ha2⟩:=List.pairwise_cons.1 ha;obtain⟨hb1,hb2⟩:=List.pairwise_cons.1 hb
   have hxy:x=y:=by
    rcases List.mem_cons.1 ((h x).1 (List.mem_cons_self ..))with e|e
    ·exact e
    ·rcases List.mem_cons.1 ((h y).2 (List.mem_cons_self ..))with e'|e'
     ·exact e'.symm
     ·have:=hb1 _ e;have:=ha1 _ e';omega
   subst hxy
   congr 1
   refine ih ha2 hb2 fun z=>⟨fun hz=>?_,fun hz=>?_⟩
   ·rcases List.mem_cons.1 ((h z).1 (List.mem_cons_of_mem _ hz))with e|e
    ·have:=ha1 _ hz;omega
    ·exact e
   ·rcases List.mem_cons.1 ((h z).2 (List.mem_cons_of_mem _ hz))with e|e
    ·have:=hb1 _ hz;omega
    ·exact e
theorem D9(x z:Int)(l:List Int):z∈Xl x l↔z=x∨z∈l:=by
 induction l with
 |nil=>simp[Xl]
 |cons y l ih=>
  rw[Xl]
  split
  ·rw[List.mem_cons,ih,List.mem_cons];constructor
   ·rintro(h|h|h)
    ·exact .inr (.inl h)
    ·exact .inl h
    ·exact .inr (.inr h)
   ·rintro(h|h|h)
    ·exact .inr (.inl h)
    ·exact .inl h
    ·exact .inr (.inr h)
  ·split
   ·rename_i h;subst h;simp
   ·simp
theorem Mm(x:Int){l:List Int}(h:Wg l):Wg (Xl x l):=by
 induction l with
 |nil=>exact List.pairwise_singleton _ _
 |cons y l ih=>
  obtain⟨h1,h2⟩:=List.pairwise_cons.1 h;rw[Xl]
  split
  ·rename_i hlt;refine List.pairwise_cons.2 ⟨fun z hz=>?_,ih h2⟩;rcases(D9 x z l).1 hz with e|e
   ·omega
   ·exact h1 z e
  ·split
   ·exact h
   ·rename_i hlt hne;refine List.pairwise_cons.2 ⟨fun z hz=>?_,h⟩;rcases List.mem_cons.1 hz with e|e
    ·omega
    ·have:=h1 z e;omega
theorem HJ(l:List Int): ∀acc,Wg acc→Wg (l.foldl (fun out x=>Xl x out) acc)∧ ∀z,z∈l.foldl (fun out x=>Xl x out) acc↔z∈acc∨z∈l:=by
 induction l with
 |nil=>intro acc h;exact⟨h,by simp⟩
 |cons x l ih=>
  intro acc h;obtain⟨h1,h2⟩:=ih (Xl x acc) (Mm x h);refine⟨h1,fun z=>?_⟩;rw[List.foldl_cons,h2,D9,List.mem_cons];constructor
  ·rintro((h|h)|h)
   ·exact .inr (.inl h)
   ·exact .inl h
   ·exact .inr (.inr h)
  ·rintro(h|h|h)
   ·exact .inl (.inr h)
   ·exact .inl (.inl h)
   ·exact .inr h
theorem Vo(l:List Int):Wg (JP l):=(HJ l [] List.Pairwise.nil).1
theorem XM(l:List Int)(z:Int):z∈JP l↔z∈l:=by
 have:=(HJ l [] List.Pairwise.nil).2 z;unfold JP
 simpa using this
theorem BV{zs:List Int}{x:Int}:x∈Lib.compact zs↔x∈zs:=by
 unfold Lib.compact Lib.compactUpTo;constructor
 ·intro h;obtain⟨i,hi,rfl⟩:=List.mem_map.1 h;have hi':i<zs.length:=List.mem_range.1 (List.mem_filter.1 hi).1;simp[getElem!_pos,hi']
 ·intro h;obtain⟨i,hi,rfl⟩:=List.getElem_of_mem h;rw[List.mem_map]
  have: ∀j (hj:j<zs.length),zs[j]=zs[i]→ ∃a,a∈(List.range zs.length).filter (Lib.keeps zs.toArray)∧(zs.toArray)[a]! =zs[i]:=by
   intro j
   induction j with
   |zero=>intro hj e;exact⟨0,List.mem_filter.2 ⟨List.mem_range.2 hj,by simp[Lib.keeps]⟩,by simp[getElem!_pos,hj,e]⟩
   |succ j ih=>
    intro hj e
    by_cases h2:zs[j]=zs[j+1]
    ·exact ih Qc (h2.trans e)
    ·refine⟨j+1,List.mem_filter.2 ⟨List.mem_range.2 hj,?_⟩,by simp[getElem!_pos,hj,e]⟩;apply Lib.keeps_pos
     have:j<zs.length:=by omega
     simp[getElem!_pos,hj,this];exact fun e=>h2 e.symm
  exact this i hi rfl
theorem Gk{zs:List Int}(h:zs.Pairwise (· ≤ ·)):Wg (Lib.compact zs):=by
 unfold Wg Lib.compact Lib.compactUpTo;rw[List.pairwise_map];refine List.Pairwise.imp_of_mem ?_ (List.Pairwise.filter _ List.pairwise_lt_range);intro i j hi hj hij;have hj1:=List.mem_filter.1 hj;have hjl:j<zs.length:=List.mem_range.1 hj1.1;have hk:=hj1.2
 have hil:i<zs.length:=by omega
 have hj1l:j-1<zs.length:=by omega
 simp only[Lib.keeps,decide_eq_true_eq]at hk;rcases hk with hk|hk
 ·omega
 ·have e1:zs.toArray[j]! =zs[j]:=by simp[getElem!_pos,hjl]
  have e2:zs.toArray[j-1]! =zs[j-1]:=by simp[getElem!_pos,hj1l]
  have e3:zs.toArray[i]! =zs[i]:=by simp[getElem!_pos,hil]
  rw[e1,e2]at hk;rw[e3,e1];have hle:zs[j-1]≤zs[j]:=List.pairwise_iff_getElem.1 h _ _ _ _ Qc
  by_cases hij':i=j-1
  ·subst hij';omega
  ·have:zs[i]≤zs[j-1]:=List.pairwise_iff_getElem.1 h _ _ _ _ Qc;omega
def XV(zs:List Int):List Int:=zs.mergeSort fun x y=>decide (x≤y)
theorem OK(zs:List Int):(XV zs).Pairwise (· ≤ ·):=by
 have:=List.pairwise_mergeSort (le:=fun x y:Int=>decide (x≤y)) (fun a b c h1 h2=>by simp at *;omega) (fun a b=>by simp;omega) zs
 exact this.imp fun h=>by simpa using h
theorem Lt(zs:List Int):Lib.compact (XV zs)=JP zs:=
 Dv (Gk (OK zs)) (Vo zs) fun x=>by rw[BV,XM];exact List.mem_mergeSort

def GO(n:Int):List Nat:=(Lib.itoa n).map UInt8.toNat
def Zi:List Int→List Nat
 |[]=>[]
 |n::l=>GO n++44::Zi l
def zU(l:List UInt8):Nat:=l.foldl (fun a c=>10 *a+(c.toNat-48)) 0
theorem E8(u:Nat)(h:u<10):(UInt8.ofNat (48+u)).toNat=48+u:=by
 rw[UInt8.toNat_ofNat'];omega
theorem CN(u:Nat):zU (Lib.decDigits u)=u:=by
 induction u using Nat.strongRecOn with
 |_ u ih=>
  rw[Lib.decDigits]
  by_cases h:u<10
  ·rw[dif_pos h];unfold zU;rw[List.foldl_cons,List.foldl_nil,E8 u h];omega
  ·rw[dif_neg h];unfold zU;rw[List.foldl_append,List.foldl_cons,List.foldl_nil,E8 _ (Nat.mod_lt _ Q8)];have:=ih (u/10) Qc;unfold zU at this;rw[this];omega
theorem Fw(u:Nat): ∀c∈Lib.decDigits u,48≤c.toNat∧c.toNat≤57:=by
 induction u using Nat.strongRecOn with
 |_ u ih=>
  intro c hc;rw[Lib.decDigits]at hc
  by_cases h:u<10
  ·rw[dif_pos h]at hc;rw[List.mem_singleton.1 hc,E8 u h];omega
  ·rw[dif_neg h]at hc;rcases List.mem_append.1 hc with hc|hc
   ·exact ih (u/10) Qc c hc
   ·have:=Nat.mod_lt u (show 0<10 by decide);rw[List.mem_singleton.1 hc,E8 _ this];omega
theorem TD{a b:Nat}(h:Lib.decDigits a=Lib.decDigits b):a=b:=by rw[←CN a,h,CN]
theorem uX{a b:Int}(h:Lib.itoa a=Lib.itoa b):a=b:=by
 unfold Lib.itoa at h
 split at h<;>split at h
 ·injection h with _ h
  have:=TD h;omega
 ·have:(45:UInt8)∈Lib.decDigits b.toNat:=by rw[←h];exact List.mem_cons_self ..
  exact absurd (Fw _ _ this).1 Q8
 ·have:(45:UInt8)∈Lib.decDigits a.toNat:=by rw[h];exact List.mem_cons_self ..
  exact absurd (Fw _ _ this).1 Q8
 ·have:=TD h;omega
theorem FI: ∀{a b:List UInt8},a.map UInt8.toNat=b.map UInt8.toNat→a=b
 |[],[],_=>rfl
 |[],_::_,h=>by cases h
 |_::_,[],h=>by cases h
 |x::a,y::b,h=>by
  injection h with h1 h2
  rw[UInt8.toNat_inj.1 h1,FI h2]
theorem MV{a b:Int}(h:GO a=GO b):a=b:=uX (FI h)
theorem DU(n:Int):44∉GO n:=by
 intro h;obtain⟨c,hc,e⟩:=List.mem_map.1 h;unfold Lib.itoa at hc
 split at hc
 ·rcases List.mem_cons.1 hc with rfl|hc
  ·exact absurd e Q8
  ·have:=Fw _ _ hc;omega
 ·have:=Fw _ _ hc;omega
theorem jk{a b:List Nat}{r s:List Nat}(ha:44∉a)(hb:44∉b)(h:a++44::r=b++44::s):a=b∧r=s:=by
 induction a generalizing b with
 |nil=>
  cases b with
  |nil=>injection h with _ h;exact⟨rfl,h⟩
  |cons y b=>injection h with h1 _;exact absurd (h1▸List.mem_cons_self ..) hb
 |cons x a ih=>
  cases b with
  |nil=>injection h with h1 _;exact absurd (h1▸List.mem_cons_self ..) ha
  |cons y b=>
   injection h with h1 h2
   obtain⟨e1,e2⟩:=ih (fun h=>ha (List.mem_cons_of_mem _ h)) (fun h=>hb (List.mem_cons_of_mem _ h)) h2;exact⟨by rw[h1,e1],e2⟩
theorem DQ: ∀{a b:List Int},Zi a=Zi b→a=b
 |[],[],_=>rfl
 |[],m::b,h=>by rw[Zi,Zi]at h;have:=congrArg List.length h;simp at this
 |n::a,[],h=>by rw[Zi,Zi]at h;have:=congrArg List.length h;simp at this
 |n::a,m::b,h=>by
  rw[Zi,Zi]at h;obtain⟨h1,h2⟩:=jk (DU n) (DU m) h;rw[MV h1,DQ h2]
theorem DV(n:Int): ∀x∈GO n,x<256:=by
 intro x h;obtain⟨c,_,rfl⟩:=List.mem_map.1 h;exact c.toNat_lt
theorem NM: ∀l:List Int,∀x∈Zi l,x<256
 |[],x,h=>by cases h
 |n::l,x,h=>by
  rw[Zi]at h;rcases List.mem_append.1 h with h|h
  ·exact DV n x h
  ·rcases List.mem_cons.1 h with rfl|h
   ·decide
   ·exact NM l x h

end
section
open Go Go.RowKit Go.Shelf Go.Sort
variable {G:Env} {P:Program} {f:FuncId} {l:List AV} {st:St} {zs:List Int}

def XY:List AV→Option (List Int)
 |[]=>some []
 |.int .i64 s::l=>(XY l).map (s:: ·)
 |_::_=>none
def H4(z:Int):AV:=.int .i64 z
theorem qT(p:JC)(z:Int):Qh p (H4 z)=Value.int .i64 z:=rfl
theorem Ew: ∀zs:List Int,XY (zs.map H4)=some zs
 |[]=>rfl
 |z::zs=>by
  show(XY (zs.map H4)).map (z:: ·)=_;rw[Ew zs];rfl
theorem GP(h:XY l=some zs):l=zs.map H4:=by
 induction l generalizing zs with
 |nil=>injection h with h;subst h;rfl
 |cons a l ih=>
  unfold XY at h
  split at h
  ·rename_i h1;cases h1
  ·rename_i s l' h1
   injection h1 with h1 h2
   subst h1 h2
   cases hl:XY l with
   |none=>rw[hl]at h;cases h
   |some zl=>
    rw[hl]at h
    injection h with h
    subst h;rw[List.map_cons,←ih hl];rfl
  ·cases h
theorem NO(h:XY l=some zs):zs.length=l.length∧ ∀(p:JC) (j:Nat) (z:Int),zs[j]? =some z→ ∃a,l[j]? =some a∧Qh p a=Value.int .i64 z:=by
 rw[GP h];exact⟨by simp,fun p j z hj=>⟨H4 z,by rw[List.getElem?_map,hj];rfl,rfl⟩⟩
def Cq(ms:List (Nat×Nat×Option (List AV))):List (Nat×Nat×Option (List AV)):=ms.map fun x=>(x.1,x.2.1,none)
def VA(ms:List (Nat×Nat×Option (List AV)))(m e vs:Nat)(l:List AV):List (Nat×Nat×Option (List AV)):=(Cq ms).set m (e,vs,some l)
theorem GC{ms:List (Nat×Nat×Option (List AV))}{m e vs:Nat}{cs0:Option (List AV)}(h:ms[m]? =some (e,vs,cs0)):Told ms (VA ms m e vs l)∧(VA ms m e vs l)[m]? =some (e,vs,some l)∧ ∀k e' vs' l',(VA ms m e vs l)[k]? =some (e',vs',some l')→k=m∧e'=e∧l'=l:=by
 have hlt:=(List.getElem?_eq_some_iff.1 h).1
 have hself:(VA ms m e vs l)[m]? =some (e,vs,some l):=by
  unfold VA;rw[List.getElem?_set_self (by simp[Cq,hlt])]
 have hoth: ∀k,k≠m→(VA ms m e vs l)[k]? =(ms[k]?).map fun x=>(x.1,x.2.1,none):=fun k hk=>by
  unfold VA;rw[List.getElem?_set_ne (fun e=>hk e.symm),Cq,List.getElem?_map]
 refine⟨⟨by simp[VA,Cq],fun k e' vs' cs hk=>?_⟩,hself,fun k e' vs' l' hk=>?_⟩
 ·by_cases hkm:k=m
  ·subst hkm;rw[hself]at hk
   injection hk with hk;injection hk with h1 hk;injection hk with h2 hk
   subst h1 h2;exact⟨_,h⟩
  ·rw[hoth k hkm]at hk
   cases hmk:ms[k]? with
   |none=>rw[hmk]at hk;cases hk
   |some x=>
    rw[hmk]at hk;obtain⟨a,b,c⟩:=x
    injection hk with hk;injection hk with h1 hk;injection hk with h2 hk
    subst h1 h2;exact⟨_,rfl⟩
 ·by_cases hkm:k=m
  ·subst hkm;rw[hself]at hk
   injection hk with hk;injection hk with h1 hk;injection hk with h2 hk;injection hk with hk
   exact⟨rfl,h1.symm,hk.symm⟩
  ·rw[hoth k hkm]at hk
   cases hmk:ms[k]? with
   |none=>rw[hmk]at hk;cases hk
   |some x=>
    rw[hmk]at hk
    injection hk with hk;injection hk with h1 hk;injection hk with h2 hk
    cases hk
noncomputable def Zg(F:List Int→List Int)(V:Nat→Nat→List Int→AV)(V0:AV→AV):List AV→St→Option (AV×St)
 |[.sl c m 0 len 1],st=>if len=0 then some (V0 (.sl c m 0 0 1),st)else match st.h.get c with
  |some (.row false ms)=>match ms[m]? with
   |some (e,vs,some l)=>if l.length=len∧0<len∧len≤1000000 then match XY l with
     |some zs=>some (V c m zs,⟨st.n,st.h.set c (.row false (VA ms m e vs ((F zs).map H4)))⟩)
     |none=>none
    else none
   |_=>none
  |_=>none
 |[.nils],st=>some (V0 .nils,st)
 |_,_=>none
theorem LR{F:List Int→List Int}{V:Nat→Nat→List Int→AV}{V0:AV→AV}{R:Option Addr→Nat→List Int→Value}{R0:Value→Value}(hr:Real P f)(hF: ∀zs,(F zs).length=zs.length)
  (hV: ∀(p:JC) (h:Hp) c m zs q C e,zs≠[]→p c m=some q→h c=some C→(exts C)[m]? =some e→zs.length≤e→Qh p (V c m zs)=R (some ⟨q.b,q.d,none⟩) q.e zs∧WF h (V c m zs)) (hV0: ∀(p:JC) (h:Hp) (ks:AV),WF h ks→Qh p (V0 ks)=R0 (Qh p ks)∧WF h (V0 ks))
  (hC: ∀(b o cap:Nat) (zs:List Int) (w:World),Holds (Value.int .i64) w b o zs.toArray→b<w.heap.size→zs.length≤1000000→zs.length≤cap→zs≠[]→Calls P f #[.slice (some ⟨b,o,none⟩) zs.length cap] w fun e w'=>e=.returned (R (some ⟨b,o,none⟩) cap zs)∧ ∃n os,w'=grow (putRow (Value.int .i64) (Sort.ahead w n) b o (F zs).toArray) os)
  (hC0: ∀(a:Option Addr) (cap:Nat) (w:World),Calls P f #[.slice a 0 cap] w fun e w'=>e=.returned (R0 (.slice a 0 cap))∧w'=w):Bo P G f (Zg F V V0):=by
 intro args st v st' hs hf ha;unfold Zg at hs
 split at hs
 ·rename_i c m len
  by_cases hl0:len=0
  ·rw[if_pos hl0]at hs
   injection hs with hs
   injection hs with e1 e2
   subst e1 e2 hl0;have hw:WF st.h.get (.sl c m 0 0 1):=ha.1;refine⟨hr,fun w0 p w H hG=>⟨Ab.refl _,?_⟩⟩;obtain⟨C,e,g1,g2,_,_⟩:=hw;obtain⟨q,hq⟩:=H.Fx c C g1 m (List.getElem?_eq_some_iff.1 g2).1
   have hcs:Qh p (.sl c m 0 0 1)=.slice (some ⟨q.b,q.d+0,none⟩) 0 ((q.e-0)/1):=by simp only[Qh,hq]
   have hv:=hV0 p st.h.get (.sl c m 0 0 1) ha.1;show Calls P f #[Qh p (.sl c m 0 0 1)] w _;rw[hcs]at hv ⊢;refine(hC0 _ _ w).mono fun e w'=>?_
   rintro⟨rfl,rfl⟩
   exact⟨p,by rw[hv.1],.refl H,hv.2⟩
  rw[if_neg hl0]at hs
  split at hs
  ·rename_i ms hc
   split at hs
   ·rename_i e vs l hm
    split at hs
    ·rename_i hcond;obtain⟨hlen,h0,h1M⟩:=hcond
     split at hs
     ·rename_i zs hzs
      injection hs with hs
      injection hs with e1 e2
      subst e1 e2;obtain⟨hzl,hzg⟩:=NO hzs
      have hzn:zs≠[]:=by intro e;subst e;simp at hzl;omega
      obtain⟨hT,hself,honly⟩:=GC (l:=(F zs).map H4) hm;have hexts:exts (.row false (VA ms m e vs ((F zs).map H4)))=exts (.row false ms):=hT.exts;have hAb:Ab st ⟨st.n,st.h.set c (.row false (VA ms m e vs ((F zs).map H4)))⟩:=Kj hc (by rw[hexts];exact List.prefix_refl _);refine⟨hr,fun w0 p w H hG=>⟨hAb,?_⟩⟩;have hR:=H.cls c _ hc;obtain⟨q,arr,el,g1,g2,g3,g4,g5,g6⟩:=hR.mem m e vs (some l) hm;obtain⟨k1,k2⟩:=g6 l rfl;have hb:=g2.own;have hblt:=(Array.getElem?_eq_some_iff.1 hb).1
      have hH:Holds (Value.int .i64) w q.b q.d zs.toArray:=by
       intro j hj
       have hj':j<zs.length:=by simpa using hj
       refine⟨?_,by simp[World.frozen?,hb]⟩;obtain⟨a,ha1,ha2⟩:=hzg p j _ (List.getElem?_eq_getElem hj');obtain⟨j1,_,_⟩:=k2 j a ha1;simp only[World.cell?,hb];simp only[Option.isSome_none,Bool.false_eq_true,if_false];rw[j1,ha2];simp[hj']
      have hargs:(Qq p [AV.sl c m 0 len 1]).toArray= #[.slice (some ⟨q.b,q.d,none⟩) zs.length q.e]:=by
       show #[Qh p (AV.sl c m 0 len 1)]=_;simp only[Qh,g1];rw[hzl,hlen];simp
      rw[hargs];refine(hC q.b q.d q.e zs w hH hblt Qc Qc hzn).mono fun e' w'=>?_
      rintro⟨rfl,n,os,rfl⟩
      have hv:=hV p (st.h.set c (.row false (VA ms m e vs ((F zs).map H4)))).get c m zs q (.row false (VA ms m e vs ((F zs).map H4))) e hzn g1 (by rw[JD];exact Uk _ _ _) (by rw[hexts];simp[exts,List.getElem?_map,hm]) Qc;refine⟨p,by rw[hv.1],?_,hv.2⟩
      have S1:=H.over hc hT hb (arr':=putCells (Value.int .i64) q.d (F zs).toArray arr) (by simp[putCells]) g1 rfl (fun k e1 vs1 l1 q1 hk hq1=>by
       obtain⟨rfl,rfl,rfl⟩:=honly k e1 vs1 l1 hk
       rw[g1]at hq1;injection hq1 with hq1;subst hq1
       refine⟨fun _=>⟨by rw[List.length_map,hF];omega,fun j a hj=>?_⟩,fun hne=>absurd rfl hne⟩;rw[List.getElem?_map]at hj
       cases hz:(F zs)[j]? with
       |none=>rw[hz]at hj;cases hj
       |some z=>
        rw[hz]at hj
        injection hj with hj
        subst hj;have hjl:=(List.getElem?_eq_some_iff.1 hz).1
        have hjl':j<zs.length:=by rw[←hF];exact hjl
        refine⟨?_,?_,rfl⟩
        ·rw[qT]
         have:q.d+j<arr.size:=by omega
         have hzj:=(List.getElem?_eq_some_iff.1 hz).2;simp[putCells,this,hjl,hzj]
        ·trivial)
      rw[JD]
      have hset: ∀k,(putRow (Value.int .i64) (Sort.ahead w n) q.b q.d (F zs).toArray).heap[k]? =(w.setRow q.b (putCells (Value.int .i64) q.d (F zs).toArray arr)).heap[k]? :=fun k=>by
       by_cases hk:k=q.b
       ·subst hk;rw[setRow_heap w q.b arr _ el (0,0) hb];show(w.heap.modify q.b (onCells (putCells (Value.int .i64) q.d (F zs).toArray)))[q.b]? =_;rw[Array.getElem?_modify,if_pos rfl,hb];rfl
       ·rw[setRow_other w q.b k _ hk];show(w.heap.modify q.b (onCells (putCells (Value.int .i64) q.d (F zs).toArray)))[k]? =_;rw[Array.getElem?_modify,if_neg (fun e:q.b=k=>hk e.symm)]
      refine S1.trans (S1.hr.Fz ⟨rfl,rfl,rfl,?_,fun k hk=>?_⟩)
      ·simp[World.setRow,putRow,mapBlock,Sort.ahead,grow]
      ·rw[heap_grow_old _ _ (by simpa [World.setRow,putRow,mapBlock,Sort.ahead]using hk),hset]
     ·cases hs
    ·cases hs
   ·cases hs
  ·cases hs
 ·injection hs with hs
  injection hs with e1 e2
  subst e1 e2;refine⟨hr,fun w0 p w H hG=>⟨Ab.refl _,(hC0 none 0 w).mono fun e w'=>?_⟩⟩
  rintro⟨rfl,rfl⟩
  exact⟨p,by rw[(hV0 p st.h.get .nils trivial).1];rfl,.refl H,(hV0 p st.h.get .nils trivial).2⟩
 ·cases hs
def AI(zs:List Int):List Int:=Lib.compact zs++List.replicate (zs.length-(Lib.compact zs).length) 0
def LX(_ _:Nat)(_:List Int):AV:=.tup []
def EA(c m:Nat)(zs:List Int):AV:=.sl c m 0 (Lib.compact zs).length 1
theorem Zd(zs:List Int):(Lib.compact zs).length≤zs.length:=by
 unfold Lib.compact Lib.compactUpTo;rw[List.length_map];refine Nat.le_trans (List.length_filter_le _ _) ?_;simp
theorem Me:Bo Tryz.prog G 66 (Zg XV LX fun _=>.tup []):=by
 refine LR (R:=fun _ _ _=>.tuple #[]) (R0:=fun _=>.tuple #[]) ⟨_,Tryz.func66,rfl,by decide⟩ (fun zs=>List.length_mergeSort _) (fun p h c m zs q C e _ _ _ _ _=>⟨rfl,trivial⟩) (fun p h ks _=>⟨rfl,trivial⟩) (fun b o cap zs w hH hb hsz hcap hn=>?_) (fun a cap w=>?_)
 ·exact Any.slices_Sort_int Tu b o cap zs w hH hb Qc
 ·exact Any.slices_Sort_int_none Tu a cap w
theorem Iz:Bo Tryz.prog G 67 (Zg AI EA id):=by
 refine LR (R:=fun a cap zs=>.slice a (Lib.compact zs).length cap) (R0:=id) ⟨_,Tryz.func67,rfl,by decide⟩ (fun zs=>?_) (fun p h c m zs q C e hn h1 h2 h3 h4=>?_) (fun p h ks hw=>⟨rfl,hw⟩) (fun b o cap zs w hH hb hsz hcap hn=>?_) (fun a cap w=>?_)
 ·have:=Zd zs;simp[AI];omega
 ·have:=Zd zs;refine⟨?_,?_⟩
  ·unfold EA;simp only[Qh,h1];simp
  ·unfold EA;exact⟨C,e,h2,h3,by decide,by omega⟩
 ·refine(Any.slices_Compact_int uG b o cap zs w hH Qc hcap).mono fun e w'=>?_
  rintro⟨rfl,n,rfl⟩
  exact⟨rfl,n,#[],by rw[grow_empty];rfl⟩
 ·exact Any.slices_Compact_int_empty uG a cap w
theorem NY{F:List Int→List Int}{V:Nat→Nat→List Int→AV}{V0:AV→AV}(hs:G.s f=some (Zg F V V0))(hf:Qi st){c m:Nat}(hr:Qx st.h.get c m l)(hz:XY l=some zs)(h0:zs≠[])(hb:zs.length≤1000000)(hF:(F zs).length=zs.length):
  ∃v st',Ev P G f [.sl c m 0 zs.length 1] st v st'∧v=V c m zs∧Qx st'.h.get c m ((F zs).map H4)∧vQ [c] st st':=by
 have hlt:=hr.lt hf;obtain⟨vs,ms,h1,h2⟩:=hr;have hl:=(NO hz).1;have hp:0<zs.length:=List.length_pos_iff.2 h0;obtain⟨hT,hself,_⟩:=GC (l:=(F zs).map H4) h2
 have e:Zg F V V0 [.sl c m 0 zs.length 1] st=some (V c m zs,⟨st.n,st.h.set c (.row false (VA ms m l.length vs ((F zs).map H4)))⟩):=by
  unfold Zg;show(if zs.length=0 then _ else _)=_;rw[if_neg Qc];simp only[h1,h2];rw[if_pos ⟨hl.symm,hp,hb⟩];simp only[hz]
 refine⟨V c m zs,⟨st.n,st.h.set c (.row false (VA ms m l.length vs ((F zs).map H4)))⟩,⟨0,1,?_⟩,rfl,⟨vs,_,by rw[JD];exact Uk _ _ _,by rw[hself,List.length_map,hF,hl]⟩,⟨fun k hk=>?_,Nat.le_refl _,fun k hk hX=>?_⟩⟩
 ·show(Option.rec _ (fun sm=>sm [.sl c m 0 zs.length 1] st) (G.s f):Option (AV×St))=_;rw[hs];exact e
 ·have hk:st.n≤k:=hk;rw[JD,YT _ _ Qc];exact hf k hk
 ·rw[JD,YT _ _ (by simpa using hX)]
theorem KM{F:List Int→List Int}{V:Nat→Nat→List Int→AV}{V0:AV→AV}(hs:G.s f=some (Zg F V V0))(hf:Qi st):Ev P G f [.nils] st (V0 .nils) st:=⟨0,1,by
 show(Option.rec _ (fun sm=>sm [.nils] st) (G.s f):Option (AV×St))=_
 rw[hs];rfl⟩
theorem KL{F:List Int→List Int}{V:Nat→Nat→List Int→AV}{V0:AV→AV}(hs:G.s f=some (Zg F V V0))(hf:Qi st)(c m:Nat):Ev P G f [.sl c m 0 0 1] st (V0 (.sl c m 0 0 1)) st:=⟨0,1,by
 show(Option.rec _ (fun sm=>sm [.sl c m 0 0 1] st) (G.s f):Option (AV×St))=_;rw[hs];show Zg F V V0 [.sl c m 0 0 1] st=_
 rfl⟩
end
section
open Go Go.Shelf Go.RowKit Go.Sort

theorem yb:(Tryz.prog.info? 5).map (fun i=>(i.zero,i.size,i.bytes))=some (some (.int .u8 0),1,1):=by kernel_rfl
def Eu:List Int→List UInt8
 |[]=>[]
 |n::l=>Lib.itoa n++44::Eu l
theorem DS: ∀(a b:List Int),Eu (a++b)=Eu a++Eu b
 |[],b=>rfl
 |n::a,b=>by rw[List.cons_append,Eu,Eu,DS a b,List.append_assoc];rfl
theorem MR{zs:List Int}{k:Nat}{z:Int}(h:zs[k]? =some z):Eu (zs.take (k+1))=Eu (zs.take k)++(Lib.itoa z++[44]):=by
 rw[List.take_add_one,h,DS];rfl
theorem DR: ∀l:List Int,(∀z∈l,-9223372036854775808≤z∧z≤9223372036854775807)→(Eu l).length≤22 *l.length
 |[],_=>by simp[Eu]
 |n::l,h=>by
  have h1:=DR l fun z hz=>h z (List.mem_cons_of_mem _ hz);have h2:=h n (List.mem_cons_self ..);have h3:=Lib.itoa_length_le n h2.1 h2.2;rw[Eu,List.length_append,List.length_cons,List.length_cons];omega
theorem uV: ∀l:List Int,(Eu l).map UInt8.toNat=Zi l
 |[]=>rfl
 |n::l=>by rw[Eu,Zi,List.map_append,List.map_cons,uV l];rfl

set_option maxHeartbeats 6400000 in
set_option maxRecDepth 100000 in
theorem Tw(A:Option Addr)(blk off cap:Nat)(zs:List Int)(w:World)(hz: ∀z∈zs,-9223372036854775808≤z∧z≤9223372036854775807)(hH:Holds (Value.int .i64) w blk off zs.toArray)(hA:0<zs.length→A=some ⟨blk,off,none⟩∧blk<w.heap.size)(hl:zs.length≤1000000)
  (htab:Lib.TabIs Tryz.prog w "internal/strconv.uint64pow10" .u64 Lib.pow10Tab):
  Calls Tryz.prog 87 #[.slice A zs.length cap] w fun e w'=>e=.returned (.string ⟨(Eu zs).toArray⟩)∧Below w.heap.size w w':=by
 obtain⟨i0,hi,hz0,hz1,hz2⟩:=info_parts yb;have hT:=Lib.tabBelow_of_tabIs htab;have HH:=Lib.hid hH;clear hH
 go_enter Tryz.func87,Tryz.ntmps87
 go_wp2
 go_loopg [3,8] zs.length (fun q v3 v8 wr=> ∃k:Nat,q=zs.length-k∧k≤zs.length∧v8=.int .i64 k∧wr.ownsRow w.heap.size 5 1 v3 (Eu (zs.take k)).length (Lib.byteCells (Eu (zs.take k)))∧Below w.heap.size w wr)
 case atStart=>exact⟨0,by omega,Nat.zero_le _,rfl,World.ownsRow_nil _ _ _ _,Below.refl _ _⟩
 case round=>
  obtain⟨k,hq,hk,rfl,hown,hb⟩:=hrel
  by_cases hlt:k<zs.length
  ·obtain⟨rfl,hblk⟩:=hA Qc;obtain⟨c1,f1⟩:=HH.out k (by simpa using hlt)
   have c2:wr.cell? ⟨blk,off+k,none⟩=some (.int .i64 (zs[k])):=by
    rw[hb.cell (p:=⟨blk,off+k,none⟩) hblk,c1];simp[getElem!_pos,hlt]
   have hget:zs[k]? =some zs[k]:=List.getElem?_eq_getElem hlt;have hbz:=hz _ (List.getElem_mem hlt);obtain⟨z,hzk⟩: ∃z,z=zs[k]:=⟨_,rfl⟩;rw[←hzk]at c2 hget hbz;have hlz:=Lib.itoa_length_le z hbz.1 hbz.2;have hkl:=DR (zs.take k) fun z hz'=>hz z (List.mem_of_mem_take hz');rw[List.length_take]at hkl;have HG:=Lib.hid hget;have HK:=Lib.hid hzk;clear hget hzk;obtain⟨L,hL⟩: ∃L,L=Eu (zs.take k):=⟨_,rfl⟩;rw[←hL]at hown hkl;have HL:=Lib.hid hL;clear hL
   go_wp2_with (go_at_call 112;refine(Any.strconv_AppendInt_10 uF w.heap.size L.length z hbz.1 hbz.2 _ _ wr hown hb.size Qc (hT.on hb)).mono ?_;rintro e w1 ⟨v1,rfl,hown1,hnx1,-⟩;refine Hid.out ?_)
   refine Lib.hid ?_;have hown1:w1.ownsRow w.heap.size 5 1 v1 (L.length+(Lib.itoa z).length) (Lib.byteCells L++Lib.byteCells (Lib.itoa z)):=hown1;have hs1:=hnx1.size;have hs2:=hb.size
   go_wp2_with (at_builtin;refine wpList_append_own _ rfl _ _ 143 rfl w.heap.size 5 i0 (.int .u8 0) 1 1 Tryz.underlying143 hi hz0 hz1 hz2 rfl Q8 _ _ _ rfl (hown1.alloc _) ⟨w1.heap.size,0,none⟩ 1 1 [Value.int .u8 44] rfl rfl ?c1 ?c2 ?c3 ?c4 ?c5 ?_)
   case c1=>exact qw _ _ _ _ rfl
   case c2=>intro u hu;simp at hu;subst hu;rfl
   case c3=>unfold maxLen;omega
   case c4=>omega
   case c5=>simp;omega
   intro v2 w2 hown2 hgrow _;have hnx2:Below w.heap.size w w2:=((hb.trans hnx1).alloc (by have:=hnx1.size;have:=hb.size;omega) _).grown hgrow (by have:=hnx1.size;have:=hb.size;simp;omega) (fun k hk=>(hown1.lt k hk).1)
   go_wp2
   go_roundg (zs.length-(k+1))
   case measure=>omega
   case rel=>
    refine⟨k+1,rfl,by omega,rfl,?_,hnx2⟩;rw[MR HG.out,←HL.out]
    have e1:Lib.byteCells (L++(Lib.itoa z++[44]))=Lib.byteCells L++(Lib.byteCells (Lib.itoa z)++[Value.int .u8 44]):=by simp[Lib.byteCells]
    have e2:(L++(Lib.itoa z++[44])).length=L.length+(Lib.itoa z).length+1:=by simp;omega
    rw[e1,e2]
    simpa [List.append_assoc]using hown2
  ·have hkk:zs.take k=zs:=List.take_of_length_le Qc;rw[hkk]at hown;obtain⟨l,hl'⟩: ∃l,l=Eu zs:=⟨_,rfl⟩;rw[←hl']at hown;have HL:=Lib.hid hl';clear hl';rcases hown.2 with⟨rfl,h0⟩|⟨g,cap',cur,rfl,-,-,-,-,-,-⟩
   ·have hcv:(convert 143 9 (.slice none 0 0)).run Tryz.prog wr=.ok (.string ⟨#[]⟩) wr:=by
     rw[run_convert_bytes_string wr 143 9 5 none 0 0 Tryz.underlying143 Tryz.underlying5 Tryz.underlying9];simp[Conv.bytesToString];rfl
    go_wp2
    go_ret
    have h1:=HL.out;have h2:l=[]:=List.length_eq_zero_iff.1 Qc;rw[←h1,h2];exact⟨rfl,hb⟩
   ·have hcv:=run_convert_bytes_back (P:=Tryz.prog) wr 143 9 5 ⟨g,0,none⟩ cap' l Tryz.underlying143 Tryz.underlying5 Tryz.underlying9 (fun j hj=>hown.cells (g:=g) rfl j _ (by simp[Lib.byteCells,hj]))
    go_wp2
    go_ret
    rw[←HL.out];exact⟨rfl,hb⟩
end
section
open Go Go.RowKit Go.Shelf Go.Sort

noncomputable def Pr:Nat→Nat→List Nat→List Nat
 |0,_,acc=>acc
 |f+1,u,acc=>Qj (Nat.ble u 9) ((48+u)::acc) (Pr f (u/10) ((48+u % 10)::acc))
noncomputable def we:Int→List Nat
 |.ofNat u=>Pr 20 u []
 |.negSucc u=>45::Pr 20 (u+1) []
noncomputable def vg:List Int→List Nat
 |[]=>[]
 |n::l=>we n++44::vg l
theorem Pq: ∀(f u:Nat) (acc:List Nat),u<10^(f+1)→Pr (f+1) u acc=(Lib.decDigits u).map UInt8.toNat++acc:=by
 intro f
 induction f with
 |zero=>
  intro u acc h
  have h9:u<10:=by simpa using h
  rw[Pr,Lib.decDigits,dif_pos h9,Nat.ble_eq_true_of_le Qc,Q0,List.map_singleton,E8 u h9];rfl
 |succ f ih=>
  intro u acc h;rw[Pr,Lib.decDigits]
  by_cases h9:u<10
  ·rw[dif_pos h9,Nat.ble_eq_true_of_le Qc,Q0,List.map_singleton,E8 u h9];rfl
  ·have hb:Nat.ble u 9=false:=by
    cases hb:Nat.ble u 9 with
    |false=>rfl
    |true=>have:=Nat.le_of_ble_eq_true hb;omega
   rw[dif_neg h9,hb,Qs,ih (u/10) _ (by rw[Nat.pow_succ]at h;omega),List.map_append,List.map_singleton,E8 _ (Nat.mod_lt _ Q8),List.append_assoc];rfl
theorem uY{z:Int}(h1: -9223372036854775808≤z)(h2:z≤9223372036854775807):we z=GO z:=by
 have hp:(10:Nat)^20=100000000000000000000:=by decide
 cases z with
 |ofNat u=>
  have h2:(u:Int)≤9223372036854775807:=h2;show Pr 20 u []=(Lib.itoa (u:Int)).map UInt8.toNat;rw[Pq 19 u [] (by rw[hp];omega),List.append_nil,Lib.itoa,if_neg Qc];rfl
 |negSucc u=>
  have h1: -9223372036854775808≤Int.negSucc u:=h1;show 45::Pr 20 (u+1) []=(Lib.itoa (Int.negSucc u)).map UInt8.toNat;rw[Pq 19 (u+1) [] (by rw[hp];omega),List.append_nil,Lib.itoa,if_pos Qc];rfl
def fH(z:Int):Bool:=decide (-9223372036854775808≤z)&&decide (z≤9223372036854775807)
theorem RQ{z:Int}:fH z=true↔ -9223372036854775808≤z∧z≤9223372036854775807:=by unfold fH;rw[Bool.and_eq_true,decide_eq_true_eq,decide_eq_true_eq]
theorem LB: ∀{l:List Int},l.all fH=true→vg l=Zi l
 |[],_=>rfl
 |z::l,h=>by
  rw[List.all_cons,Bool.and_eq_true]at h;have:=RQ.1 h.1;rw[vg,Zi,uY this.1 this.2,LB h.2]

def EM(w:World):Prop:=Lib.TabIs Tryz.prog w "internal/strconv.uint64pow10" .u64 Lib.pow10Tab
theorem EM.below{w w':World}(h:EM w)(hb:Below w.heap.size w w'):EM w':=Lib.tabBelow_of_tabIs h w' hb

noncomputable def IF:List AV→St→Option (AV×St)
 |[.nils],st=>some (.str [],st)
 |[.sl c m 0 len 1],st=>match st.h.get c with
  |some (.row false ms)=>match ms[m]? with
   |some (e,vs,some l)=>match XY (l.take len)with
    |some zs=>if zs.length=len∧len≤1000000∧zs.all fH=true then some (.str (vg zs),st)else none
    |none=>none
   |_=>none
  |_=>none
 |_,_=>none
theorem GM(zs:List Int):(⟨(Eu zs).toArray⟩:ByteArray)=bytesOf (Zi zs):=by
 unfold bytesOf;rw[←uV,List.map_map]
 have:(UInt8.ofNat∘UInt8.toNat)=id:=by funext x;simp
 rw[this,List.map_id]
theorem Tv{G:Env}(hI: ∀w0 w,G.i w0→Below w0.heap.size w0 w→EM w):Bo Tryz.prog G 87 IF:=by
 intro args st v st' hs hf ha;have hr:Real Tryz.prog 87:=⟨_,Tryz.func87,rfl,by decide⟩;unfold IF at hs
 split at hs
 ·injection hs with hs
  injection hs with e1 e2
  subst e1 e2;refine⟨hr,fun w0 p w H hG=>⟨Ab.refl _,?_⟩⟩;have h:=Tw none 0 0 0 [] w Q4 (fun j hj=>absurd hj Q4) (fun h=>absurd h Q4) Q4 (hI w0 w hG.2 H.under);refine h.mono fun e w' he=>?_;obtain⟨rfl,hb⟩:=he;exact⟨p,by rw[GM];rfl,H.Fz hb,fun x hx=>by cases hx⟩
 ·rename_i c m len
  split at hs
  ·rename_i ms hc
   split at hs
   ·rename_i e vs l hm
    split at hs
    ·rename_i zs hzs
     split at hs
     ·rename_i hcond;obtain⟨hlen,h1M,hall⟩:=hcond
      injection hs with hs
      injection hs with e1 e2
      subst e1 e2;have hbz: ∀z∈zs,-9223372036854775808≤z∧z≤9223372036854775807:=fun z hz=>RQ.1 (List.all_eq_true.1 hall z hz);refine⟨hr,fun w0 p w H hG=>⟨Ab.refl _,?_⟩⟩;have hR:=H.cls c _ hc;obtain⟨q,arr,el,g1,g2,g3,g4,g5,g6⟩:=hR.mem m e vs (some l) hm;obtain⟨k1,k2⟩:=g6 l rfl;have hb:=g2.own;have hblt:=(Array.getElem?_eq_some_iff.1 hb).1;have hzl:l.take len=zs.map H4:=GP hzs
      have hH:Holds (Value.int .i64) w q.b q.d zs.toArray:=by
       intro j hj
       have hj':j<zs.length:=by simpa using hj
       refine⟨?_,by simp[World.frozen?,hb]⟩
       have ha1:l[j]? =some (H4 zs[j]):=by
        have h:=congrArg (fun x=>x[j]?) hzl;simp only[List.getElem?_map,List.getElem?_eq_getElem hj']at h;rw[List.getElem?_take_of_lt Qc]at h;exact h
       obtain⟨j1,_,_⟩:=k2 j _ ha1;simp only[World.cell?,hb];simp only[Option.isSome_none,Bool.false_eq_true,if_false];rw[j1];simp[hj',H4,Qh]
      have hargs:(Qq p [AV.sl c m 0 len 1]).toArray= #[.slice (some ⟨q.b,q.d,none⟩) zs.length q.e]:=by
       show #[Qh p (AV.sl c m 0 len 1)]=_;simp only[Qh,g1];rw[hlen];simp
      rw[hargs];refine(Tw (some ⟨q.b,q.d,none⟩) q.b q.d q.e zs w hbz hH (fun _=>⟨rfl,hblt⟩) Qc (hI w0 w hG.2 H.under)).mono fun e' w' he=>?_;obtain⟨rfl,hb'⟩:=he;refine⟨p,?_,H.Fz hb',?_⟩
      ·rw[GM,←LB hall];rfl
      ·rw[LB hall];exact NM zs
     ·cases hs
    ·cases hs
   ·cases hs
  ·cases hs
 ·cases hs
theorem CV{P:Program}{G G':Env}(hG0: ∀g,G.g g=false)(hE:KU P G)(hI: ∀w0 w,G'.i w0→Below w0.heap.size w0 w→G.i w)(hm:P.follows .mixedOrders=true){f:FuncId}{L fuel n:Nat}(h:isTrue (Uh P G L fuel f [] ⟨n,.nil⟩)=true):Bo P G' f BA:=by
 intro args st v st' hs hf ha
 cases args with
 |cons a l=>cases hs
 |nil=>
  injection hs with hs
  injection hs with e1 e2
  subst e1 e2
  obtain⟨⟨u,st2⟩,h1⟩: ∃r,Uh P G L fuel f [] ⟨n,.nil⟩=some r:=by
   cases hr:Uh P G L fuel f [] ⟨n,.nil⟩with
   |none=>rw[hr]at h;cases h
   |some r=>exact⟨r,rfl⟩
  refine⟨(Cy (Cp hm) hE L fuel f [] _ _ _ h1 (fun _ _=>rfl) trivial).1,fun w0 p w H hG=>⟨Ab.refl _,?_⟩⟩;refine(Pz hG0 hE hm (args:=[]) (by simp[Zk]) h w (hI w0 w hG.2 H.under)).mono fun e w' he=>?_;obtain⟨rfl,hb⟩:=he;exact⟨p,rfl,H.Fz hb,trivial⟩

noncomputable section
def jf:List (FuncId×(List AV→St→Option (AV×St))):=
 (87,IF)::
 (67,Zg AI EA id)::
 []
def fK:Env:=⟨fun _=>false,T6 TL,GU jf,EM⟩
end
theorem vw:KU Tryz.prog fK:=⟨fun f q h=>P9 (f,q) (GV h),fun f sm h=>by
 have h:GU jf f=some sm:=h;have h:=GS h;unfold jf at h;rcases List.mem_cons.1 h with h|h
 ·injection h with e1 e2;subst e1 e2;exact Tv fun w0 w h hb=>EM.below h hb
 rcases List.mem_cons.1 h with h|h
 ·injection h with e1 e2;subst e1 e2;exact Iz
 cases h⟩
end
section
open Go

theorem Ci:isTrue (Uh Tryz.prog fK 10000 1000 22 [] ⟨0,.nil⟩)=true:=by decide+kernel

end
section
open Go Go.RowKit Go.Shelf Go.Sort

noncomputable section
def jg:List (FuncId×(List AV→St→Option (AV×St))):=
 (87,IF)::
 (22,BA)::
 (66,Zg XV LX fun _=>.tup [])::
 (67,Zg AI EA id)::
 []
def yz:Env:=⟨fun _=>false,T6 TL,GU jg,EM⟩
abbrev Jf:=Ev Tryz.prog yz
end
theorem vx:KU Tryz.prog yz:=⟨fun f q h=>P9 (f,q) (GV h),fun f sm h=>by
 have h:GU jg f=some sm:=h;have h:=GS h;unfold jg at h;rcases List.mem_cons.1 h with h|h
 ·injection h with e1 e2;subst e1 e2;exact Tv fun w0 w h hb=>EM.below h hb
 rcases List.mem_cons.1 h with h|h
 ·injection h with e1 e2;subst e1 e2;exact CV (fun _=>rfl) vw (fun w0 w h hb=>EM.below h hb) mixed Ci
 rcases List.mem_cons.1 h with h|h
 ·injection h with e1 e2;subst e1 e2;exact Me
 rcases List.mem_cons.1 h with h|h
 ·injection h with e1 e2;subst e1 e2;exact Iz
 cases h⟩
theorem NL(st:St):Jf 22 [] st (.bool true) st:=⟨0,1,rfl⟩
end
section
open Go

theorem Qn:tk Tryz.prog 3=.one:=by kernel_rfl
theorem LQ:YM Tryz.prog 3=some 1:=by kernel_rfl
theorem Xv:zeroOf Tryz.prog 3=some [.int .i64 0]:=by kernel_rfl
theorem al:Tryz.prog.cellsOf 3=1:=by kernel_rfl
theorem Uz:Tryz.prog.underlying 3=some (.int .i64):=by kernel_rfl
theorem J6:tk Tryz.prog 4=.one:=by kernel_rfl
theorem AU:YM Tryz.prog 4=some 1:=by kernel_rfl
theorem Vk:zeroOf Tryz.prog 4=some [.bool false]:=by kernel_rfl
theorem Y7:Tryz.prog.underlying 4=some (.bool):=by kernel_rfl
theorem ID:tk Tryz.prog 9=.one:=by kernel_rfl
theorem Gq:zeroOf Tryz.prog 9=some [.str []]:=by kernel_rfl
theorem W8:Tryz.prog.underlying 9=some (.string):=by kernel_rfl
theorem Ku:Tryz.prog.underlying 142=some (.slice 9):=by kernel_rfl
theorem QP:Ue Tryz.prog 142=some 1:=by kernel_rfl
theorem UR:Tryz.prog.underlying 58=some (.int .u64):=by kernel_rfl
theorem Df:FU Tryz.prog 142 9 1:=⟨Ku,by kernel_rfl,⟨_,Gq,rfl⟩,by kernel_rfl,by decide,by decide+kernel⟩
end
section
open Go

theorem X8:tk Tryz.prog 42=.one:=by kernel_rfl
theorem JN:Tryz.prog.underlying 42=some (.slice 44):=by kernel_rfl
theorem Ji:Ue Tryz.prog 42=some 6:=by kernel_rfl
theorem QW:tk Tryz.prog 44=.agg 6:=by kernel_rfl
theorem ZJ:YM Tryz.prog 44=some 6:=by kernel_rfl
theorem VT:zeroOf Tryz.prog 44=some [.str [],.int .i64 0,.int .i64 0,.int .i64 0,.int .i64 0,.nils]:=by kernel_rfl
theorem Gd:QH Tryz.prog 44 0=some 0:=by kernel_rfl
theorem Gc:QH Tryz.prog 44 1=some 1:=by kernel_rfl
theorem Gb:QH Tryz.prog 44 2=some 2:=by kernel_rfl
theorem Ga:QH Tryz.prog 44 3=some 3:=by kernel_rfl
theorem OZ:QH Tryz.prog 44 4=some 4:=by kernel_rfl
theorem OY:QH Tryz.prog 44 5=some 5:=by kernel_rfl
theorem Dc:CF Tryz.prog 44 [(0,1),(1,1),(2,1),(3,1),(4,1),(5,1)] [.str [],.int .i64 0,.int .i64 0,.int .i64 0,.int .i64 0,.nils]:=⟨⟨_,Tryz.underlying44,by kernel_rfl,by kernel_rfl⟩,VT⟩
theorem Gv:tk Tryz.prog 177=.agg 2:=by kernel_rfl
theorem TZ:YM Tryz.prog 177=some 2:=by kernel_rfl
theorem ZI:zeroOf Tryz.prog 177=some [.int .i64 0,.int .i64 0]:=by kernel_rfl
theorem Ja:tk Tryz.prog 54=.one:=by kernel_rfl
theorem CU:YM Tryz.prog 54=some 1:=by kernel_rfl
theorem Ut:zeroOf Tryz.prog 54=some [.nils]:=by kernel_rfl
theorem Je:Tryz.prog.underlying 54=some (.slice 3):=by kernel_rfl
theorem Qo:Ue Tryz.prog 54=some 1:=by kernel_rfl
theorem FL:FU Tryz.prog 42 44 6:=⟨JN,by kernel_rfl,⟨_,VT,rfl⟩,by kernel_rfl,by decide,by decide+kernel⟩
theorem QD:FU Tryz.prog 54 3 1:=⟨Je,by kernel_rfl,⟨_,Xv,rfl⟩,by kernel_rfl,by decide,by decide+kernel⟩
end
section
open Go Go.RowKit
variable {h:Hp} {xs:List AV}

structure EN{K:Type}(h:Hp)(z:Nat)(R:K→List AV→Prop)(l:List K)(kk:AV)(ls:List (List AV)):Prop where
 r:Jg h [] z ls kk
 ln:ls.length=l.length
 at_: ∀(i:Nat) (k:K),l[i]? =some k→ ∃cs,ls[i]? =some cs∧R k cs
theorem jw{K:Type}{z:Nat}{R:K→List AV→Prop}{H:Type}{P:Program}{t e:TypeId}(k0:K)(hu:P.underlying t=some (.slice e))(hz:P.cellsOf e=z)(hR: ∀(cs:List AV) (d:DataW H),Rd P h e cs d→ ∃k,R k cs){d:DataW H}(r:Rd P h t xs d):
  ∃ks l ls,xs=[ks]∧EN h z R l ks ls:=by
 cases r with
 |bool ht=>rw[hu]at ht;cases ht
 |int ht hw=>rw[hu]at ht;cases ht
 |str ht hs=>rw[hu]at ht;cases ht
 |nil ht=>exact⟨_,[],[],rfl,⟨.nil _ _ _,rfl,fun i k hi=>by simp at hi⟩⟩
 |none ht=>exact⟨_,[],[],rfl,⟨⟨rfl,by simp,rfl,fun i cs hi=>by simp at hi,fun _ _ _ _ _ e=>by cases e⟩,rfl,fun i k hi=>by simp at hi⟩⟩
 |row ht hz' hr hl he hm hd=>
  rename_i e' c m len cells elems rest;rw[hu]at ht
  injection ht with ht
  injection ht with ht
  subst ht;subst hz
  have hk: ∀i,∃k,i<len→R k ((cells.drop (i *P.cellsOf e)).take (P.cellsOf e)):=fun i=>by
   by_cases hi:i<len
   ·obtain⟨k,hk⟩:=hR _ _ (hd i elems[i] (List.getElem?_eq_getElem (he▸hi)));exact⟨k,fun _=>hk⟩
   ·exact⟨k0,fun h=>absurd h hi⟩
  obtain⟨f,hf⟩:=Classical.axiomOfChoice hk
  have hmx:(len:Int)≤9223372036854775807:=by
   have h1:(maxLen:Int)≤9223372036854775807:=by decide
   omega
  have hlen:((List.range len).map fun i=>(cells.drop (i *P.cellsOf e)).take (P.cellsOf e)).length=len:=by simp
  have hfit: ∀i,i<len→i *P.cellsOf e+P.cellsOf e≤cells.length:=fun i hi=>by
   have:=Nat.mul_le_mul_right (P.cellsOf e) (show i+1≤len from hi);rw[Nat.succ_mul]at this;omega
  refine⟨_,(List.range len).map f,(List.range len).map fun i=>(cells.drop (i *P.cellsOf e)).take (P.cellsOf e),rfl,⟨⟨by rw[hlen];rfl,by rw[hlen];exact hmx,rfl,fun i cs hi=>?_,fun c' m' off' n' z' e'=>?_⟩,by simp,fun i k hi=>?_⟩⟩
  ·rw[List.getElem?_map]at hi
   have hlt:i<len:=by
    by_cases hi':i<len
    ·exact hi'
    ·rw[List.getElem?_eq_none (by simp;omega)]at hi;cases hi
   rw[List.getElem?_range hlt]at hi
   injection hi with hi
   refine⟨c,m,0,cells,by rw[hlen],by simp,hr,?_,by rw[Nat.zero_add];exact hi⟩;rw[←hi,List.length_take,List.length_drop];have:=hfit i hlt;omega
  ·injection e' with e1 e2 e3 e4 e5
   subst e1 e2 e3 e4 e5;exact⟨by simp,cells,hr,by omega⟩
  ·rw[List.getElem?_map]at hi
   have hlt:i<len:=by
    by_cases hi':i<len
    ·exact hi'
    ·rw[List.getElem?_eq_none (by simp;omega)]at hi;cases hi
   rw[List.getElem?_range hlt]at hi
   injection hi with hi
   refine⟨_,?_,by rw[←hi];exact hf i hlt⟩;rw[List.getElem?_map,List.getElem?_range hlt];rfl
 |agg ht hl hp hd=>rw[hu]at ht;cases ht
def zC(l:List Int):List (List AV):=l.map fun z=>[AV.int .i64 z]
theorem Qp(l:List Int):(zC l).length=l.length:=by simp[zC]
theorem Jm{l:List Int}{i:Nat}{z:Int}(h:l[i]? =some z):(zC l)[i]? =some [AV.int .i64 z]:=by rw[zC,List.getElem?_map,h];rfl
theorem JW(a b:List Int):zC (a++b)=zC a++zC b:=by simp[zC]
theorem EW(l:List Int): ∀cs∈zC l,cs.length=1:=by
 intro cs h;obtain⟨s,_,rfl⟩:=List.mem_map.1 h;rfl
def X5(l:List Int):Prop:= ∀z∈l,-9223372036854775808≤z∧z≤9223372036854775807
def aG(z:Int)(cs:List AV):Prop:=cs=[.int .i64 z]∧ -9223372036854775808≤z∧z≤9223372036854775807
theorem xu{l:List Int}{kk:AV}{ls:List (List AV)}(H:EN h 1 aG l kk ls):Jg h [] 1 (zC l) kk∧X5 l:=by
 have e:ls=zC l:=by
  apply List.ext_getElem?;intro i
  cases hi:l[i]? with
  |none=>
   have h1:=List.getElem?_eq_none_iff.1 hi;rw[List.getElem?_eq_none (by rw[H.ln];exact h1),List.getElem?_eq_none (by rw[Qp];exact h1)]
  |some z=>
   obtain⟨cs,h1,h2,_⟩:=H.at_ i z hi;rw[h1,Jm hi,h2]
 refine⟨e▸H.r,fun z hz=>?_⟩;obtain⟨i,hi,rfl⟩:=List.mem_iff_getElem.1 hz;obtain⟨cs,_,_,h3⟩:=H.at_ i _ (List.getElem?_eq_getElem hi);exact h3
theorem HQ{H:Type}{d:DataW H}(r:Rd Tryz.prog h 3 xs d): ∃z:Int,aG z xs:=by
 cases r with
 |bool ht=>rw[Uz]at ht;cases ht
 |int ht hw=>
  rw[Uz]at ht
  injection ht with ht
  injection ht with ht
  subst ht;simp only[Lit.wf,Bool.and_eq_true,decide_eq_true_eq]at hw;refine⟨_,rfl,?_⟩
  first
   |exact hw
   |(have h1:IntKind.i64.wrap _=_:=hw;have:=IntWalk.i64_bounds h1;exact this)
   |skip
 |str ht hs=>rw[Uz]at ht;cases ht
 |nil ht=>rw[Uz]at ht;cases ht
 |none ht=>rw[Uz]at ht;cases ht
 |row ht hz' hr hl he hm hd=>rw[Uz]at ht;cases ht
 |agg ht hl hp hd=>rw[Uz]at ht;cases ht
theorem jx{H:Type}{d:DataW H}(r:Rd Tryz.prog h 54 xs d): ∃ks l,xs=[ks]∧Jg h [] 1 (zC l) ks∧X5 l:=by
 obtain⟨ks,l,ls,e,H⟩:=jw (R:=aG) 0 Je al (fun cs d r=>HQ r) r;exact⟨ks,l,e,xu H⟩
theorem R5:Nq Tryz.prog [54,3]=true:=by kernel_rfl
theorem RV{H:Type}{enc:TypeId×Value→H}{W:World}{ml:Ko}(hM:Xj W ml){v:Value}{d:DataW H}{p:List MemPlace}(h:DataW.Trod enc Tryz.prog W 0 (fun _=>true) true 54 v d p)(hna: ∀cs,v≠ .agg cs):
  ∃ml' ks l,ml<+:ml'∧Xj W ml'∧Jg (F8 ml') [] 1 (zC l) ks∧X5 l∧WF (F8 ml') ks∧Qh (Ns ml') ks=v:=by
 obtain⟨fuel,h⟩:=h;obtain⟨ml',cs,h1,h2,h3,h4,h5,h6⟩:=lift _ R5 fuel 54 _ d p ml Q4 h hM;obtain⟨ks,l,rfl,hr,hi⟩:=jx h6;refine⟨ml',ks,l,h1,h2,hr,hi,?_,?_⟩
 ·first|exact h4.1|exact h4|simpa [WF,Zk]using h4
 ·obtain⟨e1,e2⟩:=FQ h3 h5;obtain⟨a,e,h⟩:=e2 hna
  injection e with e
  rw[e];exact h
end
section
open Go

theorem Q7:tk Tryz.prog 23=.one:=by kernel_rfl
theorem Uv:YM Tryz.prog 23=some 1:=by kernel_rfl
theorem JS:Tryz.prog.underlying 23=some (.slice 54):=by kernel_rfl
theorem QY:Ue Tryz.prog 23=some 1:=by kernel_rfl
theorem YW:tk Tryz.prog 68=.one:=by kernel_rfl
theorem EY:Tryz.prog.underlying 68=some (.pointer 97):=by kernel_rfl
theorem Zy:tk Tryz.prog 95=.one:=by kernel_rfl
theorem Bt:zeroOf Tryz.prog 97=some [.nils,.nilm]:=by kernel_rfl
theorem Zc:QH Tryz.prog 97 0=some 0:=by kernel_rfl
theorem AB:QH Tryz.prog 97 1=some 1:=by kernel_rfl
theorem BB:CF Tryz.prog 97 [(0,1),(1,1)] [.nils,.nilm]:=⟨⟨_,Tryz.underlying97,by kernel_rfl,by kernel_rfl⟩,Bt⟩
theorem QQ:FU Tryz.prog 23 54 1:=⟨JS,by kernel_rfl,⟨_,Ut,rfl⟩,by kernel_rfl,by decide,by decide+kernel⟩
theorem EH:Tryz.prog.underlying 95=some (.map 9 3):=by kernel_rfl
end
section
open Go

section
variable {P:Program} {G:Env} {K:List (Nat×AV)} {st:St} {t yt e:TypeId} {x y:Operand}
theorem Yg{c m o:Nat}(ht:P.underlying t=some (.pointer e))(hx:QT G K x=some (.ptr c m o))(hy:QT G K y=some .nilp):U2 P G K (.binOp .eql t x y yt) st (.bool false) st:=
 UN hx hy (by
  show QJ (E6 (P.underlying t) (.ptr c m o)) (ob (EK (.ptr c m o) .nilp) fun b=>some (AV.bool b))=_
  rw[ht];rfl)
theorem xG{c m o:Nat}(ht:P.underlying t=some (.pointer e))(hx:QT G K x=some (.ptr c m o))(hy:QT G K y=some .nilp):U2 P G K (.binOp .neq t x y yt) st (.bool true) st:=
 UN hx hy (by
  show QJ (E6 (P.underlying t) (.ptr c m o)) (ob (EK (.ptr c m o) .nilp) fun b=>some (AV.bool !b))=_
  rw[ht];rfl)
end
end
section
open Go
variable {G:Env} {K:List (Nat×AV)} {P:Program} {e t:TypeId} {n:Nat} {st:St}

theorem Fb{x i:Operand}{c m off z:Nat}{k:IntKind}{j:Nat}(he:Wx P t=some (n,e))(hz:P.cellsOf e=z)(hx:QT G K x=some (.ptr c m off))(hi:QT G K i=some (.int k (j:Int)))(hj:j<n):
  U2 P G K (.indexAddr t x i) st (.ptr c m (off+j *z)) st:=.of fun T hT cc d ty pos af g=>by
 show ret (ob (Jq G T x) fun x=>ob (Jq G T i) fun i=>Yl P t x i) st=_;rw[hT.Jq hx,hT.Jq hi,Ql,Ql];show ret (ob (OE (j:Int)) fun i=>ob (Wx P t) fun q=>QJ (Nat.ble (i+1) q.1) (UB (off+i *P.cellsOf q.2) fun o=>some (AV.ptr c m o))) st=_;show ret (ob (Wx P t) fun q=>QJ (Nat.ble (j+1) q.1) (UB (off+j *P.cellsOf q.2) fun o=>some (AV.ptr c m o))) st=_;rw[he,Ql];show ret (QJ (Nat.ble (j+1) n) (UB (off+j *P.cellsOf e) fun o=>some (AV.ptr c m o))) st=_;rw[Nat.ble_eq_true_of_le hj,hz];show ret (UB (off+j *z) fun o=>some (AV.ptr c m o)) st=_;rw[Jh];rfl
theorem LF:Wx Tryz.prog 177=some (2,3):=by kernel_rfl
theorem Xe:Program.cellsOf Tryz.prog 3=1:=by kernel_rfl
theorem AT:Tryz.prog.underlying 177=some (.array 2 3):=by kernel_rfl
theorem ZK{parts:Array (Nat×Operand)}{k:Nat}{z r:List AV}{ps:List (Nat×AV)}(u:P.underlying t=some (.array n e))(ue:(P.underlying e).isSome=true)(hk:P.cellsOf e=k)(hz:zeroOf P t=some z)(hp:Zr (QT G K) parts=some ps)(hf:XP (fun i=>some (i *k,k)) ps z=some r):
  U2 P G K (.build t parts) st (.agg r) st:=.of fun T hT c d ty pos af g=>by
 show ret (Wv P t parts (Jq G T)) st=_;unfold Wv;simp only[u,ue,QO,hz,Ql,hT.parts hp,hk,hf,Ua];rfl
theorem IB:(Tryz.prog.underlying 3).isSome=true:=by kernel_rfl
theorem GY(a b x y:Int):Y0 Tryz.prog 177 [.int .i64 a,.int .i64 b] [.int .i64 x,.int .i64 y]=some (Qj (Hk a x) (Hk b y) false):=by kernel_rfl
def fE:AV→Bool
 |.nils=>true
 |_=>false
theorem G6{yt:TypeId}{x y:Operand}{kb:AV}(hn:YD kb=some n)(ht:P.underlying t=some (.slice e))(hx:QT G K x=some kb)(hy:QT G K y=some .nils):U2 P G K (.binOp .eql t x y yt) st (.bool (fE kb)) st:=
 UN hx hy (by
  cases kb<;>first|(cases hn;done)|skip
  all_goals
   show QJ (E6 (P.underlying t) _) (ob (EK _ .nils) fun b=>some (AV.bool b))=_
   rw[ht];rfl)
theorem Tj{kb:AV}(h:fE kb=true):kb=.nils:=by cases kb<;>first|rfl|cases h
end
section
open Go Go.RowKit
variable {c m:Nat}

abbrev U9:=List (Nat×Nat×List AV)
theorem Bu(l:List Int):(zC l).flatten=l.map H4:=by
 induction l with
 |nil=>rfl
 |cons z l ih=>rw[zC,List.map_cons,List.flatten_cons];show AV.int .i64 z::(zC l).flatten=_;rw[ih];rfl
inductive AN(n0:Nat):U9→AV→List Int→Prop
 |none:AN n0 [] .nils []
 |own {c m:Nat} {l:List Int} {rest:List AV} (hc:n0≤c) (hb:l.length≤1000000000):AN n0 [(c,m,l.map H4++rest)] (.sl c m 0 l.length 1) l
theorem AN.cell{n0:Nat}{A:U9}{ks:AV}{l:List Int}(h:AN n0 A ks l):Qr ks=true:=by cases h<;>rfl
theorem xz{h:Hp}{l:List Int}{rest:List AV}(r:Qx h c m (l.map H4++rest))(hb:l.length≤1000000000):Jg h [] 1 (zC l) (.sl c m 0 l.length 1):=by
 refine⟨by rw[Qp];rfl,by rw[Qp];omega,rfl,fun i cs hi=>?_,fun c' m' off n z' e=>?_⟩
 ·have hlt:=(List.getElem?_eq_some_iff.1 hi).1;rw[Qp]at hlt;rw[Jm (List.getElem?_eq_getElem hlt)]at hi
  injection hi with hi
  subst hi;refine⟨c,m,0,_,by rw[Qp],by simp,r.Jb,rfl,?_⟩
  have e1:(l.map H4++rest)[i]? =some (H4 l[i]):=by
   rw[List.getElem?_append_left (by rw[List.length_map];exact hlt),List.getElem?_map,List.getElem?_eq_getElem hlt];rfl
  obtain⟨hi2,e2⟩:=List.getElem?_eq_some_iff.1 e1;rw[Nat.zero_add,Nat.mul_one,List.drop_eq_getElem_cons hi2,e2];rfl
 ·injection e with e1 e2 e3 e4 e5
  subst e1 e2 e3 e4 e5;exact⟨by simp,_,r.Jb,by simp⟩
section
variable {h0:Hp} {n0:Nat} {X:List Nat} {st st':St} {M L A B:U9} {ks:AV} {l:List Int}
theorem Mem.vR(hM:Mem h0 n0 X st (L++(A++B))){n1:Nat}(hA:AN n1 A ks l):Jg st.h.get [] 1 (zC l) ks:=by
 cases hA with
 |none=>exact .nil _ _ _
 |own hc hb=>
  rename_i c m rest;exact xz (hM.row c m (l.map H4++rest) Q4) hb
theorem Mem.Ru(hM:Mem h0 n0 X st (L++((A++B)))){x:List AV}(h:(c,m,x)∈A):Qx st.h.get c m x:=hM.row c m x (by simp[h])
theorem Mem.yN{x x':List AV}(hM:Mem h0 n0 X st (L++((c,m,x)::B)))(q:vQ [c] st st')(hr:Qx st'.h.get c m x'):Mem h0 n0 X st' (L++((c,m,x')::B)):=by
 have hp:(L++(c,m,x)::B).Perm ((c,m,x)::(L++B)):=List.perm_middle;have h1:=hM.perm hp;have h2:=h1.yQ (k:=0) rfl q hr;exact Mem.perm (h2.cast (by rfl)) (List.perm_middle (l₁:=L) (l₂:=B) (a:=(c,m,x'))).symm
end
theorem YZ(l:List Int):(XV l).length=l.length:=List.length_mergeSort _
theorem qq(l:List Int):(AI l).length=l.length:=by
 have:=Zd l;simp[AI];omega
theorem Za{α:Type}{l:List α}(h:l.length=0):l=[]:=List.length_eq_zero_iff.1 h
section
variable {h0:Hp} {n0:Nat} {X:List Nat} {st:St} {L A B:U9} {ks:AV} {l:List Int}
theorem Gy(hM:Mem h0 n0 X st (L++(A++B)))(hA:Acc n0 1 A ks (zC l))(hb1:l.length≤1000000):
  ∃v st' A',Jf 66 [ks] st v st'∧v=.tup []∧Mem h0 n0 X st' (L++(A'++B))∧Acc n0 1 A' ks (zC (XV l)):=by
 have hb:=hA.W3;rw[Qp]at hb;have h00:XV []=[]:=Za (YZ []);generalize hg:zC l=ls at hA
 cases hA with
 |none=>
  have hl:l=[]:=Za (by have h:=congrArg List.length hg;rw[Qp]at h;exact h);subst hl;exact⟨_,st,[],KM (V0:=fun _=>.tup []) (F:=XV) (V:=LX) rfl hM.fresh,rfl,hM,by rw[h00];exact .none⟩
 |own hc hz hb'=>
  rename_i c m;subst hg
  by_cases hl:l=[]
  ·subst hl;exact⟨_,st,_,KL (V0:=fun _=>.tup []) (F:=XV) (V:=LX) rfl hM.fresh c m,rfl,hM,by rw[h00];exact .own hc hz hb'⟩
  ·have hrow:Qx st.h.get c m (zC l).flatten:=hM.Ru (A:=[(c,m,(zC l).flatten)]) Q4
   have hs:XY (zC l).flatten=some l:=by rw[Bu];exact Ew l
   obtain⟨v,st',h1,h2,h3,h4⟩:=NY (F:=XV) (V:=LX) (V0:=fun _=>.tup []) (G:=yz) (P:=Tryz.prog) (f:=66) rfl hM.fresh hrow hs hl hb1 (YZ _);rw[←Bu]at h3;refine⟨v,st',[(c,m,(zC (XV l)).flatten)],?_,h2,Mem.yN (L:=L) (B:=B) hM h4 h3,?_⟩
   ·rw[Qp];exact h1
   ·have:=Acc.own (m:=m) (ls:=zC (XV l)) hc (EW _) (by rw[Qp,YZ];exact hb);rw[Qp,YZ]at this;rw[Qp];exact this
theorem Bd(hM:Mem h0 n0 X st (L++(A++B)))(hA:Acc n0 1 A ks (zC l))(hb1:l.length≤1000000):
  ∃v st' A',Jf 67 [ks] st v st'∧AN n0 A' v (Lib.compact l)∧Mem h0 n0 X st' (L++(A'++B)):=by
 have hb:=hA.W3;rw[Qp]at hb;have h00:Lib.compact ([]:List Int)=[]:=Za (Nat.le_zero.1 (Zd []));generalize hg:zC l=ls at hA
 cases hA with
 |none=>
  have hl:l=[]:=Za (by have h:=congrArg List.length hg;rw[Qp]at h;exact h);subst hl;exact⟨.nils,st,[],KM (V0:=id) (F:=AI) (V:=EA) rfl hM.fresh,by rw[h00];exact .none,hM⟩
 |own hc hz hb'=>
  rename_i c m;subst hg
  by_cases hl:l=[]
  ·subst hl;refine⟨.sl c m 0 0 1,st,_,KL (V0:=id) (F:=AI) (V:=EA) rfl hM.fresh c m,?_,hM⟩;rw[h00];exact .own (l:=[]) (rest:=[]) hc Q4
  ·have hrow:Qx st.h.get c m (zC l).flatten:=hM.Ru (A:=[(c,m,(zC l).flatten)]) Q4
   have hs:XY (zC l).flatten=some l:=by rw[Bu];exact Ew l
   obtain⟨v,st',h1,rfl,h3,h4⟩:=NY (F:=AI) (V:=EA) (V0:=id) (G:=yz) (P:=Tryz.prog) (f:=67) rfl hM.fresh hrow hs hl hb1 (qq l);refine⟨EA c m l,st',[(c,m,(AI l).map H4)],?_,?_,Mem.yN (L:=L) (B:=B) hM h4 h3⟩
   ·rw[Qp];exact h1
   ·rw[AI,List.map_append];exact .own hc (Nat.le_trans (Zd l) hb)
theorem Tx(hM:Mem h0 n0 X st (L++(A++B))){n1:Nat}(hA:AN n1 A ks l)(hi:X5 l)(hb1:l.length≤1000000):
  ∃v st',Jf 87 [ks] st v st'∧v=.str (Zi l)∧Qt st st':=by
 have hq:Qt st st:=⟨hM.fresh,Nat.le_refl _,fun _ _=>rfl⟩
 cases hA with
 |none=>exact⟨.str [],st,⟨0,1,rfl⟩,rfl,hq⟩
 |own hc hb=>
  rename_i c m rest;obtain⟨vs,ms,h1,h2⟩:=hM.Ru (A:=[(c,m,l.map H4++rest)]) (c:=c) (m:=m) (x:=l.map H4++rest) Q4;have hall:l.all fH=true:=List.all_eq_true.2 fun z hz=>RQ.2 (hi z hz);refine⟨.str (Zi l),st,⟨0,1,?_⟩,rfl,hq⟩;show IF [.sl c m 0 l.length 1] st=_;unfold IF;simp only[h1,h2]
  have ht:(l.map H4++rest).take l.length=l.map H4:=by
   rw[List.take_append_of_le_length Q4,List.take_of_length_le Q4]
  rw[ht,Ew];simp only[];rw[if_pos ⟨trivial,hb1,hall⟩,LB hall]
end
end
section
open Go Go.RowKit
variable {c:Nat} {h:Hp} {ks:AV} {vs:List AV}

theorem Jg.frame{h':Hp}{z:Nat}{ls:List (List AV)}{v:AV}(r:Jg h [] z ls v)(e: ∀c m o n y,v=.sl c m o n y→h' c=h c):Jg h' [] z ls v:=
 ⟨r.len,r.W3,r.cell,fun i cs hi=>by
  obtain⟨c,m,off,cells,h1,h2,⟨ro,e1,vs,ms,h3,h4⟩,h5⟩:=r.at_ i cs hi
  exact⟨c,m,off,cells,h1,h2,⟨ro,e1,vs,ms,by rw[e c m off _ _ h1];exact h3,h4⟩,h5⟩,fun c m off n z' e'=>by
  obtain⟨h1,cells,⟨ro,e1,vs,ms,h3,h4⟩,h5⟩:=r.alive c m off n z' e'
  exact⟨h1,cells,⟨ro,e1,vs,ms,by rw[e c m off n z' e'];exact h3,h4⟩,h5⟩⟩
theorem Qx.frame{h':Hp}{m:Nat}{l:List AV}(r:Qx h c m l)(e:h' c=h c):Qx h' c m l:=by
 obtain⟨vs,ms,h1,h2⟩:=r;exact⟨vs,ms,by rw[e];exact h1,h2⟩
theorem Qx.Th{m c':Nat}{l:List AV}{es:List (AV×AV×Nat)}{k:Nat}(r:Qx h c m l)(hm:h c'=some (.map es k)):c≠c':=by
 rintro rfl
 obtain⟨vs,ms,h1,_⟩:=r;rw[h1]at hm;cases hm
inductive YS:U9→AV→List AV→Prop
 |none:YS [] .nils []
 |own {c m:Nat} {vs:List AV} (hb:vs.length≤1000000000):YS [(c,m,vs)] (.sl c m 0 vs.length 1) vs
theorem YS.len{A:U9}(h:YS A ks vs):YD ks=some vs.length:=by cases h<;>rfl
theorem YS.cell{A:U9}(h:YS A ks vs):Qr ks=true:=by cases h<;>rfl
theorem YS.rd{A:U9}(h:YS A ks vs){hp:Hp}(hr: ∀c m l,(c,m,l)∈A→Qx hp c m l):Jg hp [] 1 (vs.map fun v=>[v]) ks:=by
 cases h with
 |none=>exact .nil _ _ _
 |own hb=>
  rename_i c m;have h1:=hr c m vs Q4
  have e:(vs.map fun v=>[v]).flatten=vs:=by
   clear h1 hr hb
   induction vs with
   |nil=>rfl
   |cons v vs ih=>rw[List.map_cons,List.flatten_cons,ih];rfl
  have:=Jg.own (X:=[]) (z:=1) (ls:=vs.map fun v=>[v]) (c:=c) (m:=m) (by rw[e];exact h1) Q4 Q4 (by rw[List.length_map];omega);rw[List.length_map]at this;exact this
def XX:Nat→List (List Int)→List Int→Option Nat
 |_,[],_=>none
 |j,x::L,s=>if x=s then some j else XX (j+1) L s
def WX:Nat→List (List Int)→List (AV×AV)
 |_,[]=>[]
 |j,x::L=>(.str (Zi x),.int .i64 (j:Int))::WX (j+1) L
def wM(e:AV×AV×Nat):AV×AV:=(e.1,e.2.1)
theorem Of: ∀(j:Nat) (L:List (List Int)) (s:List Int),WX j (L++[s])=WX j L++[(.str (Zi s),.int .i64 (j+L.length:Nat))]
 |j,[],s=>by simp[WX]
 |j,x::L,s=>by
  rw[List.cons_append,WX,WX,Of (j+1) L s,List.cons_append,List.length_cons,show j+1+L.length=j+(L.length+1) by omega]
theorem GA: ∀{L:List (List Int)} {j i:Nat} {s:List Int},XX j L s=some i→j≤i∧L[i-j]? =some s
 |[],j,i,s,h=>by cases h
 |x::L,j,i,s,h=>by
  rw[XX]at h
  split at h
  ·rename_i e
   injection h with h
   subst h e;exact⟨Nat.le_refl _,by rw[Nat.sub_self];rfl⟩
  ·obtain⟨h1,h2⟩:=GA h;refine⟨by omega,?_⟩;rw[show i-j=(i-(j+1))+1 by omega];exact h2
theorem IN: ∀{L:List (List Int)} {j:Nat} {s:List Int},XX j L s=none→s∉L
 |[],j,s,_=>by simp
 |x::L,j,s,h=>by
  rw[XX]at h
  split at h
  ·cases h
  ·rename_i e;intro hm;rcases List.mem_cons.1 hm with e'|hm
   ·exact e e'.symm
   ·exact IN h hm
theorem NU(s:List Int): ∀(L:List (List Int)) (es:List (AV×AV×Nat)) (j:Nat),es.map wM=WX j L→NV .string (.str (Zi s)) es j=some ((XX j L s).map fun i=>(i,.int .i64 (i:Int))):=by
 intro L
 induction L with
 |nil=>
  intro es j h
  cases es with
  |nil=>rfl
  |cons e es=>cases h
 |cons x L ih=>
  intro es j h
  cases es with
  |nil=>cases h
  |cons e es=>
   rw[List.map_cons,WX]at h
   injection h with h1 h2
   obtain⟨e1,e2,e3⟩:=e
   injection h1 with h1 h3
   have h1:e1=.str (Zi x):=h1;have h3:e2=.int .i64 (j:Int):=h3;subst h1 h3;rw[VD,XX];show(ob (some (GW (Zi s) (Zi x))) fun b=>Qj b _ _)=_;rw[Ql,Xd]
   by_cases hx:x=s
   ·subst hx;rw[if_pos rfl,decide_eq_true rfl];rfl
   ·rw[if_neg hx,decide_eq_false (fun e=>hx (DQ e).symm),Qs];exact ih es (j+1) h2
def MA(L:List (List Int))(l:List Int):Nat:=(XX 0 L (JP l)).getD L.length
def F6(L:List (List Int))(l:List Int):List (List Int):=if(XX 0 L (JP l)).isSome then L else L++[JP l]
section
variable {G:Env} {K:List (Nat×AV)} {st:St} {cm n:Nat} {es:List (AV×AV×Nat)} {L:List (List Int)} {s:List Int} {m k x:Operand}
theorem RA(hm:QT G K m=some (.mp cm))(hk:QT G K k=some (.str (Zi s)))(hc:st.h.get cm=some (.map es n))(he:es.map wM=WX 0 L):
  U2 Tryz.prog G K (.lookup 95 m k true) st (.tup [.int .i64 ((XX 0 L s).getD 0:Nat),.bool (XX 0 L s).isSome]) st:=.of fun T hT c d ty pos af g=>by
 show(ob (Jq G T m) fun m=>ob (Jq G T k) fun k=>ret (Vr Tryz.prog 95 m k true st.h.get) st)=_;rw[hT.Jq hm,hT.Jq hk,Ql,Ql];unfold Vr
 have hz:zeroV Tryz.prog 3=some (.int .i64 0):=by kernel_rfl
 have hfd:Yz Tryz.prog 9 .string (.str (Zi s)) es 0=some ((XX 0 L s).map fun i=>(i,.int .i64 (i:Int))):=NU s L es 0 he;have hko:Wq Tryz.prog 9 .string (.str (Zi s))=true:=rfl;simp only[EH,W8,hc,Ql,hfd,hko,QO]
 cases hn:XX 0 L s with
 |none=>
  simp only[Option.map_none,hz,Ql];rfl
 |some i=>rfl
noncomputable def WO(st:St)(cm n:Nat)(es:List (AV×AV×Nat))(s:List Int)(z:Int):St:=⟨st.n,st.h.set cm (.map (es++[(.str (Zi s),.int .i64 z,n)]) (n+1))⟩
theorem xI{z:Int}(hm:QT G K m=some (.mp cm))(hk:QT G K k=some (.str (Zi s)))(hx:QT G K x=some (.int .i64 z))(hc:st.h.get cm=some (.map es n))(he:es.map wM=WX 0 L)(hn:XX 0 L s=none):
  U2 Tryz.prog G K (.mapUpdate 95 m k x) st (.tup []) (WO st cm n es s z):=.of fun T hT c d ty pos af g=>by
 show(ob (Jq G T m) fun m=>ob (Jq G T k) fun k=>ob (Jq G T x) fun x=>Z1 Tryz.prog 95 m k x st)=_;rw[hT.Jq hm,hT.Jq hk,hT.Jq hx,Ql,Ql,Ql];unfold Z1 WO;have hfd:Yz Tryz.prog 9 .string (.str (Zi s)) es 0=some ((XX 0 L s).map fun i=>(i,.int .i64 (i:Int))):=NU s L es 0 he;have hko:Wq Tryz.prog 9 .string (.str (Zi s))=true:=rfl;rw[hn,Option.map_none]at hfd;simp only[EH,W8,hc,Ql,hfd,hko,QO];show(QJ true _)=_;simp only[QO,Ua,U4,Jh,UI]
end
section
variable {G:Env} {N:Nat} {ops:List Oper} {T:Tr AV} {K:List (Nat×AV)} {st:St} {sn:List St} {r:List (Nat×Nat)} {R:Tr AV→St→Prop} {i:Nat} {ty:TypeId} {pos:String} {af:Array Edge} {cm n:Nat} {es:List (AV×AV×Nat)} {L:List (List Int)} {s:List Int} {m k x:Operand} {z:Int}
theorem zP(ho:ops[i]? =some ⟨none,.mapUpdate 95 m k x,ty,pos,af,none⟩)(hK:QS K T)(hm:QT G K m=some (.mp cm))(hk:QT G K k=some (.str (Zi s)))(hx:QT G K x=some (.int .i64 z))(hc:st.h.get cm=some (.map es n))(he:es.map wM=WX 0 L)(hn:XX 0 L s=none)
  (hr:WD Tryz.prog G N ops (r.map (Yo ops)) R T (WO st cm n es s z) (WO st cm n es s z::sn)):WD Tryz.prog G N ops (((i,0)::r).map (Yo ops)) R T st sn:=by
 rw[YY ho];exact Vm rfl (xI hm hk hx hc he hn T hK _ _ _ _ _) rfl (fun e he=>by cases he) hr
end
theorem RG(st:St)(cm n:Nat)(es:List (AV×AV×Nat))(s:List Int)(z:Int):(WO st cm n es s z).h.get cm=some (.map (es++[(.str (Zi s),.int .i64 z,n)]) (n+1)):=by
 unfold WO;rw[JD];exact Uk _ _ _
theorem A3(st:St){cm:Nat}(n:Nat)(es:List (AV×AV×Nat))(s:List Int)(z:Int)(h:c≠cm):(WO st cm n es s z).h.get c=st.h.get c:=by
 unfold WO;rw[JD,YT _ _ h]
theorem DD{st:St}(hf:Qi st){cm:Nat}(hc:cm<st.n)(n:Nat)(es:List (AV×AV×Nat))(s:List Int)(z:Int):Qi (WO st cm n es s z):=fun c hle=>by
 have hle:st.n≤c:=hle;rw[A3 _ _ _ _ _ Qc];exact hf c hle
theorem Mz{P:Program}{G:Env}{K:List (Nat×AV)}{st:St}{t:TypeId}{x:Operand}{lo hi:Option Operand}{v:AV}{l:List Int}{a b:Nat}(he:Ue P t=some 1)(r:Jg h [] 1 (zC l) v)(hs:v=.nils∨ ∃c m o n,v=.sl c m o n 1)(hx:QT G K x=some v)(hl:YP (QT G K) lo=some a)(hh:YQ (QT G K) hi l.length=some b)(h1:a≤b)(h2:b≤l.length):
  ∃v2,U2 P G K (.slice t x lo hi none) st v2 st∧Jg h [] 1 (zC ((l.drop a).take (b-a))) v2∧Qr v2=true:=by
 have hlen:=r.len;rw[Qp]at hlen;rcases hs with rfl|⟨c,m,o,n,rfl⟩
 ·have hl0:l=[]:=by injection hlen with hlen;exact Za hlen.symm
  subst hl0
  have ha:a=0:=by simp at h2;omega
  have hb:b=0:=by simpa using h2
  subst ha hb;exact⟨.nils,M1 he hx hl hh,.nil _ _ _,rfl⟩
 ·injection hlen with hlen
  subst hlen;have h3:=M3 (st:=st) he hx hl hh h1 h2;have hbnd:=r.W3;rw[Qp]at hbnd
  refine⟨_,h3,?_,by cases Qj (Nat.beq a 0) true (Nat.ble (a+1) l.length)<;>rfl⟩
  have hln:((l.drop a).take (b-a)).length=b-a:=by rw[List.length_take,List.length_drop];omega
  by_cases hc:Qj (Nat.beq a 0) true (Nat.ble (a+1) l.length)=true
  ·rw[hc,Q0,Nat.mul_one];refine⟨by rw[Qp,hln];rfl,by rw[Qp,hln];omega,rfl,fun i cs hi=>?_,fun c' m' off' n' z' e'=>?_⟩
   ·have hlt:=(List.getElem?_eq_some_iff.1 hi).1;rw[Qp,hln]at hlt
    have hg:((l.drop a).take (b-a))[i]? =l[a+i]? :=by rw[List.getElem?_take_of_lt hlt,List.getElem?_drop]
    rw[zC,List.getElem?_map,hg]at hi
    have hi2:(zC l)[a+i]? =some cs:=by rw[zC,List.getElem?_map];exact hi
    obtain⟨c2,m2,J2,cells2,e1,e2,e3,e4,e5⟩:=r.at_ _ _ hi2
    injection e1 with x1 x2 x3 x4 x5
    subst x1 x2 x3;exact⟨c,m,o+a,cells2,by rw[Qp,hln],e2,e3,e4,by rw[←e5];congr 1;rw[Nat.mul_one,Nat.mul_one,Nat.add_assoc]⟩
   ·injection e' with x1 x2 x3 x4 x5
    subst x1 x2 x3 x4;obtain⟨q1,cs,q2,q3⟩:=r.alive c m o _ 1 rfl;exact⟨q1,cs,q2,by omega⟩
  ·have hcf:Qj (Nat.beq a 0) true (Nat.ble (a+1) l.length)=false:=by simpa using hc
   rw[hcf,Qs]
   have hal:l.length≤a:=by
    rcases Nat.lt_or_ge a l.length with h|h
    ·rw[Nat.ble_eq_true_of_le h]at hcf
     cases hb0:Nat.beq a 0<;>rw[hb0]at hcf<;>cases hcf
    ·exact h
   have h00:(l.drop a).take (b-a)=[]:=Za (by rw[hln];omega);rw[h00];exact⟨rfl,by simp[zC],rfl,fun i cs hi=>by simp[zC]at hi,fun _ _ _ _ _ e=>by cases e⟩
end
end Go.Proofs.YtiknomepbklibaaGreatDoor
