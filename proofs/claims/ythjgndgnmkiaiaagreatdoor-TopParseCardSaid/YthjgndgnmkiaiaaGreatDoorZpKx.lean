/-
  The second of two formulas; both together.
-/
import Derived.Test.YthjgndgnmkiaiaaGreatDoorZpEnX
set_option maxRecDepth 1000000
set_option linter.unusedVariables false
namespace Go.Proofs.YthjgndgnmkiaiaaGreatDoor
section
open Go Go.RowKit

def iz:List Nat:=[101,120,49,32,120,58,32,97,108,108,49,32,121,58,32,121,32,60,61,32,120,59]
theorem uc:Ml 3 (U9 Tryz.prog eJ 10000 1000 23 [.str iz,.int .i64 1000] ⟨0,.nil⟩)=true:=by decide+kernel
end
section
open Go Go.RowKit

theorem Gf{P:Program}{G:Env}(hG0: ∀g,G.g g=false)(hE:WT P G)(hm:P.follows .mixedOrders=true){f:FuncId}{args:List AV}{L fuel:Nat}{z:Int}(hargs:YN (Tr.nil:Tr Av).get args)(h:Ml z (U9 P G L fuel f args ⟨0,.nil⟩)=true)(w:World)(hi:G.i w):
  Calls P f (Qn (fun _ _=>none) args).toArray w fun e w'=> ∃a b c d,e=.returned (.agg #[.int .i64 z,a,b,c,d])∧Below w.heap.size w w':=by
 unfold Ml at h
 split at h
 ·rename_i t x1 x2 x3 x4 st' hr;rw[Z1]at h
  have h:t=z:=by simpa using h
  subst h;have H:HR w (fun _ _=>none) (Tr.nil:Tr Av).get w:=⟨rfl,rfl,rfl,Nat.le_refl _,fun _ _=>rfl,fun c m x hx=>(by cases hx),fun c m x hx=>(by cases hx),fun c m x c' m' x' hx=>(by cases hx),fun c C hc=>(by cases hc)⟩;have hcalls:=((Kt (Km hm) hE L fuel f args ⟨0,.nil⟩ _ st' hr (fun _ _=>rfl) hargs).2 w _ w H ⟨fun g hg=>(by rw[hG0]at hg;cases hg),hi⟩).2;refine hcalls.mono fun e w'=>?_
  rintro⟨p',rfl,hs,_⟩
  exact⟨_,_,_,_,rfl,hs.hr.os,hs.hr.tape,hs.hr.output,hs.hr.size,hs.hr.old⟩
 ·cases h
theorem jI(w:World)(hT:VC w):Calls Tryz.prog 9 #[] w fun e w'=>e=.returned (.bool true)∧Below w.heap.size w w':=by
 have h1:=Gf (fun _=>rfl) MU mixed (by unfold lR;simp[YN,WF,Bytes]) ud w hT;have h1:Calls Tryz.prog 23 #[.string ⟨#[97,108,108,49,32,120,58,32,101,120,49,32,121,58,32,120,32,60,32,121,59]⟩,.int .i64 1000] w fun e w'=> ∃a b c d,e=.returned (.agg #[.int .i64 1,a,b,c,d])∧Below w.heap.size w w':=h1;have h2: ∀w1,VC w1→Calls Tryz.prog 23 #[.string ⟨#[101,120,49,32,120,58,32,97,108,108,49,32,121,58,32,121,32,60,61,32,120,59]⟩,.int .i64 1000] w1 fun e w'=> ∃a b c d,e=.returned (.agg #[.int .i64 3,a,b,c,d])∧Below w1.heap.size w1 w':=fun w1 hT1=>Gf (fun _=>rfl) MU mixed (args:=[.str iz,.int .i64 1000]) (by unfold iz;simp[YN,WF,Bytes]) uc w1 hT1;have H1:=Lib.hid h1;have H2:=Lib.hid h2;have HT:=Lib.hid hT;clear h1 h2 hT
 have u69: ∀(w:World) (x:Int) (a b c d:Value),Sem.run Tryz.prog (Instr.field 69 (Value.agg #[Value.int .i64 x,a,b,c,d]) 0) w=.ok (.int .i64 x) w:=fun _ _ _ _ _ _=>by kernel_rfl
 go_enter Tryz.func9,Tryz.ntmps9
 go_wp2_with fail
 refine H1.out.mono ?_
 rintro e w1 ⟨a,b,c,d,rfl,hb1⟩
 have HT1:=Lib.hid (VC.below HT.out hb1)
 go_wp2_with fail
 refine(H2.out w1 HT1.out).mono ?_
 rintro e w2 ⟨a2,b2,c2,d2,rfl,hb2⟩
 go_wp2
 go_ret
 exact⟨rfl,hb1.trans (hb2.mono hb1.size)⟩
theorem PT{G:Env}(hI: ∀w0 w,G.i w0→Below w0.heap.size w0 w→VC w):Vh Tryz.prog G 9 C5:=by
 intro args st v st' hs hf ha
 cases args with
 |cons a l=>cases hs
 |nil=>
  injection hs with hs
  injection hs with e1 e2
  subst e1 e2;refine⟨⟨_,Tryz.func9,rfl,by decide⟩,fun w0 p w H hG=>⟨Ab.refl _,?_⟩⟩;refine(jI w (hI w0 w hG.2 H.under)).mono fun e w' he=>?_;obtain⟨rfl,hb⟩:=he;exact⟨p,rfl,H.Zy hb,trivial⟩
end
end Go.Proofs.YthjgndgnmkiaiaaGreatDoor
