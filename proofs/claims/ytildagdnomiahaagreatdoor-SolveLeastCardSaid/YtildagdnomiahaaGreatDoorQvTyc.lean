/-
  Core formulas that are read off rows that are said.
-/
import Derived.Test.YtildagdnomiahaaGreatDoorQvRws
namespace Go.Proofs.YtildagdnomiahaaGreatDoor
section
open Go Go.RowKit
set_option linter.unusedVariables false
set_option linter.unusedSimpArgs false
set_option linter.unusedSectionVars false
variable {a b c n:Int} {cs:List AV} {i:Nat} {o:List Nat}

inductive Cr where
 |mk (op:List Nat) (a b c n:Int) (kids:List Cr)
def Cr.op:Cr→List Nat
 |.mk o _ _ _ _ _=>o
def Cr.kids:Cr→List Cr
 |.mk _ _ _ _ _ l=>l
inductive Yr(R:W5):Cr→List AV→Prop
 |leaf {o:List Nat} {a b c n:Int} {ks:AV} (hs:J8 ks=some 0) (ha:xV ks=true):Yr R (.mk o a b c n []) [.str o,.int .i64 a,.int .i64 b,.int .i64 c,.int .i64 n,ks]
 |node {o:List Nat} {a b c n:Int} {kids:List Cr} {x m off:Nat} {cells:List AV} (hr:R x m cells) (hn:(kids.length:Int)≤9223372036854775807) (hl:off+kids.length *6≤cells.length)
  (hk: ∀(i:Nat) (k:Cr),kids[i]? =some k→Yr R k ((cells.drop (off+i *6)).take 6)):Yr R (.mk o a b c n kids) [.str o,.int .i64 a,.int .i64 b,.int .i64 c,.int .i64 n,.sl x m off kids.length 6]
theorem Yr.mono{R R':W5}(hl: ∀c m l,R c m l→R' c m l){t:Cr}(r:Yr R t cs):Yr R' t cs:=by
 induction r with
 |leaf hs ha=>exact .leaf hs ha
 |node hr hn hl' hk ih=>exact .node (hl _ _ _ hr) hn hl' ih
inductive Y4(R:W5):List Cr→AV→List (List AV)→Prop
 |none {kk:AV} (hs:J8 kk=some 0) (ha:xV kk=true):Y4 R [] kk []
 |row {kids:List Cr} {ls:List (List AV)} {c m off:Nat} {cells:List AV} (hr:R c m cells) (hn:(kids.length:Int)≤9223372036854775807) (hl:off+kids.length *6≤cells.length) (hls:ls.length=kids.length)
  (hcs: ∀(i:Nat) (cs:List AV),ls[i]? =some cs→cs=(cells.drop (off+i *6)).take 6) (hk: ∀(i:Nat) (k:Cr) (cs:List AV),kids[i]? =some k→ls[i]? =some cs→Yr R k cs):Y4 R kids (.sl c m off kids.length 6) ls
section
variable {R:W5} {kids:List Cr} {kk:AV} {ls:List (List AV)}
theorem Y4.ln(K:Y4 R kids kk ls):ls.length=kids.length:=by
 cases K with
 |none=>rfl
 |row _ _ _ h=>exact h
theorem Y4.len(K:Y4 R kids kk ls):J8 kk=some kids.length:=by
 cases K with
 |none hs ha=>exact hs
 |row=>rfl
theorem Y4.cell(K:Y4 R kids kk ls):Qw kk=true:=Lt K.len
theorem Y4.AW(K:Y4 R kids kk ls):(kids.length:Int)≤9223372036854775807:=by
 cases K with
 |none=>simp
 |row _ h=>exact h
theorem Y4.get(K:Y4 R kids kk ls){k:Cr}(hi:kids[i]? =some k): ∃cs,ls[i]? =some cs∧Yr R k cs:=by
 have hlt:i<ls.length:=by rw[K.ln];exact(List.getElem?_eq_some_iff.1 hi).1
 refine⟨_,List.getElem?_eq_getElem hlt,?_⟩
 cases K with
 |none=>simp at hi
 |row _ _ _ _ _ hk=>exact hk i k _ hi (List.getElem?_eq_getElem hlt)
theorem Y4.r(K:Y4 R kids kk ls){h:Hp}(hi:X1 R h):Jg h [] 6 ls kk:=by
 cases K with
 |none hs ha=>exact⟨hs,by simp,Lt hs,fun i cs hi=>by simp at hi,fun c m off n z e=>by subst e;cases ha⟩
 |row hr hn hl hls hcs hk=>
  rename_i c m off cells;refine⟨by rw[hls];rfl,by rw[hls];exact hn,rfl,fun i cs he=>?_,fun c' m' off' n' z e=>?_⟩
  ·have hlt:=(List.getElem?_eq_some_iff.1 he).1;have:=hcs i cs he;refine⟨c,m,off,cells,by rw[hls],by simp,hi _ _ _ hr,?_,this.symm⟩;rw[this,List.length_take,List.length_drop];omega
  ·injection e with e1 e2 e3 e4 e5
   subst e1 e2 e3 e4 e5;exact⟨by simp,cells,hi _ _ _ hr,hl⟩
end
theorem Yr.uw{R:W5}{k:Cr}(r:Yr R k cs):cs.length=6:=by cases r<;>rfl
theorem Yr.ZG{R:W5}{kids:List Cr}(r:Yr R (.mk o a b c n kids) cs):
  ∃kk ls,cs=[.str o,.int .i64 a,.int .i64 b,.int .i64 c,.int .i64 n,kk]∧Y4 R kids kk ls:=by
 cases r with
 |leaf hs ha=>exact⟨_,[],rfl,.none hs ha⟩
 |node hr hn hl hk=>
  rename_i x m off cells
  have hlen:((List.range kids.length).map fun i=>(cells.drop (off+i *6)).take 6).length=kids.length:=by simp
  have hat: ∀(i:Nat) (cs:List AV),((List.range kids.length).map fun i=>(cells.drop (off+i *6)).take 6)[i]? =some cs→i<kids.length∧cs=(cells.drop (off+i *6)).take 6:=by
   intro i cs hi;rw[List.getElem?_map]at hi
   have hlt:i<kids.length:=by
    by_cases h:i<kids.length
    ·exact h
    ·rw[List.getElem?_eq_none (by simp;omega)]at hi;cases hi
   rw[List.getElem?_range hlt]at hi
   injection hi with hi
   exact⟨hlt,hi.symm⟩
  refine⟨_,(List.range kids.length).map fun i=>(cells.drop (off+i *6)).take 6,rfl,.row hr hn hl hlen (fun i cs hi=>(hat i cs hi).2) fun i k cs h1 h2=>?_⟩;rw[(hat i cs h2).2];exact hk i k h1
theorem Yr.er{R:W5}{k:Cr}(r:Yr R k cs): ∃o a b c n l kk ls,k=.mk o a b c n l∧cs=[.str o,.int .i64 a,.int .i64 b,.int .i64 c,.int .i64 n,kk]∧Y4 R l kk ls:=by
 obtain⟨o,a,b,c,n,l⟩:=k;obtain⟨kk,ls,e,K⟩:=r.ZG;exact⟨o,a,b,c,n,l,kk,ls,rfl,e,K⟩
theorem Yr.shape{R:W5}{k:Cr}{kk:AV}(r:Yr R k [.str o,.int .i64 a,.int .i64 b,.int .i64 c,.int .i64 n,kk]): ∃l ls,k=.mk o a b c n l∧Y4 R l kk ls:=by
 obtain⟨o1,a1,b1,c1,n1,l,kk',ls,e1,e,K⟩:=r.er
 injection e with x1 e;injection e with x2 e;injection e with x3 e;injection e with x4 e;injection e with x5 e;injection e with x6 e
 injection x1 with x1;injection x2 with _ x2;injection x3 with _ x3;injection x4 with _ x4;injection x5 with _ x5
 subst x1 x2 x3 x4 x5 x6;exact⟨l,ls,e1,K⟩
theorem Yr.H8{R:W5}{k:Cr}{a b c d e kk:AV}(r:Yr R k [a,b,c,d,e,kk]):Qw kk=true:=by
 obtain⟨o1,a1,b1,c1,n1,l,kk',ls,e1,e,K⟩:=r.er
 injection e with x1 e;injection e with x2 e;injection e with x3 e;injection e with x4 e;injection e with x5 e;injection e with x6 e
 subst x6;exact K.cell
theorem LQ{R:W5}:Yr R (.mk o a b c n []) [.str o,.int .i64 a,.int .i64 b,.int .i64 c,.int .i64 n,.nils]:=.leaf rfl rfl
mutual
def Xx:Cr→Nat
 |.mk _ _ _ _ _ l=>Xy l+1
def Xy:List Cr→Nat
 |[]=>0
 |k::l=>Xx k+Xy l
end
theorem xd(k:Cr):1≤Xx k:=by cases k;rw[Xx];omega
theorem qU{k:Cr}{l:List Cr}(h:k∈l):Xx k≤Xy l:=by
 induction l with
 |nil=>cases h
 |cons x l ih=>
  rw[Xy];rcases List.mem_cons.1 h with rfl|h
  ·omega
  ·have:=ih h;omega
theorem TF{l:List Cr}{k:Cr}(h:l[i]? =some k):Xy (l.drop i)=Xx k+Xy (l.drop (i+1)):=by
 obtain⟨h1,h2⟩:=List.getElem?_eq_some_iff.1 h;rw[List.drop_eq_getElem_cons h1,Xy,h2]
theorem BE{M:Cr→Prop}(h: ∀o a b g n kids,(∀k,k∈kids→M k)→M (.mk o a b g n kids))(k:Cr):M k:=by
 have: ∀n k,Xx k≤n→M k:=by
  intro n
  induction n with
  |zero=>intro k hk;cases k;rw[Xx]at hk;omega
  |succ n ih=>
   intro k hk
   cases k with
   |mk o a b g z kids=>
    rw[Xx]at hk;exact h _ _ _ _ _ _ fun k hm=>ih k (by have:=qU hm;omega)
 exact this _ k (Nat.le_refl _)
theorem yB{l:List Cr}{k:Cr}(h:l[i]? =some k):k∈l:=List.mem_of_getElem? h
theorem Iw{l:List Cr}(h:l.length≤i):l.drop i=[]:=List.drop_eq_nil_of_le h
def ZQ(o:List Nat):List Nat×Int×Bool:=
 if [116,114,117,101]=o then([],0,true)else if [115,117,98]=o then([65,66],0,true)else if [115,105,110,103]=o then([65],0,true)else if [102,108,97,103]=o then([65],0,true)
 else if [110,111,110,101]=o then([65],0,true)else if [108,101,115,115]=o then([65,66],0,true)else if [112,108,117,115]=o then([65,66,78],0,true)else if [110,117,109]=o then([65,78],0,true)
 else if [117,110,105,111,110]=o then([65,66,67],0,true)else if [105,110,116,101,114]=o then([65,66,67],0,true)else if [109,105,110,117,115]=o then([65,66,67],0,true)
 else if [110,111,116]=o then([],1,true)else if [97,110,100]=o then([],2,true)else if [101,120]=o then([65],1,true)else([],0,false)
def Yj(h:List Nat)(k:Nat)(v n:Int):Bool:=if k∈h then decide (0≤v)&&decide (v<n)else decide (v=0)
mutual
def Ja : Cr → Int → Bool
  | .mk o a b g n l, m => (ZQ o).2.2 && (decide (((l.length : Nat) : Int) = (ZQ o).2.1) && (Yj (ZQ o).1 78 n 21 && (if o = [101, 120] then decide (a = m) && (decide (m < 6) && (decide (b = 0) && (decide (g = 0) && H4 l (m + 1))))
    else Yj (ZQ o).1 65 a m && (Yj (ZQ o).1 66 b m && (Yj (ZQ o).1 67 g m && H4 l m)))))
def H4 : List Cr → Int → Bool
  | [], _ => true
  | k :: l, m => Ja k m && H4 l m
end
theorem Gm{l:List Cr}{m:Int}(h:H4 l m=true){k:Cr}(hk:k∈l):Ja k m=true:=by
 induction l with
 |nil=>cases hk
 |cons x l ih=>
  rw[H4,Bool.and_eq_true]at h;rcases List.mem_cons.1 hk with rfl|hk
  ·exact h.1
  ·exact ih h.2 hk
end
section
open Go
set_option maxRecDepth 100000

theorem JP:tk Tryz.prog 199=.one:=by kernel_rfl
theorem VX:UX Tryz.prog 199=some 1:=by kernel_rfl
theorem VS:Tryz.prog.underlying 199=some (.slice 4):=by kernel_rfl
theorem UI:JQ Tryz.prog 199=some 1:=by kernel_rfl
theorem Cv:tk Tryz.prog 201=.agg 3:=by kernel_rfl
theorem Xh:UX Tryz.prog 201=some 3:=by kernel_rfl
theorem El:zeroOf Tryz.prog 201=some [.int .i64 0,.nils,.nils]:=by kernel_rfl
theorem O0:Q5 Tryz.prog 201 0=some 0:=by kernel_rfl
theorem Oz:Q5 Tryz.prog 201 1=some 1:=by kernel_rfl
theorem Oy:Q5 Tryz.prog 201 2=some 2:=by kernel_rfl
theorem U6(l:List AV):Is Tryz.prog 201 (.agg l) 2=YJ Tryz.prog 167 l 2:=by kernel_rfl
theorem IF:P3 Tryz.prog 201 [(0,1),(1,1),(2,1)] [.int .i64 0,.nils,.nils]:=⟨⟨_,Tryz.underlying201,by kernel_rfl,by kernel_rfl⟩,El⟩
theorem HU:tk Tryz.prog 86=.one:=by kernel_rfl
theorem HQ:Tryz.prog.underlying 86=some (.pointer 123):=by kernel_rfl
theorem Ua:tk Tryz.prog 124=.one:=by kernel_rfl
theorem AK:zeroOf Tryz.prog 124=some [.nilp]:=by kernel_rfl
theorem J7:Tryz.prog.underlying 124=some (.pointer 250):=by kernel_rfl
theorem Ej:zeroOf Tryz.prog 123=some [.int .i64 0,.bool false]:=by kernel_rfl
theorem Ip:Q5 Tryz.prog 123 0=some 0:=by kernel_rfl
theorem Io:Q5 Tryz.prog 123 1=some 1:=by kernel_rfl
theorem Lo:P3 Tryz.prog 123 [(0,1),(1,1)] [.int .i64 0,.bool false]:=⟨⟨_,Tryz.underlying123,by kernel_rfl,by kernel_rfl⟩,Ej⟩
theorem AH:zeroOf Tryz.prog 296=some [.nilp,.nilp]:=by kernel_rfl
theorem Kk:Q5 Tryz.prog 296 0=some 0:=by kernel_rfl
theorem Kj:Q5 Tryz.prog 296 1=some 1:=by kernel_rfl
theorem NO:P3 Tryz.prog 296 [(0,1),(1,1)] [.nilp,.nilp]:=⟨⟨_,Tryz.underlying296,by kernel_rfl,by kernel_rfl⟩,AH⟩
theorem Jo:tk Tryz.prog 205=.one:=by kernel_rfl
theorem Zy:Tryz.prog.underlying 205=some (.pointer 257):=by kernel_rfl
theorem I8:zeroOf Tryz.prog 250=some [.nils,.nils,.nilp]:=by kernel_rfl
theorem Om:Q5 Tryz.prog 250 0=some 0:=by kernel_rfl
theorem Ol:Q5 Tryz.prog 250 1=some 1:=by kernel_rfl
theorem Oj:Q5 Tryz.prog 250 2=some 2:=by kernel_rfl
theorem IE:P3 Tryz.prog 250 [(0,1),(1,1),(2,1)] [.nils,.nils,.nilp]:=⟨⟨_,Tryz.underlying250,by kernel_rfl,by kernel_rfl⟩,I8⟩
theorem WX:Tryz.prog.underlying 193=some (.slice 124):=by kernel_rfl
theorem YY:JQ Tryz.prog 193=some 1:=by kernel_rfl
theorem JZ:tk Tryz.prog 254=.one:=by kernel_rfl
theorem AN:UX Tryz.prog 254=some 1:=by kernel_rfl
theorem ZV:Tryz.prog.underlying 254=some (.slice 328):=by kernel_rfl
theorem Ye:JQ Tryz.prog 254=some 1:=by kernel_rfl
theorem FP:tk Tryz.prog 255=.one:=by kernel_rfl
theorem FI:zeroOf Tryz.prog 257=some [.int .i64 0,.nils,.nilm]:=by kernel_rfl
theorem LZ:Q5 Tryz.prog 257 0=some 0:=by kernel_rfl
theorem LY:Q5 Tryz.prog 257 1=some 1:=by kernel_rfl
theorem LX:Q5 Tryz.prog 257 2=some 2:=by kernel_rfl
theorem GL:P3 Tryz.prog 257 [(0,1),(1,1),(2,1)] [.int .i64 0,.nils,.nilm]:=⟨⟨_,Tryz.underlying257,by kernel_rfl,by kernel_rfl⟩,FI⟩
theorem Yw:tk Tryz.prog 328=.one:=by kernel_rfl
theorem Ek:zeroOf Tryz.prog 328=some [.nili]:=by kernel_rfl
theorem AM:UX Tryz.prog 278=some 3:=by kernel_rfl
theorem V8:zeroOf Tryz.prog 278=some [.int .i64 0,.bool false,.int .i64 0]:=by kernel_rfl
theorem Kt:Q5 Tryz.prog 278 0=some 0:=by kernel_rfl
theorem Ks:Q5 Tryz.prog 278 1=some 1:=by kernel_rfl
theorem Kr:Q5 Tryz.prog 278 2=some 2:=by kernel_rfl
theorem NR:P3 Tryz.prog 278 [(0,1),(1,1),(2,1)] [.int .i64 0,.bool false,.int .i64 0]:=⟨⟨_,Tryz.underlying278,by kernel_rfl,by kernel_rfl⟩,V8⟩
theorem TC:tk Tryz.prog 282=.agg 3:=by kernel_rfl
theorem TD:UX Tryz.prog 282=some 3:=by kernel_rfl
theorem O9:zeroOf Tryz.prog 282=some [.int .i64 0,.int .i64 0,.int .i64 0]:=by kernel_rfl
theorem YS:tk Tryz.prog 286=.one:=by kernel_rfl
theorem Er:tk Tryz.prog 287=.one:=by kernel_rfl
theorem IB:UX Tryz.prog 287=some 1:=by kernel_rfl
theorem Xf:Tryz.prog.underlying 287=some (.slice 222):=by kernel_rfl
theorem DQ:JQ Tryz.prog 287=some 2:=by kernel_rfl
theorem AI:zeroOf Tryz.prog 289=some [.nilm,.nils,.nilp]:=by kernel_rfl
theorem Kn:Q5 Tryz.prog 289 0=some 0:=by kernel_rfl
theorem Km:Q5 Tryz.prog 289 1=some 1:=by kernel_rfl
theorem Kl:Q5 Tryz.prog 289 2=some 2:=by kernel_rfl
theorem NP:P3 Tryz.prog 289 [(0,1),(1,1),(2,1)] [.nilm,.nils,.nilp]:=⟨⟨_,Tryz.underlying289,by kernel_rfl,by kernel_rfl⟩,AI⟩
theorem QU:tk Tryz.prog 301=.agg 3:=by kernel_rfl
theorem Kd:UX Tryz.prog 301=some 3:=by kernel_rfl
theorem WV:zeroOf Tryz.prog 301=some [.nilf,.int .i64 0,.int .i64 0]:=by kernel_rfl
theorem Ho:Q5 Tryz.prog 301 0=some 0:=by kernel_rfl
theorem Hn:Q5 Tryz.prog 301 1=some 1:=by kernel_rfl
theorem Hm:Q5 Tryz.prog 301 2=some 2:=by kernel_rfl
theorem Ke:P3 Tryz.prog 301 [(0,1),(1,1),(2,1)] [.nilf,.int .i64 0,.int .i64 0]:=⟨⟨_,Tryz.underlying301,by kernel_rfl,by kernel_rfl⟩,WV⟩
theorem I6:zeroOf Tryz.prog 354=some [.int .i64 0]:=by kernel_rfl
theorem Of:Q5 Tryz.prog 354 0=some 0:=by kernel_rfl
theorem C8:P3 Tryz.prog 354 [(0,1)] [.int .i64 0]:=⟨⟨_,Tryz.underlying354,by kernel_rfl,by kernel_rfl⟩,I6⟩
theorem C3:UX Tryz.prog 356=some 3:=by kernel_rfl
theorem I7:zeroOf Tryz.prog 356=some [.int .i64 0,.int .i64 0,.int .i64 0]:=by kernel_rfl
theorem Oi:Q5 Tryz.prog 356 0=some 0:=by kernel_rfl
theorem Oh:Q5 Tryz.prog 356 1=some 1:=by kernel_rfl
theorem Og:Q5 Tryz.prog 356 2=some 2:=by kernel_rfl
theorem C9:P3 Tryz.prog 356 [(0,1),(1,1),(2,1)] [.int .i64 0,.int .i64 0,.int .i64 0]:=⟨⟨_,Tryz.underlying356,by kernel_rfl,by kernel_rfl⟩,I7⟩
theorem AJ:zeroOf Tryz.prog 338=some [.nilp,.nilf,.nilm]:=by kernel_rfl
theorem Kq:Q5 Tryz.prog 338 0=some 0:=by kernel_rfl
theorem Kp:Q5 Tryz.prog 338 1=some 1:=by kernel_rfl
theorem Ko:Q5 Tryz.prog 338 2=some 2:=by kernel_rfl
theorem NQ:P3 Tryz.prog 338 [(0,1),(1,1),(2,1)] [.nilp,.nilf,.nilm]:=⟨⟨_,Tryz.underlying338,by kernel_rfl,by kernel_rfl⟩,AJ⟩
theorem Yc:F8 Tryz.prog 199 4 1:=⟨VS,by kernel_rfl,⟨_,EW,rfl⟩,by kernel_rfl,by decide,by decide+kernel⟩
theorem UW:F8 Tryz.prog 193 124 1:=⟨WX,by kernel_rfl,⟨_,AK,rfl⟩,by kernel_rfl,by decide,by decide+kernel⟩
theorem VA:F8 Tryz.prog 254 328 1:=⟨ZV,by kernel_rfl,⟨_,Ek,rfl⟩,by kernel_rfl,by decide,by decide+kernel⟩
theorem Eu:F8 Tryz.prog 287 222 2:=⟨Xf,by kernel_rfl,⟨_,Zo,rfl⟩,by kernel_rfl,by decide,by decide+kernel⟩
end
end Go.Proofs.YtildagdnomiahaaGreatDoor
