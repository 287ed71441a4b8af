/-
  What the reader of 'sibylref2' takes for the next token is what 'lex' takes for it. No program here.
-/
import Derived.Test.YtadjjadimlkkgaaGreatDoorKtRrS
namespace Go.Proofs.YtadjjadimlkkgaaGreatDoor
open Go Go.RowKit
set_option linter.unusedVariables false

set_option maxRecDepth 100000 in
set_option maxHeartbeats 4000000 in
theorem TI(n m b0 b1 b2 b3 c1 c2 c3:Nat)(hmn:m≤n)(hw:(Lib.decodeN n b0 b1 b2 b3).2≤m)(h1:1<m→c1=b1)(h2:2<m→c2=b2)(h3:3<m→c3=b3):Lib.decodeN m b0 c1 c2 c3=Lib.decodeN n b0 b1 b2 b3:=by
 unfold Lib.decodeN at hw ⊢
 by_cases a0:b0<128
 ·rw[if_pos a0,if_pos a0]
 rw[if_neg a0]at hw;rw[if_neg a0,if_neg a0]
 by_cases a1:b0/32=6∧(1<n∧b1/64=2)
 ·rw[if_pos a1]at hw;rw[if_pos a1]
  by_cases hm:1<m
  ·rw[h1 hm,if_pos ⟨a1.1,hm,a1.2.2⟩]
  ·rw[if_neg (fun h=>hm h.2.1),if_neg (by omega),if_neg (by omega)]
   split at hw
   ·exfalso;simp only at hw;omega
   ·rename_i h;rw[if_neg h]
 rw[if_neg a1]at hw;rw[if_neg a1]
 by_cases a2:b0/16=14∧(1<n∧b1/64=2)∧(2<n∧b2/64=2)
 ·rw[if_pos a2]at hw;rw[if_pos a2,if_neg (by omega)]
  by_cases hm:2<m
  ·rw[h1 (by omega),h2 hm,if_pos ⟨a2.1,⟨by omega,a2.2.1.2⟩,hm,a2.2.2.2⟩]
  ·rw[if_neg (fun h=>hm h.2.2.1),if_neg (by omega)]
   split at hw
   ·exfalso;simp only at hw;omega
   ·rename_i h;rw[if_neg h]
 rw[if_neg a2]at hw;rw[if_neg a2]
 by_cases a3:b0/8=30∧(1<n∧b1/64=2)∧(2<n∧b2/64=2)∧(3<n∧b3/64=2)
 ·rw[if_pos a3]at hw;rw[if_pos a3,if_neg (by omega),if_neg (by omega)]
  by_cases hm:3<m
  ·rw[h1 (by omega),h2 (by omega),h3 hm,if_pos ⟨a3.1,⟨by omega,a3.2.1.2⟩,⟨by omega,a3.2.2.1.2⟩,hm,a3.2.2.2.2⟩]
  ·rw[if_neg (fun h=>hm h.2.2.2.1)]
   split at hw
   ·exfalso;simp only at hw;omega
   ·rename_i h;rw[if_neg h]
 rw[if_neg a3];rw[if_neg,if_neg,if_neg]
 ·intro h;exact a3 ⟨h.1,⟨by omega,by rw[←h1 h.2.1.1];exact h.2.1.2⟩,⟨by omega,by rw[←h2 h.2.2.1.1];exact h.2.2.1.2⟩,by omega,by rw[←h3 h.2.2.2.1];exact h.2.2.2.2⟩
 ·intro h;exact a2 ⟨h.1,⟨by omega,by rw[←h1 h.2.1.1];exact h.2.1.2⟩,by omega,by rw[←h2 h.2.2.1];exact h.2.2.2⟩
 ·intro h;exact a1 ⟨h.1,by omega,by rw[←h1 h.2.1];exact h.2.2⟩
theorem KF(s:ByteArray)(a b k:Nat)(h:a+k<b)(hb:b≤s.size):(s.extract a b).get! k=s.get! (a+k):=by
 have hz:(s.extract a b).size=b-a:=by simp;omega
 rw[get_eq _ _ (by omega),get_eq _ _ (by omega)];simp[ByteArray.data_extract]
theorem CJ(s:ByteArray)(a b p:Nat)(h1:a≤p)(h2:p<b)(h3:b≤s.size)(hw:p+(Utf8.decode s p).2≤b):Utf8.decode (s.extract a b) (p-a)=Utf8.decode s p:=by
 have hz:(s.extract a b).size=b-a:=by simp;omega
 have hw':=hw;rw[Lib.decode_at]at hw' ⊢;rw[Lib.decode_at s p,hz]
 have e0:(s.extract a b).get! (p-a)=s.get! p:=by rw[KF s a b _ (by omega) h3];congr 1;omega
 rw[e0];refine TI _ _ _ _ _ _ _ _ _ (by omega) (by omega) (fun h=>?_) (fun h=>?_) (fun h=>?_)
 ·rw[KF s a b _ (by omega) h3];congr 2;omega
 ·rw[KF s a b _ (by omega) h3];congr 2;omega
 ·rw[KF s a b _ (by omega) h3];congr 2;omega
theorem Rn(s:ByteArray)(fin a b:Nat)(hb:b≤s.size): ∀(R:List (Nat×Nat)) (p m f:Nat),FK s fin p R→m≤R.length→a≤p→QJ fin R m=b→m≤f→Xr (s.extract a b) f (p-a)=m:=by
 have hz:(s.extract a b).size=b-a:=by simp;omega
 intro R
 induction R with
 |nil=>
  intro p m f hc hm hap hpb hf
  obtain rfl:m=0:=by simpa using hm
  have hp:p=fin:=hc;have hpb:fin=b:=hpb;rw[AQ _ _ _ (by omega)]
 |cons x R ih=>
  intro p m f hc hm hap hpb hf;obtain⟨c,q⟩:=x
  cases m with
  |zero=>
   have hpb:q=b:=hpb;have:=hc.1;rw[AQ _ _ _ (by omega)]
  |succ m=>
   obtain⟨hq,hlt,_,_,hc'⟩:=hc
   have hpb':QJ fin R m=b:=by rw[←hpb];simp[QJ]
   have hm':m≤R.length:=by simpa using hm
   have hpl:=(Lj s fin _ R hc' 0 m (Nat.zero_le _)).1;rw[Wc s fin _ R hc',hpb']at hpl;have hw:=Vr s p hlt;obtain⟨f,rfl⟩: ∃f',f=f'+1:=⟨f-1,by omega⟩;rw[Ih _ _ _ (by omega),CJ s a b p hap (by omega) hb hpl];have:=ih (p+(Utf8.decode s p).2) m f hc' hm' (by omega) hpb' (by omega);rw[show p-a+(Utf8.decode s p).2=p+(Utf8.decode s p).2-a by omega,this]
theorem CN(s:ByteArray)(n m:Nat)(h:n+m≤(each s).1.length):count (s.extract (JO s (each s).2 (each s).1 n) (JO s (each s).2 (each s).1 (n+m)))=m:=by
 have hc:=Hh s;have hd:=WI s _ n _ 0 hc.1;have h1:=Zw s n (n+m) (by omega)
 have hz:(s.extract (JO s (each s).2 (each s).1 n) (JO s (each s).2 (each s).1 (n+m))).size=JO s (each s).2 (each s).1 (n+m)-JO s (each s).2 (each s).1 n:=by simp;omega
 have hge:m≤JO s (each s).2 (each s).1 (n+m)-JO s (each s).2 (each s).1 n:=by
  clear hz h1
  induction m with
  |zero=>omega
  |succ m ih=>
   have:=ih (by omega);have hm:=Zw s n (n+m) (by omega)
   have hlt:JO s (each s).2 (each s).1 (n+m)<JO s (each s).2 (each s).1 (n+(m+1)):=by
    have hdd:=WI s _ (n+m) _ 0 hc.1
    have hl:n+m<(each s).1.length:=by omega
    rw[Vb _ _ hl]at hdd;obtain⟨_,hlt,_,_,hc'⟩:=hdd;have e1:=Wc s _ _ _ hc';rw[Zv,Nat.add_zero]at e1;have hw:=Vr s _ hlt;show QJ _ _ (n+m)<QJ _ _ (n+m+1);omega
   omega
 unfold count;rw[hz];have:=Rn s (J1 s (each s).2) (JO s (each s).2 (each s).1 n) (JO s (each s).2 (each s).1 (n+m)) h1.2 ((each s).1.drop n) _ m (JO s (each s).2 (each s).1 (n+m)-JO s (each s).2 (each s).1 n) hd (by rw[List.length_drop];omega) (Nat.le_refl _) (Zv _ _ _ _) hge;rw[show QJ (J1 s (each s).2) (each s).1 n-JO s (each s).2 (each s).1 n=0 from Nat.sub_self _]at this;exact this
theorem MH: ∀(r:List (Nat×Nat)) (a:Nat),Ur 100 (min a 100) r=min (Ur 1000 a r) 100:=by
 intro r
 induction r with
 |nil=>intro a;rfl
 |cons x r ih=>
  intro a;obtain⟨c,q⟩:=x;rw[Ur,Ur]
  split
  ·rw[←ih]
   congr 1
   omega
  ·rfl
theorem Cm: ∀sg∈Xv,∀b r,sg.data.toList=b::r→QX (b.toNat:Int)=4:=by
 have h: ∀sg∈Xv,(match sg.data.toList with|b::r=>decide (QX (b.toNat:Int)=4)|[]=>true)=true:=by decide+kernel
 intro sg hs b r e;have:=h sg hs;rw[e]at this;exact of_decide_eq_true this
theorem Pp{c a:Nat}{r:List (Nat×Nat)}(h:QX (c:Int)≠4):Wt ((c,a)::r)=none:=by
 unfold Wt;rw[List.find?_eq_none];intro sg hs hf;have hz:=(FP sg hs).1
 cases he:sg.data.toList with
 |nil=>
  have:sg.size=0:=by rw[←ByteArray.size_data,←Array.length_toList,he];rfl
  omega
 |cons b l=>
  rw[he,WZ,Bool.and_eq_true,decide_eq_true_iff]at hf;exact h (by rw[hf.1];exact Cm sg hs b l he)

theorem Bytes.sub{l r:List Nat}(h:Bytes l)(hs: ∀x∈r,x∈l):Bytes r:=fun x hx=>h x (hs x hx)
theorem N9{l:List Nat}(h:Bytes l)(a b:Nat):Yu ((bytesOf l).extract a b)=(l.drop a).take (b-a):=by
 rw[Al,ZL (h.sub fun x hx=>List.mem_of_mem_drop (List.mem_of_mem_take hx))]
theorem RK{l:List Nat}(hB:Bytes l){n:Nat}(hn:n<(each (bytesOf l)).1.length):
  (Wv l (each (bytesOf l)).2 (each (bytesOf l)).1 n).2.1=(V3 (bytesOf l) (J1 (bytesOf l) (each (bytesOf l)).2) ((each (bytesOf l)).1.drop n)).ok∧
  ((V3 (bytesOf l) (J1 (bytesOf l) (each (bytesOf l)).2) ((each (bytesOf l)).1.drop n)).ok=true→(Wv l (each (bytesOf l)).2 (each (bytesOf l)).1 n).1=(V3 (bytesOf l) (J1 (bytesOf l) (each (bytesOf l)).2) ((each (bytesOf l)).1.drop n)).cells∧
   (Wv l (each (bytesOf l)).2 (each (bytesOf l)).1 n).2.2=(V3 (bytesOf l) (J1 (bytesOf l) (each (bytesOf l)).2) ((each (bytesOf l)).1.drop n)).len):=by
 obtain⟨c,q,h1,h2⟩:=ZD hn;have hcl:Js (each (bytesOf l)).1 n=QX (c:Int):=ZS h1;have hml:=Lz ((each (bytesOf l)).1.drop n);rw[List.length_drop]at hml;have hcn:=CN (bytesOf l) n (Us ((each (bytesOf l)).1.drop n)) (by omega)
 have hp0:QJ (J1 (bytesOf l) (each (bytesOf l)).2) ((each (bytesOf l)).1.drop n) 0=QJ (J1 (bytesOf l) (each (bytesOf l)).2) (each (bytesOf l)).1 n:=by rw[Zv,Nat.add_zero]
 have hpm: ∀m,QJ (J1 (bytesOf l) (each (bytesOf l)).2) ((each (bytesOf l)).1.drop n) m=QJ (J1 (bytesOf l) (each (bytesOf l)).2) (each (bytesOf l)).1 (n+m):=fun m=>Zv _ _ _ _;have hcn':count ((bytesOf l).extract (QJ (J1 (bytesOf l) (each (bytesOf l)).2) (each (bytesOf l)).1 n) (QJ (J1 (bytesOf l) (each (bytesOf l)).2) (each (bytesOf l)).1 (n+Us ((each (bytesOf l)).1.drop n))))=Us ((each (bytesOf l)).1.drop n):=hcn;have hisC:Hb (each (bytesOf l)).1 n 48=decide ((c:Int)=48):=Eh h1;rw[Dk _ _ _ _ hn]
 have hgn:(each (bytesOf l)).1[n]=(c,q):=by
  obtain⟨_,h⟩:=List.getElem?_eq_some_iff.1 h1;exact h
 rw[hgn];simp only;unfold Wv qN um A0;rw[hcl];have hc0:=MH ((each (bytesOf l)).1.drop n) 0;rw[show min 0 100=0 from rfl]at hc0;have hsg:=Sc ((each (bytesOf l)).1.drop n)
 generalize (each (bytesOf l)).1.drop n=r at *
 by_cases k1:QX (c:Int)=1
 ·rw[if_pos k1,if_pos k1];unfold NV;rw[hp0,hpm,hcn',DW,N9 hB];refine⟨?_,fun _=>⟨?_,rfl⟩⟩
  ·simp only;rw[Bool.eq_iff_iff,decide_eq_true_iff,decide_eq_true_iff];omega
  ·unfold Yq.cells;simp only[N9 hB];rfl
 ·rw[if_neg k1,if_neg k1]
  by_cases k2:QX (c:Int)=2
  ·rw[if_pos k2,if_pos k2];unfold PH;rw[hp0,hc0,hisC];refine⟨?_,fun hok=>⟨?_,rfl⟩⟩
   ·simp only
    have e1:decide (((Ur 1000 0 r:Nat):Int)≤99)=decide (min (Ur 1000 0 r) 100≤99):=by
     rw[Bool.eq_iff_iff,decide_eq_true_iff,decide_eq_true_iff];omega
    have hd1:1≤ZI r:=by rw[h2,ZI,if_pos (Zo.1 k2)];omega
    have e2:(!(decide ((c:Int)=48)&&decide (1<((ZI r:Nat):Int))))=(decide (c≠48)||decide (ZI r=1)):=by
     rw[Bool.eq_iff_iff];simp only[Bool.not_eq_true',Bool.and_eq_false_iff,decide_eq_false_iff_not,Bool.or_eq_true,decide_eq_true_iff];omega
    rw[e1,e2]
   ·have hok:(decide (min (Ur 1000 0 r) 100≤99)&&_)=true:=hok;rw[Bool.and_eq_true,decide_eq_true_iff]at hok;unfold Yq.cells
    have e3:min (Ur 1000 0 r) 100=Ur 1000 0 r:=by omega
    simp only[e3];rfl
  ·rw[if_neg k2,if_neg k2];rw[hsg]
   by_cases k4:QX (c:Int)=4
   ·rw[if_pos k4];unfold KW
    cases hs:Wt r with
    |none=>exact⟨rfl,fun h=>by cases h⟩
    |some sg=>
     refine⟨rfl,fun _=>⟨?_,?_⟩⟩
     ·unfold Yq.cells;simp only[Option.map_some,hp0];rfl
     ·simp only[Option.map_some];unfold Yu;rw[List.length_map,Array.length_toList,ByteArray.size_data]
   ·rw[if_neg k4,h2,Pp k4];exact⟨rfl,fun h=>by cases h⟩
end Go.Proofs.YtadjjadimlkkgaaGreatDoor
