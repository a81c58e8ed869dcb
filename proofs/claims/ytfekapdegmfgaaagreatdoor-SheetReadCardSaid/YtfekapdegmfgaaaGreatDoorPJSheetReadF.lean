/- Parts of the proof of JSheetRead: laws of walks, contracts of functions, plain models. No condition. -/
import Derived.Lib.CountLaws
import Derived.Lib.IndexBytes
import Derived.Laws.RangeAny
import Derived.Laws.DeepNot64
import Derived.Laws.Unary
import Derived.DeepKeys5
import Derived.Test.YtfekapdegmfgaaaGreatDoorPJSheetReadE
set_option linter.unusedVariables false
set_option linter.unusedSimpArgs false
set_option linter.unnecessarySimpa false
set_option maxRecDepth 100000
namespace Go.Proofs
namespace KV
open Tryz
section
def spB:List UInt8→List (List UInt8)
 | []=>[[]]
 | c::r=>if c=32 then []::spB r else match spB r with
  | []=>[[c]]
  | f::fs=>(c::f)::fs
theorem aBa(c:UInt8)(s:List UInt8)(x:UInt8):Lib.index (c::s) [x]=if c=x then 0 else if Lib.index s [x] == -1 then -1 else Lib.index s [x]+1:=by
 rw [Lib.index]
 by_cases h:c=x
 ·subst h
  simp
 ·have:([x].isPrefixOf (c::s))=false:=by
   simp only [List.isPrefixOf];simp [Ne.symm h]
  rw [this,if_neg h];rfl
theorem aEm:∀ (s:List UInt8),Lib.splitK [32] 0 (Lib.count s [32]) s=spB s
 | []=>by
  have:Lib.count [] [32]=0:=by decide
  rw [this,Lib.splitK,spB]
 | c::s=>by
  have ih:=aEm s;have hi:=aBa c s 32
  by_cases h:c=32
  ·rw [if_pos h] at hi
   rw [Lib.count_hit (i:=0) (by simp) hi,Nat.add_comm 1,Lib.splitK,hi,spB,if_pos h]
   simpa using ih
  ·rw [if_neg h] at hi
   rw [spB,if_neg h]
   by_cases hm:Lib.index s [32] = -1
   ·rw [if_pos (by simp [hm])] at hi
    rw [Lib.count_miss hm,Lib.splitK] at ih
    rw [Lib.count_miss hi,Lib.splitK,← ih]
   ·have hge:=Lib.index_ge s [32]
    obtain ⟨i,e⟩:∃ i:Nat,Lib.index s [32]=i:=⟨(Lib.index s [32]).toNat,by omega⟩
    rw [if_neg (by simpa using hm),e] at hi
    rw [Lib.count_hit (i:=i) (by simp) e,Nat.add_comm 1,Lib.splitK,e] at ih
    rw [Lib.count_hit (i:=i+1) (by simp) (hi.trans (by omega)),Nat.add_comm 1 (Lib.count (List.drop (i+1+[32].length) (c::s)) [32]),Lib.splitK,hi,← ih]
    have n1:¬ (((i:Nat):Int) == -1)=true:=by simp
    have n2:¬ (((i:Nat):Int)+1 == -1)=true:=by simp;omega
    rw [if_neg n1,if_neg n2];have e1:(((i:Nat):Int)+1).toNat=i+1:=by omega
    rw [e1];simp only [List.length_singleton,Nat.add_zero,List.take_succ_cons,List.drop_succ_cons,Int.toNat_natCast]
theorem oL(s:List UInt8):aL s [32]=spB s:=aEm s
theorem aHg:∀ (p:List UInt8),(∀ b∈p,b≠32)→spB p=[p]∧∀ t,spB (p++32::t)=p::spB t
 | [],_=>⟨rfl,fun t=>by rw [List.nil_append,spB,if_pos rfl]⟩
 | c::p,h=>by
  obtain ⟨h1,h2⟩:=aHg p fun b hb=>h b (Ci _ hb)
  have hc:=h c (iK ..);refine ⟨by rw [spB,if_neg hc,h1],fun t => ?_⟩
  rw [List.cons_append,spB,if_neg hc,h2]
theorem bYf(s:List UInt8):spB s≠[]:=by
 cases s with
 | nil=>simp [spB]
 | cons c r =>
  rw [spB]
  split
  ·simp
  ·split <;> simp
theorem aBb:∀ (s:List UInt8) (x:UInt8),Lib.index s [x] = -1→∀ b∈s,b≠x
 | [],x,h,b,hb=>by simp at hb
 | c::s,x,h,b,hb=>by
  rw [aBa] at h
  split at h
  ·omega
  ·rename_i hc
   have hge:=Lib.index_ge s [x]
   split at h
   ·rename_i hm
    rcases kD.1 hb with rfl | hb
    ·exact hc
    ·exact aBb s x (by simpa using hm) b hb
   ·omega
theorem aBc:∀ (s:List UInt8) (x:UInt8) (i:Nat),Lib.index s [x]=i→(∀ b∈s.take i,b≠x)∧s[i]? = some x
 | [],x,i,h=>by
  have:Lib.index [] [x] = -1:=rfl;rw [this] at h;omega
 | c::s,x,i,h=>by
  rw [aBa] at h
  split at h
  ·rename_i hc
   have:i=0:=by omega
   subst this;exact ⟨fun b hb=>by simp at hb,by simp [hc]⟩
  ·rename_i hc
   have hge:=Lib.index_ge s [x]
   split at h
   ·omega
   ·rename_i hm
    have Cq:Lib.index s [x] ≠ -1:=by simpa using hm
    obtain ⟨j,e⟩:∃ j:Nat,Lib.index s [x]=j:=⟨(Lib.index s [x]).toNat,by omega⟩
    obtain ⟨h1,h2⟩:=aBc s x j e;have:i=j+1:=by omega
    subst this;refine ⟨fun b hb => ?_,by simpa using h2⟩
    rw [List.take_succ_cons] at hb
    rcases kD.1 hb with rfl | hb
    ·exact hc
    ·exact h1 b hb
theorem bHw(s:List UInt8):((Lib.cut s [10]).2.2=true∧s=(Lib.cut s [10]).1++10::(Lib.cut s [10]).2.1∨(Lib.cut s [10]).2.2=false∧(Lib.cut s [10]).1=s∧(Lib.cut s [10]).2.1=[])∧∀ b∈(Lib.cut s [10]).1,b≠10:=by
 have hge:=Lib.index_ge s [10];unfold Lib.cut
 split
 ·rename_i h0
  obtain ⟨i,e⟩:∃ i:Nat,Lib.index s [10]=i:=⟨(Lib.index s [10]).toNat,by omega⟩
  obtain ⟨h1,h2⟩:=aBc s 10 i e;have hi:i<s.length:=(Cf.1 h2).1;have e2:(Lib.index s [10]).toNat=i:=by omega
  dsimp only;rw [e2,List.length_singleton];refine ⟨.inl ⟨rfl,?_⟩,h1⟩;have e1:s.drop i=10::s.drop (i+1):=by
   rw [bLi hi]
   congr 1
   exact (Cf.1 h2).2
  rw [← e1,bEx]
 ·rename_i h0
  exact ⟨.inr ⟨rfl,rfl,rfl⟩,aBb s 10 (by omega)⟩
end
end KV
end Go.Proofs
section
namespace Go.Proofs
open Go.RowKit
namespace KV
open Tryz
theorem qH{X β ε:Type}{f:β→X→Except ε β}{a b:β}{x:X}(l:List X)(h:f a x = .ok b):itB f a (x::l)=itB f b l:=by
 rw [itB,h]
theorem aHf{X β ε:Type}{f:β→X→Except ε β}{a:β}{e:ε}{x:X}(l:List X)(h:f a x = .error e):itB f a (x::l) = .error e:=by
 rw [itB,h]
end KV
end Go.Proofs
end
section
namespace Go.Proofs
open Go.RowKit
namespace KV
open Tryz
def dgU(d:Nat):UInt8:=UInt8.ofNat (48+d)
theorem uY{d:Nat}(h:d<10):(dgU d).toNat=48+d:=by
 unfold dgU;rw [UInt8.toNat_ofNat'];omega
theorem kF{d:Nat}(h:d<10):dv (dgU d)=d∧isd (dgU d)=true:=by
 have:=uY h;refine ⟨by unfold dv;rw [this];omega,?_⟩
 simp only [isd,this,Bv,decide_eq_true_eq];omega
theorem aHa{b:UInt8}(h:isd b=true):∃ d,d<10∧b=dgU d:=by
 have hb:=fN h;refine ⟨b.toNat-48,by omega,UInt8.toNat_inj.1 ?_⟩
 rw [uY (by omega)];omega
theorem aEk(l:List UInt8)(b:UInt8)(n:Int):mJ (l++[b]) n=10*mJ l n+dv b:=by unfold mJ;rw [List.foldl_append];rfl
theorem aEl{n:Nat}(h:n<10):Lib.decDigits n=[dgU n]:=kV h
theorem bRj{n:Nat}(h:¬ n<10):Lib.decDigits n=Lib.decDigits (n / 10)++[dgU (n % 10)]:=uT h
theorem rL:∀ (k n:Nat),n<k→(Lib.decDigits n).all isd=true∧mJ (Lib.decDigits n) 0=(n:Int)∧Lib.decDigits n≠[]∧(n≠0→(Lib.decDigits n)[0]? ≠ some 48)∧(1<(Lib.decDigits n).length→n≠0)
 | 0,n,h=>absurd h (bLk _)
 | k+1,n,h=>by
  by_cases A5:n<10
  ·rw [aEl A5]
   obtain ⟨h1,h2⟩:=kF A5;refine ⟨by simp [h2],?_,by simp,fun hn e => ?_,fun q=>by simp at q⟩
   ·show 10*0+dv (dgU n)=(n:Int)
    rw [h1];omega
   ·have e2:dgU n=48:=by simpa using e
    have:=congrArg UInt8.toNat e2;rw [uY A5] at this
    have h48:(48:UInt8).toNat=48:=rfl;omega
  ·rw [bRj A5]
   obtain ⟨i1,i2,i3,i4,i5⟩:=rL k (n / 10) (by omega)
   obtain ⟨h1,h2⟩:=kF (d:=n % 10) (by omega)
   refine ⟨by rw [List.all_append,i1];simp [h2],?_,by simp,fun _ => ?_,fun _=>by omega⟩
   ·rw [aEk,i2,h1];omega
   ·rw [aCd (List.length_pos_iff.2 i3)]
    exact i4 (by omega)
theorem aPn(n:Nat):¬ (1<(Lib.decDigits n).length∧(Lib.decDigits n)[0]? = some 48):=fun ⟨h1,h2⟩=>by
 obtain ⟨_,_,_,h4,h5⟩:=rL _ n (Nat.lt_succ_self n);exact h4 (h5 h1) h2
theorem bOf{n:Nat}{m:Int}(h:(n:Int)≤m):bJ (Lib.decDigits n) m=((n:Int),0):=by
 obtain ⟨h1,h2,h3,_⟩:=rL _ n (Nat.lt_succ_self n);rw [aGt (by omega) h1 h3 (aPn n),h2,if_neg (by omega)]
theorem aAy{n m:Int}(h0:0≤n)(h:n≤m):bJ (Lib.itoa n) m=(n,0):=by
 obtain ⟨k,rfl⟩:∃ k:Nat,n=(k:Int):=⟨n.toNat,by omega⟩
 rw [Lib.itoa_nonneg,bOf h]
theorem aHb:∀ (k:Nat) (u:List UInt8),u.length≤k→u≠[]→u.all isd=true→¬ (1<u.length∧u[0]? = some 48)→∃ n:Nat,mJ u 0=(n:Int)∧Lib.decDigits n=u
 | 0,u,hk,hn,_,_=>absurd (pA (by omega)) hn
 | k+1,u,hk,hn,ha,hz=>by
  obtain ⟨l,b,rfl⟩:∃ l b,u=l++[b]:=⟨u.dropLast,u.getLast hn,(List.dropLast_concat_getLast hn).symm⟩;rw [List.all_append,Bv] at ha
  have hb:isd b=true:=by simpa using ha.2
  obtain ⟨d,hd,rfl⟩:=aHa hb;obtain ⟨h1,_⟩:=kF hd
  by_cases hl:l=[]
  ·subst hl
   refine ⟨d,?_,by rw [aEl hd];rfl⟩
   show 10*0+dv (dgU d)=(d:Int);rw [h1];omega
  ·have hlp:=List.length_pos_iff.2 hl
   rw [B4,List.length_singleton] at hk hz
   have h0:l[0]? ≠ some 48:=fun e=>hz ⟨by omega,by rw [aCd hlp];exact e⟩
   obtain ⟨v,hv,hdv⟩:=aHb k l (by omega) hl ha.1 (fun q=>h0 q.2)
   have hv1:v≠0:=fun e=>by
    subst e;rw [aEl (by omega)] at hdv
    exact h0 (by rw [← hdv];rfl)
   refine ⟨10*v+d,by rw [aEk,hv,h1];omega,?_⟩
   rw [bRj (by omega),show (10*v+d) / 10=v by omega,show (10*v+d) % 10=d by omega,hdv]
theorem bHt{u:List UInt8}{m n:Int}(hm:0≤m)(h:bJ u m=(n,0)):u≠[]∧u.all isd=true∧¬ (1<u.length∧u[0]? = some 48)∧n=mJ u 0∧n≤m:=by
 by_cases hb:u=[]∨(1<u.length∧u[0]? = some 48)∨u.all isd=false
 ·have:=uS (m:=m) hb
  rw [h] at this;exact absurd this (show ¬ ((0:Int)=11) by decide)
 ·have hn:u≠[]:=fun e=>hb (.inl e)
  have hz:¬ (1<u.length∧u[0]? = some 48):=fun e=>hb (.inr (.inl e))
  have ha:u.all isd=true:=by
   cases q:u.all isd with
   | true=>rfl
   | false=>exact absurd (.inr (.inr q)) hb
  rw [aGt hm ha hn hz] at h
  split at h
  ·cases h
  ·cases h;exact ⟨hn,ha,hz,rfl,by omega⟩
theorem aHc{u:List UInt8}{m n:Int}(hm:0≤m)(h:bJ u m=(n,0)):0≤n∧n≤m∧Lib.itoa n=u:=by
 obtain ⟨h1,h2,h3,h4,h5⟩:=bHt hm h;obtain ⟨v,hv,hd⟩:=aHb _ u (Bb _) h1 h2 h3;rw [h4,hv];exact ⟨by omega,by omega,by rw [Lib.itoa_nonneg,hd]⟩
theorem aHd(n:Nat)(h:n≤360000):(ptM (n:Int)).1=Lib.decDigits (n / 600)++[58,dgU (n / 10 % 60 / 10),dgU (n / 10 % 60 % 10),46,dgU (n % 10)]:=by
 have e1:((n:Nat):Int).tdiv 600=((n / 600:Nat):Int):=by rw [Int.tdiv_eq_ediv_of_nonneg (by omega)];omega
 have e2:((n:Nat):Int).tdiv 10=((n / 10:Nat):Int):=by rw [Int.tdiv_eq_ediv_of_nonneg (by omega)];omega
 have e3:(((n / 10:Nat):Int)).tmod 60=((n / 10 % 60:Nat):Int):=by rw [Int.tmod_eq_emod_of_nonneg (by omega)];omega
 have e4:((n:Nat):Int).tmod 10=((n % 10:Nat):Int):=by rw [Int.tmod_eq_emod_of_nonneg (by omega)];omega
 have e5:(100:Int)+((n / 10 % 60:Nat):Int)=((100+n / 10 % 60:Nat):Int):=by omega
 unfold ptM;rw [if_pos (cK.2 (by omega)),e1,e2,e3,e4,e5,Lib.itoa_nonneg,Lib.itoa_nonneg,Lib.itoa_nonneg,bNo (by omega),aEl (n:=n / 10 % 60 / 10) (by omega),aEl (n:=n / 10 % 60 % 10) (by omega),aEl (n:=n % 10) (by omega)]
 simp
theorem cCm(n:Nat)(h:n≤360000):paM (ptM (n:Int)).1=((n:Int),0):=by
 rw [aHd n h];obtain ⟨h1,h2,h3,_⟩:=rL _ (n / 600) (Nat.lt_succ_self _);obtain ⟨b1,b2⟩:=kF (d:=n / 10 % 60 / 10) (by omega)
 obtain ⟨c1,c2⟩:=kF (d:=n / 10 % 60 % 10) (by omega)
 obtain ⟨f1,f2⟩:=kF (d:=n % 10) (by omega)
 rw [bHh h3 h1 (aPn _) b2 c2 f2];have hf:=aGu (m:=1000) (by decide) h1 h3 (aPn _)
 rw [h2,Int.min_eq_left (by omega)] at hf
 have hn:=uY (d:=n / 10 % 60 / 10) (by omega)
 unfold Kq;rw [if_pos ⟨rfl,rfl,b2,c2,f2,by rw [hf];omega,by omega⟩,hf,b1,c1,f1]
 rw [if_neg (by omega)]
 congr 1
 omega
theorem bYd{u:List UInt8}{n:Int}(h:paM u=(n,0)):∃ k:Nat,n=(k:Int)∧k≤360000∧(ptM n).1=u:=by
 obtain ⟨p,b,c,e,rfl,hn,ha,hz,hb,hc,he⟩:=bNl (s:=u) (by rw [h];intro q;cases q)
 rw [bHh hn ha hz hb hc he] at h
 obtain ⟨v,hv,hd⟩:=aHb _ p (Bb _) hn ha hz;obtain ⟨b,Kr,rfl⟩:=aHa hb;obtain ⟨c,M7,rfl⟩:=aHa hc;obtain ⟨e,M8,rfl⟩:=aHa he;have hf:=aGu (m:=1000) (by decide) ha hn hz
 rw [hv] at hf
 unfold Kq at h
 split at h
 ·rename_i hq
  obtain ⟨_,_,_,_,_,_,h6⟩:=hq;rw [uY Kr] at h6
  rw [hf,(kF Kr).1,(kF M7).1,(kF M8).1] at h
  split at h
  ·cases h
  ·rename_i Iy
   have hmin:min (v:Int) (1000+1)=(v:Int):=Int.min_eq_left (by omega)
   rw [hmin] at h Iy
   cases h;refine ⟨600*v+100*b+10*c+e,by omega,by omega,?_⟩
   rw [show (v:Int)*600+(b:Int)*100+(c:Int)*10+(e:Int)=((600*v+100*b+10*c+e:Nat):Int) by omega,aHd _ (by omega)]
   rw [show (600*v+100*b+10*c+e) / 600=v by omega,show (600*v+100*b+10*c+e) / 10 % 60 / 10=b by omega,show (600*v+100*b+10*c+e) / 10 % 60 % 10=c by omega,show (600*v+100*b+10*c+e) % 10=e by omega,hd]
 ·cases h
theorem bHu{t a:Int}{z:List UInt8}(ht:t=0∨t=1)(h:ckM t (a,z)=0):z=[]:=by
 apply Classical.byContradiction;intro hz
 rcases ht with rfl | rfl
 ·by_cases q:within a 0 999999=true
  ·simp [ckM,q,hz] at h
  ·simp [ckM,q] at h
 ·by_cases q:within a 0 360000=true
  ·simp [ckM,q,hz] at h
  ·simp [ckM,q] at h
theorem bHv{t a:Int}{z:List UInt8}(ht:t=2∨t=3)(h:ckM t (a,z)=0):a=0:=by
 apply Classical.byContradiction;intro hz
 rcases ht with rfl | rfl
 ·simp [ckM,hz] at h
 ·simp [ckM,hz] at h
theorem cCn{t:Int}{c:Cel}(ht:t=0∨t=1∨t=2∨t=3)(h:ckM t c=0):rdM t (wrM t c)=(c,0):=by
 obtain ⟨a,z⟩:=c
 rcases ht with rfl | rfl | rfl | rfl
 ·obtain ⟨h1,h2⟩:=aGn h
  obtain rfl:=bHu (.inl rfl) h;have e:rdM 0 (wrM 0 (a,[]))=(((bJ (Lib.itoa a) 999999).1,[]),(bJ (Lib.itoa a) 999999).2):=rfl;rw [e,aAy h1 h2]
 ·obtain ⟨h1,h2⟩:=aOl h
  obtain rfl:=bHu (.inr rfl) h;have e:rdM 1 (wrM 1 (a,[]))=(((paM (ptM a).1).1,[]),(paM (ptM a).1).2):=rfl;obtain ⟨k,rfl⟩:∃ k:Nat,a=(k:Int):=⟨a.toNat,by omega⟩
  rw [e,cCm k (by omega)]
 ·obtain ⟨h1,_⟩:=aOm h
  obtain rfl:=bHv (.inl rfl) h;have e:wrM 2 (0,z)=z:=rfl;rw [e];simp [rdM,h1]
 ·obtain ⟨h1,_⟩:=aOn h
  obtain rfl:=bHv (.inr rfl) h;have e:wrM 3 (0,z)=z:=rfl;rw [e];simp [rdM,h1]
theorem cCo{t:Int}{u:List UInt8}{c:Cel}(ht:t=0∨t=1∨t=2∨t=3)(h:rdM t u=(c,0)):wrM t c=u∧ckM t c=0:=by
 rcases ht with rfl | rfl | rfl | rfl
 ·have e:rdM 0 u=(((bJ u 999999).1,[]),(bJ u 999999).2):=rfl
  rw [e] at h
  obtain rfl:((bJ u 999999).1,[])=c:=congrArg Prod.fst h;have hq:bJ u 999999=((bJ u 999999).1,0):=Prod.ext rfl (by have:=congrArg Prod.snd h;exact this)
  obtain ⟨q1,q2,q3⟩:=aHc (by decide) hq
  refine ⟨q3,?_⟩;have:within (bJ u 999999).1 0 999999=true:=cK.2 ⟨q1,q2⟩;simp [ckM,this]
 ·have e:rdM 1 u=(((paM u).1,[]),(paM u).2):=rfl
  rw [e] at h
  obtain rfl:((paM u).1,[])=c:=congrArg Prod.fst h;have hq:paM u=((paM u).1,0):=Prod.ext rfl (by have:=congrArg Prod.snd h;exact this)
  obtain ⟨k,q1,q2,q3⟩:=bYd hq;refine ⟨q3,?_⟩;have:within (paM u).1 0 360000=true:=cK.2 (by omega)
  simp [ckM,this]
 ·by_cases q:mH u=true
  ·have e:rdM 2 u=((0,u),0):=by simp [rdM,q]
   rw [e] at h;cases h
   exact ⟨rfl,by simp [ckM,q]⟩
  ·have e:rdM 2 u=((0,[]),11):=by simp [rdM,q]
   rw [e] at h;cases h
 ·by_cases q:mI u=true
  ·have e:rdM 3 u=((0,u),0):=by simp [rdM,q]
   rw [e] at h;cases h
   exact ⟨rfl,by simp [ckM,q]⟩
  ·have e:rdM 3 u=((0,[]),11):=by simp [rdM,q]
   rw [e] at h;cases h
def Cln(u:List UInt8):Prop:=∀ b∈u,b≠32∧b≠10
theorem bOg{u v:List UInt8}(hu:Cln u)(hv:Cln v):Cln (u++v):=fun b hb=>by
 rcases oG.1 hb with h | h
 ·exact hu b h
 ·exact hv b h
theorem aHe{b:UInt8}(h:isd b=true):b≠32∧b≠10:=by
 refine ⟨fun e => ?_,fun e => ?_⟩
 ·subst e;exact absurd h (by decide)
 ·subst e;exact absurd h (by decide)
theorem oK{p:UInt8→Bool}{u:List UInt8}(h:u.all p=true)(h1:p 32=false)(h2:p 10=false):Cln u:=fun b hb=>by
 have:=hZ.1 h b hb;refine ⟨fun e => ?_,fun e => ?_⟩
 ·subst e;rw [h1] at this;cases this
 ·subst e;rw [h2] at this;cases this
theorem aAz{n:Int}(h:0≤n):Cln (Lib.itoa n):=by
 obtain ⟨k,rfl⟩:∃ k:Nat,n=(k:Int):=⟨n.toNat,by omega⟩
 rw [Lib.itoa_nonneg];exact oK (rL _ k (Nat.lt_succ_self _)).1 (by decide) (by decide)
theorem bYe{t:Int}{c:Cel}(ht:t=0∨t=1∨t=2∨t=3)(h:ckM t c=0):Cln (wrM t c):=by
 obtain ⟨a,z⟩:=c
 rcases ht with rfl | rfl | rfl | rfl
 ·exact aAz (aGn h).1
 ·obtain ⟨h1,h2⟩:=aOl h
  obtain ⟨k,rfl⟩:∃ k:Nat,a=(k:Int):=⟨a.toNat,by omega⟩
  show Cln (ptM (k:Int)).1;rw [aHd k (by omega)]
  refine bOg (oK (rL _ _ (Nat.lt_succ_self _)).1 (by decide) (by decide)) (fun b hb => ?_)
  simp only [kD,List.mem_nil_iff,or_false] at hb
  rcases hb with rfl | rfl | rfl | rfl | rfl
  ·decide
  ·exact aHe (kF (by omega)).2
  ·exact aHe (kF (by omega)).2
  ·decide
  ·exact aHe (kF (by omega)).2
 ·have:=(aOm h).1
  unfold mH at this
  rw [Bv] at this
  exact oK this.2 (by decide) (by decide)
 ·have:=(aOn h).1
  unfold mI at this
  rw [Bv] at this
  exact oK this.2 (by decide) (by decide)
end KV
end Go.Proofs
end
section
namespace Go.Proofs
open Go.RowKit
namespace KV
open Tryz
abbrev aPv(id p d ty:Nat)(pos:String):Code := .region id #[{ dst:=some d,op := .assign (.tmp p),type:=ty,pos:=pos,after := #[],guard:=none }] false
theorem bIf{l n id p d ty:Nat}{pos:String}{K:Act→World→Prop}{Q:Exit→Act→World→Prop}{a:Act}{W:World}(h:K (a.put (some d) (a.eval (.tmp p))) W):(aPv id p d ty pos).wpIn ((Fen none).inRound l) n Tp (Exit.then K Q) a W:=by
 refine wpIn_region_lit (wpListIn_plain rfl fun K' H7 => ?_)
 unfold Oper.wpIn;refine ⟨fun f _=>trivial,?_⟩
 rw [Oper.semAt_plain _ _ _ (by intro c Dp;cases Dp)]
 simp only [execOp,Sem.run_pure];exact H7 _ _ (wpListIn_nil h)
def aLf(p1 p2:Nat)(a:Act)(x:List UInt8 × Bool):Act:={ tmps:=(a.tmps.setIfInBounds p1 (.string ⟨x.1.toArray⟩)).setIfInBounds p2 (.bool x.2),defers:=[] }
def Hj(p1 p2 d:Nat)(a:Act)(x:List UInt8 × Bool):Act:=(aLf p1 p2 a x).put (some d) ((aLf p1 p2 a x).eval (.tmp p1))
def Jb(p1 p2 d e:Nat)(a:Act)(x:List UInt8 × Bool):Act:=(Hj p1 p2 d a x).put (some e) ((Hj p1 p2 d a x).eval (.tmp p2))
theorem bRk(p1 p2:Nat)(a:Act)(x:List UInt8 × Bool):({ tmps:=(#[p1,p2].zip (aEq x)).foldl (fun t (y:Nat × Value)=>t.setIfInBounds y.1 y.2) a.tmps,defers:=[] }:Act)=aLf p1 p2 a x:=by
 unfold aEq aLf;rw [Kt]
theorem Nq{p1 p2 d id ty:Nat}{pos:String}(a:Act)(x:List UInt8 × Bool)(l:Nat)(K:Act→World→Prop)(W:World)(h:K (Hj p1 p2 d a x) W) :
  (aPv id p1 d ty pos).wpIn ((Fen none).inRound l) (3-1-1) Tp (Exit.then K (fun _ _ _=>False)) { tmps:=(#[p1,p2].zip (aEq x)).foldl (fun t (y:Nat × Value)=>t.setIfInBounds y.1 y.2) a.tmps,defers:=[] } W:=by
 rw [bRk];exact bIf h
theorem Nk{p1 p2 d e id ty Qe Ej:Nat}{pos Nr:String}(a:Act)(x:List UInt8 × Bool)(l:Nat)(K:Act→World→Prop)(W:World)(h:K (Jb p1 p2 d e a x) W) :
  (Code.seq (aPv id p1 d ty pos) (aPv Qe p2 e Ej Nr)).wpIn ((Fen none).inRound l) (3-1-1) Tp (Exit.then K (fun _ _ _=>False)) { tmps:=(#[p1,p2].zip (aEq x)).foldl (fun t (y:Nat × Value)=>t.setIfInBounds y.1 y.2) a.tmps,defers:=[] } W:=by
 rw [bRk];exact wpIn_seq (bIf (bIf h))
def lnT(p1 p2:Nat)(T:List AV)(x:List UInt8 × Bool):List AV:=put (put T (some p1) (.p (aD x.1))) (some p2) (.p (blP x.2))
def s1T(p1 p2 d:Nat)(T:List AV)(x:List UInt8 × Bool):List AV:=put (lnT p1 p2 T x) (some d) (.p (aD x.1))
def s2T(p1 p2 d e:Nat)(T:List AV)(x:List UInt8 × Bool):List AV:=put (s1T p1 p2 d T x) (some e) (.p (blP x.2))
def pD(st:St)(p1 p2 d:Nat)(l:List UInt8)(b:Bool):St:=⟨s1T p1 p2 d st.t (l,b),st.m⟩
def jX(st:St)(p1 p2 d e:Nat)(l:List UInt8)(b:Bool):St:=⟨s2T p1 p2 d e st.t (l,b),st.m⟩
section
variable {C:Cx} {M:Mem} {W:World} {T:List AV}
theorem bIg{p1 p2:Nat}(a:Act)(x:List UInt8 × Bool)(h:cT C M W T a.tmps):cT C M W (lnT p1 p2 T x) (aLf p1 p2 a x).tmps:=by
 have s1:cT C M W (put T (some p1) (.p (aD x.1))) (({ tmps:=a.tmps,defers:=[] }:Act).put (some p1) (.string ⟨x.1.toArray⟩)).tmps:=cT.put (a:={ tmps:=a.tmps,defers:=[] }) h (.p _ _ (.v _));exact cT.put s1 (.p _ _ (.v _))
theorem aSs{p1 p2 d:Nat}(hp:∀ x,(lnT p1 p2 T x)[p1]? = some (.p (aD x.1)))(a:Act)(x:List UInt8 × Bool)(h:cT C M W T a.tmps):cT C M W (s1T p1 p2 d T x) (Hj p1 p2 d a x).tmps:=by
 have s1:=bIg (p1:=p1) (p2:=p2) a x h;exact cT.put s1 (s1.at (hp x))
theorem bOj{p1 p2 d e:Nat}(hp:∀ x,(lnT p1 p2 T x)[p1]? = some (.p (aD x.1)))(E6:∀ x,(s1T p1 p2 d T x)[p2]? = some (.p (blP x.2)))(a:Act)(x:List UInt8 × Bool)(h:cT C M W T a.tmps):cT C M W (s2T p1 p2 d e T x) (Jb p1 p2 d e a x).tmps:=by
 have s1:=aSs (d:=d) hp a x h;exact cT.put s1 (s1.at (E6 x))
end
end KV
end Go.Proofs
end
namespace Go.Proofs
namespace KV
open Tryz
section
variable {P:Program} {T:TT} {E:Env} {C C0:Cx} {M M0 M1:Mem} {w w0:World}

def bkN(all:List Nat)(j:Nat):Option Nat:=all[j]?
def rS(Fe:List Nat):List Nat→Mem→Option Upd
 | i::r,some o::m=>match mpO (bkN Fe) o with
  | some o'=>(rS Fe r m).map ((i,o') :: ·)
  | none=>none
 | [],[]=>some []
 | _,_=>none

theorem aEu{Fe:List Nat}:∀ {ids:List Nat} {m:Mem} {L:Upd},rS Fe ids m=some L→ids.Nodup →
  m.length=ids.length ∧
  ∀ (N:Mem),(∀ (p i:Nat) (o':AO),ids[p]? = some i→(bV (upds N L) i=some o'↔∃ o,m[p]? = some (some o)∧mpO (bkN Fe) o=some o')) ∧
   ∀ j,j∉ids→bV (upds N L) j=bV N j
 | [],[],L,h,_=>by
  unfold rS at h;cases h
  refine ⟨rfl,fun N=>⟨fun p i o' hp=>by simp at hp,fun _ _=>rfl⟩⟩
 | i::r,some o::m,L,h,hd=>by
  unfold rS at h
  split at h
  ·rename_i o' ho
   simp only [Da] at h
   obtain ⟨L',I1,rfl⟩:=h;obtain ⟨Hv,Fo⟩:=List.nodup_cons.1 hd;obtain ⟨q1,q2⟩:=aEu (ids:=r) I1 Fo;refine ⟨by simpa using q1,fun N => ?_⟩
   obtain ⟨r1,r4⟩:=q2 (aZ N i (some o'));refine ⟨fun p j o2 hp => ?_,fun j hj => ?_⟩
   ·cases p with
    | zero =>
     simp at hp;subst hp
     simp only [upds];rw [r4 i Hv,dD,if_pos rfl];constructor
     ·intro h;cases h;exact ⟨o,rfl,ho⟩
     ·rintro ⟨o3,h3,h4⟩
      simp at h3;subst h3
      rw [ho] at h4;exact h4
    | succ p =>
     simp only [upds];rw [List.getElem?_cons_succ] at hp
     rw [r1 p j o2 hp];rfl
   ·simp only [upds]
    rw [r4 j (fun e=>hj (Ci _ e)),dD,if_neg (fun e=>hj (by simp [e]))]
  ·cases h
 | [],_::_,L,h,_=>by unfold rS at h;cases h
 | _::_,[],L,h,_=>by unfold rS at h;cases h
 | _::_,none::_,L,h,_=>by unfold rS at h;cases h

theorem aBf{Fe:List Nat}:∀ {ids:List Nat} {m:Mem} {L:Upd},rS Fe ids m=some L→∀ (p:Nat) (o1:AO),m[p]? = some (some o1)→∃ o',mpO (bkN Fe) o1=some o'
 | [],[],L,h,p,o1,hp=>by simp at hp
 | i::r,some o::m,L,h,p,o1,hp=>by
  unfold rS at h
  split at h
  ·rename_i hx
   simp only [Da] at h
   obtain ⟨L',I1,_⟩:=h;cases p with
   | zero=>simp at hp;subst hp;exact ⟨_,hx⟩
   | succ p=>exact aBf I1 p o1 (by simpa using hp)
  ·cases h
 | [],_::_,L,h,_,_,_=>by unfold rS at h;cases h
 | _::_,[],L,h,_,_,_=>by unfold rS at h;cases h
 | _::_,none::_,L,h,_,_,_=>by unfold rS at h;cases h

def Cx.backN(C C1:Cx)(all:List Nat):Cx :=
 {ι:=fun j=>match idx all j 0 with | some p=>C1.ι p | none=>C.ι j
  κ:=fun j=>match idx all j 0 with | some p=>C1.κ p | none=>C.κ j
  F:=C1.F }

theorem bIh{ids news:List Nat}{r y:AV}{L:Upd}{C1:Cx}{w':World}{u:Value}(hd:distinct 0 ids=true)(hda:distinct 0 (ids++news)=true)(hb:∀ i∈news,fF M i=true)
  (hs:rnM 0 ids (ids.map (at? M))=some M0) (hlv:∀ i∈ids,dS M i=true) (hU:rS (ids++news) (ids++news) M1=some L) (hy:mpA (bkN (ids++news)) r=some y)
  (hM:aX P C M w) (hF:Fr (C.rn 0 ids) M0 w C1 M1 w') (Bq:aX P C1 M1 w') (hr:Rep C1 M1 w' r u):Fr C M w (C.backN C1 (ids++news)) (upds M L) w'∧aX P (C.backN C1 (ids++news)) (upds M L) w'∧Rep (C.backN C1 (ids++news)) (upds M L) w' y u:=by
 obtain ⟨_,hnd⟩:=gG hd;obtain ⟨_,hna⟩:=gG hda;obtain ⟨Hz,hmp,hsrc⟩:=pG (k:=0) hM hd hs;have hlen:M0.length=ids.length:=by have:=(yO hs).1;simpa using this
 generalize hall:ids++news=all at *
 obtain ⟨An,hup⟩:=aEu hU hna;obtain ⟨u1,u4⟩:=hup M;have hL:=Hz.le hF;have inA:∀ (p i:Nat),ids[p]? = some i→all[p]? = some i:=fun p i h=>by
  rw [← hall,aCd (Cf.1 h).1];exact h
 have memA:∀ i,i∈all↔i∈ids∨i∈news:=fun i=>by rw [← hall];simp
 have newF:∀ (p i:Nat),all[p]? = some i→i∉ids→fF M i=true:=fun p i h hn=>by
  rcases (memA i).1 (Cj h) with h | h
  ·exact absurd h hn
  ·exact hb i h
 have oldP:∀ (p i:Nat),all[p]? = some i→i∈ids→ids[p]? = some i:=fun p i h hn=>by
  obtain ⟨q,hq,he⟩:=List.mem_iff_getElem.1 hn;have h2:ids[q]? = some i:=by rw [B3 hq,he]
  have e1:=oH hna 0 h;have e2:=oH hna 0 (inA q i h2);rw [e1] at e2
  have:p=q:=by simpa using e2
  rw [this];exact h2
 have rnp:∀ p i,ids[p]? = some i→rnI 0 ids i=some p:=fun p i h=>by
  have:=oH hnd 0 h;unfold rnI;rw [show Nat.blt i 0=false from rfl,this,jB]
 have Cg:∀ p i,ids[p]? = some i→∃ o o0,M[i]? = some (some o)∧o.live=true∧M0[p]? = some (some o0)∧o0.live=true∧(C.rn 0 ids).ι p=C.ι i∧(C.rn 0 ids).κ p=C.κ i:=fun p i hp=>by
  obtain ⟨o,h1,h2⟩:=dI (hlv i (Cj hp));obtain ⟨o0,h3,h4⟩:=hmp.fw _ _ _ (rnp p i hp) h1;exact ⟨o,o0,h1,h2,h3,by rw [bR h4];exact h2,hmp.at_ _ _ (rnp p i hp)⟩
 have sh_of:∀ (p:Nat) (o0:AO),M0[p]? = some (some o0)→∃ i o,ids[p]? = some i∧M[i]? = some (some o)∧o.live=true∧o0.live=true∧(C.rn 0 ids).ι p=C.ι i:=fun p o0 hp=>by
  obtain ⟨hl,_⟩:=Cf.1 hp;have J9:ids[p]? = some ids[p]:=B3 (by omega)
  obtain ⟨o,o1,h1,h2,h3,h4,h5,_⟩:=Cg p _ J9;rw [hp] at h3;cases h3
  exact ⟨_,o,J9,h1,h2,h4,h5⟩
 have apart:∀ (j:Nat) (o:AO) (b:Nat),j∉ids→M[j]? = some (some o)→o.live=true→C.ι j=some b→w'.heap[b]? = w.heap[b]? ∧ ¬ C1.F b∧∀ (p:Nat) (o1:AO),M1[p]? = some (some o1)→o1.live=true→C1.ι p≠some b:=fun j o b hj h1 h2 h3=>by
  have Cl:=hM.lt j o b h1 h2 h3;have I2:∀ (p:Nat) (o0:AO),M0[p]? = some (some o0)→o0.live=true→(C.rn 0 ids).ι p≠some b:=fun p o0 hp _ he=>by
   obtain ⟨i,o2,q1,q2,q3,_,q4⟩:=sh_of p o0 hp;rw [q4] at he
   have:=hM.inj j i o o2 b h1 h2 q2 q3 h3 he;subst this;exact hj (Cj q1)
  refine ⟨hF.keep b Cl I2,fun hf => ?_,fun p o1 hp hl he => ?_⟩
  ·rcases hF.F2 b hf with q | q | ⟨p,o0,q1,q2,q3⟩
   ·exact hM.nF j o b h1 h2 h3 q
   ·omega
   ·exact I2 p o0 q1 q2 q3
  ·rcases hF.new p o1 b hp hl he with q | ⟨p0,o0,q1,q2,q3⟩
   ·omega
   ·exact I2 p0 o0 q1 q2 q3
 have ix:∀ j,(j∈all→∃ p,idx all j 0=some p∧all[p]? = some j)∧(j∉all→idx all j 0=none):=fun j=>by
  refine ⟨fun hj => ?_,fun hj => ?_⟩
  ·obtain ⟨p,hp,he⟩:=List.mem_iff_getElem.1 hj
   have:all[p]? = some j:=by rw [B3 hp,he]
   exact ⟨p,by simpa using oH hna 0 this,this⟩
  ·cases h1:idx all j 0 with
   | none=>rfl
   | some p =>
    obtain ⟨_,h2⟩:=tI _ _ _ _ h1;exact absurd (Cj h2) hj
 have cls:∀ (j:Nat) (o':AO),(upds M L)[j]? = some (some o')→(∃ p o1,all[p]? = some j∧M1[p]? = some (some o1)∧mpO (bkN all) o1=some o'∧(C.backN C1 all).ι j=C1.ι p∧(C.backN C1 all).κ j=C1.κ p) ∨
   (j∉ids∧j∉all∧M[j]? = some (some o')∧(C.backN C1 all).ι j=C.ι j∧(C.backN C1 all).κ j=C.κ j):=fun j o' hj=>by
  rw [← bH] at hj
  by_cases hm:j∈all
  ·obtain ⟨p,Fp,E6⟩:=(ix j).1 hm
   obtain ⟨o1,h1,h2⟩:=(u1 p j o' E6).1 hj;exact .inl ⟨p,o1,E6,h1,h2,by simp [Cx.backN,Fp],by simp [Cx.backN,Fp]⟩
  ·have hn:=(ix j).2 hm
   rw [u4 j hm] at hj
   exact .inr ⟨fun h=>hm ((memA j).2 (.inl h)),hm,bH.1 hj,by simp [Cx.backN,hn],by simp [Cx.backN,hn]⟩
 have Er:Fr C M w (C.backN C1 all) (upds M L) w':=by
  refine ⟨hF.os,hF.tape,hF.out,hF.size,fun b Cl hn => ?_,fun i o ho => ?_,fun i o ho ty n cs hx => ?_,fun i o ho o' hx hl => ?_,fun j o b hj hl hjb => ?_,fun b hb=>hF.F1 b hb,fun b hb => ?_⟩
  ·exact hF.keep b Cl fun p o0 hp hl he=>by
    obtain ⟨i,o2,q1,q2,q3,_,q4⟩:=sh_of p o0 hp;rw [q4] at he
    exact hn i o2 q2 q3 he
  ·by_cases hm:i∈all
   ·obtain ⟨p,Fp,E6⟩:=(ix i).1 hm
    have hmi:i∈ids:=Classical.byContradiction fun hni=>cW (newF p i E6 hni) o ho
    obtain ⟨_,o0,_,_,h3,h4,h5,h6⟩:=Cg p i (oldP p i E6 hmi);obtain ⟨⟨o1,q1⟩,q2,q3⟩:=hF.ids p o0 h3;refine ⟨?_,by simp only [Cx.backN,Fp];rw [q2,h5],by simp only [Cx.backN,Fp];rw [q3,h6]⟩
    obtain ⟨o',hq⟩:=aBf hU p o1 q1;exact ⟨o',bH.1 ((u1 p i o' E6).2 ⟨o1,q1,hq⟩)⟩
   ·refine ⟨⟨o,bH.1 (by rw [u4 i hm];exact bH.2 ho)⟩,by simp [Cx.backN,(ix i).2 hm],by simp [Cx.backN,(ix i).2 hm]⟩
  ·rcases cls i _ hx with ⟨p,o1,q1,q2,q3,_⟩ | ⟨_,_,q3,_⟩
   ·have hmi:i∈ids:=Classical.byContradiction fun hni=>cW (newF p i q1 hni) o ho
    have q1:=oldP p i q1 hmi;rw [jM q3] at q2
    obtain ⟨o2,o0,h1,_,h3,_⟩:=Cg p i q1;obtain ⟨Bh,h5⟩:=hF.row p o0 h3 _ _ _ q2;obtain ⟨o4,h6,h7⟩:=hmp.bk _ _ _ (rnp p i q1) h5;rw [jM h7] at h6
    exact ⟨Bh,h6⟩
   ·exact ⟨cs,q3⟩
  ·rcases cls i _ hx with ⟨p,o1,q1,q2,q3,_⟩ | ⟨_,_,q3,_⟩
   ·have hmi:i∈ids:=Classical.byContradiction fun hni=>cW (newF p i q1 hni) o ho
    obtain ⟨o2,o0,h1,h2,h3,_⟩:=Cg p i (oldP p i q1 hmi);rw [ho] at h1;cases h1
    exact h2
   ·rw [ho] at q3;cases q3;exact hl
  ·have fin:∀ (p:Nat) (o1:AO),M1[p]? = some (some o1)→o1.live=true→C1.ι p=some b→w.heap.size≤b∨∃ (Ef:Nat) (o0:AO),M[Ef]? = some (some o0)∧o0.live=true∧C.ι Ef=some b:=fun p o1 h1 h2 h3=>by
    rcases hF.new p o1 b h1 h2 h3 with q | ⟨p0,o0,q1,q2,q3⟩
    ·exact .inl q
    ·obtain ⟨i,o2,r1,r2,r3,_,r4⟩:=sh_of p0 o0 q1
     rw [r4] at q3
     exact .inr ⟨i,o2,r2,r3,q3⟩
   rcases cls j _ hj with ⟨p,o1,q1,q2,q3,q4,_⟩ | ⟨_,_,q3,q4,_⟩
   ·rw [q4] at hjb
    exact fin p o1 q2 (by rw [← bR q3];exact hl) hjb
   ·rw [q4] at hjb
    exact .inr ⟨j,o,q3,hl,hjb⟩
  ·rcases hF.F2 b hb with q | q | ⟨p,o0,q1,q2,q3⟩
   ·exact .inl q
   ·exact .inr (.inl q)
   ·obtain ⟨i,o2,r1,r2,r3,_,r4⟩:=sh_of p o0 q1
    rw [r4] at q3
    exact .inr (.inr ⟨i,o2,r2,r3,q3⟩)
 have G6:=hM.le Er;have hbk:aTz (bkN all) C1 (C.backN C1 all) M1 (upds M L):=by
  refine ⟨fun i j o' hij hj=>(u1 i j o' hij).1 (bH.2 hj),fun i j o hij hi => ?_,fun i j hij => ?_,fun _ h=>h⟩
  ·obtain ⟨o',hq⟩:=aBf hU i o hi
   exact ⟨o',bH.1 ((u1 i j o' hij).2 ⟨o,hi,hq⟩),hq⟩
  ·have:=oH hna 0 hij
   rw [jB] at this
   simp [Cx.backN,this]
 refine ⟨Er,⟨fun j ty n cs h => ?_,fun j ty cs h => ?_,fun j es cl h => ?_,fun j j' o1 o2 b q1 l1 q2 l2 e1 e2 => ?_,fun j o b h hl hb => ?_,Bq.Fs,fun j o b h hl hb => ?_,Bq.lib.mono (fun _ h=>h) fun _ _=>rfl⟩,qZ hbk hr hy⟩
 ·rcases cls j _ h with ⟨p,o1,q1,q2,q3,q4,q5⟩ | ⟨q1,_,q3,q4,q5⟩
  ·rw [jM q3] at q2
   rw [q4,q5];exact Bq.row _ _ _ _ q2
  ·rw [q4,q5]
   rcases hM.row _ _ _ _ q3 with q | ⟨b,arr,inf,p0,p1,p2,p3,p4,p5,p6,p7,p8⟩
   ·exact .inl q
   ·exact .inr ⟨b,arr,inf,p0,by rw [(apart j _ b q1 q3 rfl p0).1];exact p1,p2,p3,p4,p5,p6,fun i hi=>(p7 i hi).mono G6.F G6.fz,p8⟩
 ·rcases cls j _ h with ⟨p,o1,q1,q2,q3,q4,q5⟩ | ⟨q1,_,q3,q4,q5⟩
  ·cases o1 with
   | box C7 l =>
    simp only [mpO,Da] at q3
    obtain ⟨l',De,e⟩:=q3;cases e;obtain ⟨b,arr,p0,p1,p2,p3,p4⟩:=Bq.box _ _ _ q2;obtain ⟨n1,n2⟩:=eW hbk (w:=w') (us:=fun j=>arr.getD j undef) p3 De
    exact ⟨b,arr,by rw [q4];exact p0,p1,by omega,n2,fun j hj=>p4 j (by omega)⟩
   | row=>simp [mpO] at q3
   | mp=>simp [mpO] at q3
   | pk=>simp [mpO] at q3
   | dead=>simp [mpO] at q3
  ·obtain ⟨b,arr,p0,p1,p2,p3,p4⟩:=hM.box _ _ _ q3
   exact ⟨b,arr,by rw [q4];exact p0,by rw [(apart j _ b q1 q3 rfl p0).1];exact p1,p2,fun i hi=>(p3 i hi).mono G6,p4⟩
 ·rcases cls j _ h with ⟨p,o1,q1,q2,q3,q4,q5⟩ | ⟨q1,_,q3,q4,q5⟩
  ·cases o1 with
   | mp E8 Ju =>
    simp only [mpO,Option.some.injEq] at q3
    cases q3;obtain ⟨b,arr,p0,p1,p2,p3⟩:=Bq.mp _ _ _ q2;refine ⟨b,arr,by rw [q4];exact p0,p1,p2,fun j hj => ?_⟩
    obtain ⟨en,s1,s2,s3,s4⟩:=p3 j hj;exact ⟨en,s1,s2,s3,s4.mono hbk.F (fun _ _=>rfl)⟩
   | row=>simp [mpO] at q3
   | box=>simp [mpO] at q3
   | pk=>simp [mpO] at q3
   | dead=>simp [mpO] at q3
  ·obtain ⟨b,arr,p0,p1,p2,p3⟩:=hM.mp _ _ _ q3
   refine ⟨b,arr,by rw [q4];exact p0,by rw [(apart j _ b q1 q3 rfl p0).1];exact p1,p2,fun i hi => ?_⟩
   obtain ⟨en,s1,s2,s3,s4⟩:=p3 i hi;exact ⟨en,s1,s2,s3,s4.mono G6.F G6.fz⟩
 ·rcases cls j _ q1 with ⟨p,a1,r1,r2,r3,r4,_⟩ | ⟨r1,rb,r3,r4,_⟩ <;> rcases cls j' _ q2 with ⟨p',a2,t1,t2,t3,t4,_⟩ | ⟨t1,tb,t3,t4,_⟩
  all_goals (rw [r4] at e1;rw [t4] at e2)
  ·have:=Bq.inj p p' a1 a2 b r2 (by rw [← bR r3];exact l1) t2 (by rw [← bR t3];exact l2) e1 e2
   subst this;rw [r1] at t1;cases t1;rfl
  ·exact absurd e1 ((apart j' o2 b t1 t3 l2 e2).2.2 p a1 r2 (by rw [← bR r3];exact l1))
  ·exact absurd e2 ((apart j o1 b r1 r3 l1 e1).2.2 p' a2 t2 (by rw [← bR t3];exact l2))
  ·exact hM.inj j j' o1 o2 b r3 l1 t3 l2 e1 e2
 ·rcases cls j _ h with ⟨p,o1,q1,q2,q3,q4,q5⟩ | ⟨q1,_,q3,q4,q5⟩
  ·rw [q4] at hb
   exact Bq.nF _ _ b q2 (by rw [← bR q3];exact hl) hb
  ·rw [q4] at hb
   exact (apart j o b q1 q3 hl hb).2.1
 ·rcases cls j _ h with ⟨p,o1,q1,q2,q3,q4,q5⟩ | ⟨q1,_,q3,q4,q5⟩
  ·rw [q4] at hb
   exact Bq.lt _ _ b q2 (by rw [← bR q3];exact hl) hb
  ·rw [q4] at hb
   exact uL (hM.lt j o b q3 hl hb) hF.size

def aPw(ids news:List Nat)(args:List AV)(bs:Upd)(M1:Mem)(r:AV):Option (List AV × Mem × AV × Upd):=match distinct 0 ids && distinct 0 (ids++news) && ids.all (dS (upds [] bs)) with
 | true=>match rnM 0 ids (ids.map (at? (upds [] bs))) with
  | some M0=>match rnL 0 ids args with
   | some A4=>match rS (ids++news) (ids++news) M1 with
    | some L=>match mpA (bkN (ids++news)) r with
     | some y=>some (A4,M0,y,L)
     | none=>none
    | none=>none
   | none=>none
  | none=>none
 | false=>none
theorem FMM.fcN{f base k:Nat}(hk:Nat.ble k 8=true){ids:List Nat}{args A4:List AV}{bs:Upd}{r y:AV}{L:Upd}(h:FMM P f A4 M0 r M1)(hs:aPw ids ((List.range k).map (base + ·)) args bs M1 r=some (A4,M0,y,L)):FC P f args bs base y L:=fun M hb hf G4=>by
 unfold aPw at hs
 have hsub:aOa (upds [] bs) M:=fun id o ho=>by
  rcases pU bs [] id o ho with h5 | h5
  ·exact hb _ h5
  ·simp [bV] at h5
 split at hs
 ·rename_i hd
  rw [Bv,Bv,hZ] at hd
  obtain ⟨⟨Hv,Fo⟩,Ns⟩:=hd;have hlv:∀ i∈ids,∃ o,bV (upds [] bs) i=some o∧bV M i=some o∧o.live=true:=fun i hi=>by
   obtain ⟨o,h1,h2⟩:=dI (Ns i hi);exact ⟨o,bH.2 h1,hsub _ _ (bH.2 h1),h2⟩
  split at hs
  ·rename_i h1
   split at hs
   ·rename_i h2
    split at hs
    ·rename_i h3
     split at hs
     ·rename_i h4
      cases hs;have he:ids.map (at? M)=ids.map (at? (upds [] bs)):=bEz fun i hi=>by
       obtain ⟨o,q1,q2,_⟩:=hlv i hi;unfold at?
       rw [q1,q2]
      intro C w us hus hM n;have G1:rnM 0 ids (ids.map (at? M))=some M0:=by rw [he];exact h1
      obtain ⟨Hz,hmp,_⟩:=pG (k:=0) hM Hv G1;refine (h (C.rn 0 ids) w us (aGj hmp hus h2) Hz n).mono ?_;rintro e w' ⟨u,rfl,C1,hF,Bq,hr⟩;exact ⟨u,rfl,C.backN C1 (ids++(List.range k).map (base + ·)),bIh Hv Fo (fun i hi=>by
       obtain ⟨j,hj,rfl⟩:=sY.1 hi;have hj:=aVq.1 hj;have hk:=Nat.le_of_ble_eq_true hk;exact G4 j (by omega)) G1 (fun i hi=>by
       obtain ⟨o,_,q2,q3⟩:=hlv i hi;exact gO (bH.1 q2) q3) h3 h4 hM hF Bq hr⟩
     ·cases hs
    ·cases hs
   ·cases hs
  ·cases hs
 ·cases hs
def qF(ids:List Nat)(base:Nat):=bkN (ids++(List.range 7).map (base+·))
def qN(ids:List Nat)(base:Nat)(x:AV):AV:=(mpA (qF ids base) x).getD .any
theorem mN(ids:List Nat)(base:Nat){P:Program}{f:Nat}{A4:List AV}{M0 M1:Mem}{r:AV}(h:FMM P f A4 M0 r M1)(hs:aPw ids ((List.range 7).map (base+·)) (A4.map (qN ids base)) (qS ids (qF ids base) (A4.map (qN ids base)) M0) M1 r=some (A4,M0,qN ids base r,(rS (ids++(List.range 7).map (base+·)) (ids++(List.range 7).map (base+·)) M1).getD []):=by kernel_rfl):FC P f (A4.map (qN ids base)) (qS ids (qF ids base) (A4.map (qN ids base)) M0) base (qN ids base r) ((rS (ids++(List.range 7).map (base+·)) (ids++(List.range 7).map (base+·)) M1).getD []):=FMM.fcN (k:=7) rfl h hs
end
section
def bX(st:St)(id:Nat)(o:Option AO):St:=⟨st.t,st.m.set id o⟩
mutual
def wkP:PV→PV
 | .v (.slice none 0 0) => .sl 0 []
 | .agg cs => .agg (bIi cs)
 | x=>x
def bIi:List PV→List PV
 | []=>[]
 | x::r=>wkP x::bIi r
end
theorem aLg:∀ l:List PV,bIi l=l.map wkP
 | []=>by simp [bIi]
 | x::r=>by rw [bIi,aLg r];rfl
def I3:AV→AV
 | .p x => .p (wkP x)
 | x=>x
theorem aSt{F:Nat→Prop}{w:World}{x:PV}{u:Value}(h:cU F w x u):cU F w (wkP x) u:=by
 induction h with
 | v x =>
  unfold wkP
  split
  ·rename_i e
   cases e;exact .sl 0 [] none 0 (fun _=>undef) (Bb _) (Nat.zero_le _) (fun i h=>by simp at h) (fun i h=>by simp at h) (fun i h=>by simp at h)
  ·rename_i e;cases e
  ·exact .v x
 | sl n cs p cap us h1 h2 h3 h4 h5 _=>unfold wkP;exact .sl n cs p cap us h1 h2 h3 h4 h5
 | agg cs vs h0 h1 _ ih =>
  unfold wkP;rw [aLg];exact .agg _ vs (fun i hi=>h0 i (by simpa using hi)) (by simpa using h1) (fun i hi=>by
   have:=ih i (by simpa using hi)
   simpa using this)
 | mp es b cl arr us hb h0 h1 h2 h3 _=>unfold wkP;exact .mp es b cl arr us hb h0 h1 h2 h3
 | rp cs off b o us h1 h2 h3 _=>unfold wkP;exact .rp cs off b o us h1 h2 h3
 | fn f cs ds us vs h1 h2 h3 h4 _ _=>unfold wkP;exact .fn f cs ds us vs h1 h2 h3 h4
theorem yD{C:Cx}{M:Mem}{w:World}{x:AV}{u:Value}(h:Rep C M w x u):Rep C M w (I3 x) u:=by
 cases h with
 | p x u h=>exact .p _ _ (aSt h)
 | _=>unfold I3;constructor <;> assumption
theorem FMM.wk{P:Program}{f:Nat}{args l l':List AV}{M M':Mem}(h:FMM P f args M (.tup l) M')(e:l.map I3=l'):FMM P f args M (.tup l') M':=fun C w us hus hM n=>by
 subst e;refine (h C w us hus hM n).mono ?_;rintro e w' ⟨u,rfl,C',hF,Eh,hr⟩;refine ⟨u,rfl,C',hF,Eh,?_⟩;cases hr with
 | tup _ vs h1 h2=>exact .tup _ vs (by simpa using h1) (fun i hi=>by
   have C8:i<l.length:=by simpa using hi
   simpa using yD (h2 i C8))
end
section
variable {dn xb Hg:Bool}{e f k l kd my H4 H5 Dq Jc:Int}{n bf nr Gy Dw Jd D9:Nat}

noncomputable abbrev fI:Code:=sub (cd Tryz.f15) [1,1,1,1,0,1,0,1]
noncomputable abbrev bIc:Code:=sub (cd Tryz.f15) [1,1,1,1,0,1,0]
theorem aSr:((0:Int) != 0)=false:=by first | decide | simp
theorem bId:((11:Int) != 0)=true:=by first | decide | simp
theorem aHi{s:List UInt8}:FMM Tp 88 [(.p (aD s))] [] (.fn 175 [] [(.ptr 0 0)]) [some (.box 9 [(.p (aD s))])]:=FMM.fi 0 ⟨[],[0],[],[]⟩ func88 [] gn
theorem bYi(fs:List (List UInt8))(ln k:Int)(R:List (List Cel))(he:(hdM fs).2.2.2≠0):FMM Tp 90 [.ptr 0 0,.p (.sl fs.length ((fs.map stE).flatten)),.fn 176 [] [.ptr 2 0,.ptr 3 0]] [some (.box 158 [(pI k),(.own 1),(pI 0),(pI 0),(pI 0)]),some (.row 78 R.length ((R.map rwE).flatten)),some (.box 156 [(.ptr 0 0)]),some (.box 3 [(pI ln)])] (.p (aB (hdM fs).2.1)) [some (.box 158 [(pI (Dl (hdM fs).1)),(.own 1),(pI ln),(pI ((hdM fs).2.2.1)),(pI ((hdM fs).2.2.2))]),some (.row 78 R.length ((R.map rwE).flatten)),some (.box 156 [(.ptr 0 0)]),some (.box 3 [(pI ln)])]:=by
 have:=bGl fs ln k 0 0 R;rw [Ep ln _ 0 0 he] at this
 exact this
theorem bYj(fs:List (List UInt8))(ln k:Int)(R:List (List Cel))(he:(hdM fs).2.2.2=0):FMM Tp 90 [.ptr 0 0,.p (.sl fs.length ((fs.map stE).flatten)),.fn 176 [] [.ptr 2 0,.ptr 3 0]] [some (.box 158 [(pI k),(.own 1),(pI 0),(pI 0),(pI 0)]),some (.row 78 R.length ((R.map rwE).flatten)),some (.box 156 [(.ptr 0 0)]),some (.box 3 [(pI ln)])] (.p (aB (hdM fs).2.1)) [some (.box 158 [(pI (Dl (hdM fs).1)),(.own 1),(pI 0),(pI 0),(pI 0)]),some (.row 78 R.length ((R.map rwE).flatten)),some (.box 156 [(.ptr 0 0)]),some (.box 3 [(pI ln)])]:=by
 have:=bGl fs ln k 0 0 R;rw [he,Io] at this
 exact this
theorem bYk(fs:List (List UInt8))(sm ln k:Int)(R:List (List Cel))(h0:0<fs.length)(he:(lsM fs sm).2≠0):FMM Tp 93 [.p (.sl fs.length ((fs.map stE).flatten)),.p (aB sm),.fn 176 [] [.ptr 0 0,.ptr 1 0]] [some (.box 156 [(.ptr 2 0)]),some (.box 3 [(pI ln)]),some (.box 158 [(pI k),(.own 3),(pI 0),(pI 0),(pI 0)]),some (.row 78 R.length ((R.map rwE).flatten))] (.tup []) [some (.box 156 [(.ptr 2 0)]),some (.box 3 [(pI ln)]),some (.box 158 [(pI k),(.own 3),(pI ln),(pI ((lsM fs sm).1)),(pI ((lsM fs sm).2))]),some (.row 78 R.length ((R.map rwE).flatten))]:=by
 have:=bFu fs sm ln k 0 0 R h0;rw [Ep ln _ 0 0 he] at this
 exact this
theorem bYl(fs:List (List UInt8))(sm ln k:Int)(R:List (List Cel))(h0:0<fs.length)(he:(lsM fs sm).2=0):FMM Tp 93 [.p (.sl fs.length ((fs.map stE).flatten)),.p (aB sm),.fn 176 [] [.ptr 0 0,.ptr 1 0]] [some (.box 156 [(.ptr 2 0)]),some (.box 3 [(pI ln)]),some (.box 158 [(pI k),(.own 3),(pI 0),(pI 0),(pI 0)]),some (.row 78 R.length ((R.map rwE).flatten))] (.tup []) [some (.box 156 [(.ptr 2 0)]),some (.box 3 [(pI ln)]),some (.box 158 [(pI k),(.own 3),(pI 0),(pI 0),(pI 0)]),some (.row 78 R.length ((R.map rwE).flatten))]:=by
 have:=bFu fs sm ln k 0 0 R h0;rw [he,Io] at this
 exact this
theorem aPr{n:Int}(k:Int)(r t:List Cel)(h:aO k≤(r.length:Int))(h2:aO k≤(t.length:Int))(hn:bU k r t=n){base:Nat}:FV Tp 92 [.p (aB k),.p (.sl r.length ((r.map cE).flatten)),.p (.sl t.length ((t.map cE).flatten))] base (pI n) []:=hn ▸ mG k r t h h2
theorem kG{cs:List PV}(h0:e≠0):FMM Tp 94 [(.ptr 0 0)] [some (.box 158 [(pI k),(.own 1),(pI l),(pI f),(pI e)]),some (.row 78 n cs)] (.tup [(.p (.agg [(aB 0),bO])),(pI l),(pI f),(pI e)]) [some (.box 158 [(pI k),(.own 1),(pI l),(pI f),(pI e)]),some (.row 78 n cs)]:=FMM.fi 2 gE func94 [bT] (gc (fJ h0) gn)
theorem bIe{cs:List PV}(h0:e=0):FMM Tp 94 [(.ptr 0 0)] [some (.box 158 [(pI k),(.own 1),(pI l),(pI f),(pI e)]),some (.row 78 n cs)] (.tup [(.agg [(pI k),(.own 1)]),(pI 0),(pI 0),(pI 0)]) [some (.box 158 [(pI k),(.own 1),(pI l),(pI f),(pI e)]),some (.row 78 n cs)]:=FMM.fi 2 gE func94 [bF] (gc (bK h0) gn)
def bS(s:List UInt8)(nr:Nat)(my:Int)(bf:Nat)(dn:Bool)(kd:Int)(Rn:Nat)(Rc:List PV):St:=⟨fr 149 [(1,(.ptr 0 0)),(2,(.ptr 1 0)),(3,(.ptr 2 0)),(4,(.ptr 3 0)),(5,(.ptr 4 0)),(6,(.ptr 6 0)),(7,(.ptr 7 0)),(8,(.ptr 8 0)),(9,(.ptr 9 0)),(10,(.ptr 10 0)),(24,(.ptr 5 0)),(26,(.fn 175 [] [(.ptr 11 0)]))],[some (.box 9 [(.p (aD s))]),some (.box 26 [(pI 0),(.p bO)]),some (.box 3 [(pI 0)]),some (.box 3 [(pI 0)]),some (.box 27 [(pI 0)]),some (.box 158 [(pI kd),(.own 12),(pI 0),(pI 0),(pI 0)]),some (.box 156 [(.ptr 5 0)]),some (.box 3 [(pI (nr:Int))]),some (.box 3 [(pI my)]),some (.box 3 [(pI (bf:Int))]),some (.box 4 [(pB dn)]),some .dead,some (.row 78 Rn Rc)]⟩
def qO(s:List UInt8):St:=⟨fr 149 [(1,(.ptr 0 0)),(2,(.ptr 1 0)),(3,(.ptr 2 0)),(4,(.ptr 3 0)),(5,(.ptr 4 0)),(6,(.ptr 6 0)),(7,(.ptr 7 0)),(8,(.ptr 8 0)),(9,(.ptr 9 0)),(10,(.ptr 10 0)),(24,(.ptr 5 0)),(26,(.fn 175 [] [(.ptr 11 0)]))],[some (.box 9 [(.p (aD s))]),some (.box 26 [(pI 0),(.p bO)]),some (.box 3 [(pI 0)]),some (.box 3 [(pI 0)]),some (.box 27 [(pI 0)]),some (.box 158 [(pI 0),(.p bO),(pI 0),(pI 0),(pI 0)]),some (.box 156 [(.ptr 5 0)]),some (.box 3 [(pI 0)]),some (.box 3 [(pI 0)]),some (.box 3 [(pI 0)]),some (.box 4 [(.kb false)]),some (.box 9 [(.p (aD s))])]⟩
theorem bYm{s:List UInt8}(h0:(65536:Int)<(s.length:Int)):FMM Tp 15 [(.p (aD s))] [] (.tup [(.p (.agg [(aB 0),bO])),(pI 0),(pI 0),(pI 10)]) []:=FMM.fi 0 gE func15 [bT] (g0 h0)
section
variable{s:List UInt8}{R'5:List (List Cel)}(h0:(s.length:Int)≤65536)(An:aA Tp 0 bIc (qO s) .normal (bS s D9 Jc Jd Hg Dq R'5.length ((R'5.map rwE).flatten)))
include h0 An
theorem bYn{r0:Int}(h2:Hg=false)(h3:inR (((D9+1):Nat):Int))(Al:r0=(((D9+1):Nat):Int)):FMM Tp 15 [(.p (aD s))] [] (.tup [(.p (.agg [(aB 0),bO])),(pI r0),(pI 1),(pI 11)]) []:=by
 subst Al;have k1:=mq [13,14,5,12] 15 (cS 1 11 (((D9+1):Nat):Int) Dq 0 0 0 R'5);have k2:=mq [5,12] 15 (kG (k:=Dq) (l:=(((D9+1):Nat):Int)) (f:=(1:Int)) (e:=(11:Int)) (n:=R'5.length) (cs:=((R'5.map rwE).flatten)) (by decide));exact FMM.fi 0 gE func15 [bF,.c (.fn 175 [] [(.ptr 11 0)]) [(11,(.box 9 [(.p (aD s))]))],An.k 1 ⟨(rng [(0,1),(11,13),(25,1),(27,109),(142,1)]),(rng [(0,12)]),[],[]⟩,bT,.c (.fn 176 [] [(.ptr 13 0),(.ptr 14 0)]) [(5,(.box 158 [(pI Dq),(.own 12),(pI 0),(pI 0),(pI 0)])),(12,(.row 78 R'5.length ((R'5.map rwE).flatten))),(13,(.box 156 [(.ptr 5 0)])),(14,(.box 3 [(pI (((D9+1):Nat):Int))]))],k1.o,k2.o] (gc k2 (gc k1 (gt (FC Tp 89 [(.ptr 5 0),(pI (((D9+1):Nat):Int))] [(5,(.box 158 [(pI Dq),(.own 12),(pI 0),(pI 0),(pI 0)])),(12,(.row 78 R'5.length ((R'5.map rwE).flatten)))] 13 (.fn 176 [] [(.ptr 13 0),(.ptr 14 0)]) [(5,(.box 158 [(pI Dq),(.own 12),(pI 0),(pI 0),(pI 0)])),(12,(.row 78 R'5.length ((R'5.map rwE).flatten))),(13,(.box 156 [(.ptr 5 0)])),(14,(.box 3 [(pI (((D9+1):Nat):Int))]))]) (FMM.fcN (k:=2) rfl (ids:=[5,12]) (fA (ln:=(((D9+1):Nat):Int)) (k:=Dq) (l:=(0:Int)) (f:=(0:Int)) (e:=(0:Int)) (R:=R'5)) (by kernel_rfl)) (gc h3 (gc (dB h2) (gc An (gt (FC Tp 88 [(.p (aD s))] [] 11 (.fn 175 [] [(.ptr 11 0)]) [(11,(.box 9 [(.p (aD s))]))]) (FMM.fcN (k:=1) rfl (ids:=[]) (aHi (s:=s)) (by kernel_rfl)) (gc (bL h0) gn))))))))
theorem bYo(h2:Hg=true):FMM Tp 15 [(.p (aD s))] [] (.tup [(.p (.agg [(aB Dq),(.sl R'5.length ((R'5.map rwE).flatten))])),(pI 0),(pI 0),(pI 0)]) []:=have k1:=mq [5,12] 13 (bIe (k:=Dq) (l:=(0:Int)) (f:=(0:Int)) (e:=0) (n:=R'5.length) (cs:=((R'5.map rwE).flatten)) rfl);FMM.fi 0 ⟨[],[],[12],[]⟩ func15 [bF,.c (.fn 175 [] [(.ptr 11 0)]) [(11,(.box 9 [(.p (aD s))]))],An.k 1 ⟨(rng [(0,1),(11,13),(25,1),(27,109),(142,1)]),(rng [(0,12)]),[],[]⟩,bF,k1.o] (gc k1 (gc (aU h2) (gc An (gt (FC Tp 88 [(.p (aD s))] [] 11 (.fn 175 [] [(.ptr 11 0)]) [(11,(.box 9 [(.p (aD s))]))]) (FMM.fcN (k:=1) rfl (ids:=[]) (aHi (s:=s)) (by kernel_rfl)) (gc (bL h0) gn)))))
end
theorem bYp{s:List UInt8}{R'5:List (List Cel)}{Nl Nm Nn:Int}(h0:(s.length:Int)≤65536)(An:aA Tp 0 bIc (qO s) .ret (bX (bX (bX (bX (bS s D9 Jc Jd Hg Dq R'5.length ((R'5.map rwE).flatten)) 5 (some (.box 158 [(pI Dq),(.own 12),(pI Nl),(pI Nm),(pI Nn)]))) 2 (some (.box 3 [(pI Nl)]))) 3 (some (.box 3 [(pI Nm)]))) 4 (some (.box 27 [(pI Nn)])))):FMM Tp 15 [(.p (aD s))] [] (.tup [(.p (.agg [(aB 0),bO])),(pI Nl),(pI Nm),(pI Nn)]) []:=FMM.fi 0 gE func15 [bF,.c (.fn 175 [] [(.ptr 11 0)]) [(11,(.box 9 [(.p (aD s))]))],An.k 1 ⟨(rng [(0,1),(11,13),(25,1),(27,109),(142,1)]),(rng [(0,12)]),[],[]⟩] (gc An (gt (FC Tp 88 [(.p (aD s))] [] 11 (.fn 175 [] [(.ptr 11 0)]) [(11,(.box 9 [(.p (aD s))]))]) (FMM.fcN (k:=1) rfl (ids:=[]) (aHi (s:=s)) (by kernel_rfl)) (gc (bL h0) gn)))
theorem aZw{s:List UInt8}{R:List (List Cel)}{xl:List UInt8}(h0:inR (((nr+1):Nat):Int))(h1:xl.length<4294967281)(h2:1≤([32]:List UInt8).length)(h3:dn=true)(B1:Dw=(nr+1)):bY Tp 13 12 fI (jX (bS s nr my bf dn kd R.length ((R.map rwE).flatten)) 27 28 11 12 xl xb) .ret (bX (bX (bX (bX (bS s Dw my bf dn kd R.length ((R.map rwE).flatten)) 5 (some (.box 158 [(pI kd),(.own 12),(pI (((nr+1):Nat):Int)),(pI 1),(pI 11)]))) 2 (some (.box 3 [(pI (((nr+1):Nat):Int))]))) 3 (some (.box 3 [(pI 1)]))) 4 (some (.box 27 [(pI 11)]))).m:=by
 subst B1
 have raw:bY Tp 13 12 fI (jX (bS s nr my bf dn kd R.length ((R.map rwE).flatten)) 27 28 11 12 xl xb) .ret (bX (bX (bX (bX (bS s (nr+1) my bf dn kd R.length ((R.map rwE).flatten)) 5 (some (.box 158 [(pI kd),(.own 12),(pI (((nr+1):Nat):Int)),(pI 1),(pI 11)]))) 2 (some (.box 3 [(pI (((nr+1):Nat):Int))]))) 3 (some (.box 3 [(pI 1)]))) 4 (some (.box 27 [(pI 11)]))).m:=⟨⟨fr 149 [(1,(.ptr 0 0)),(2,(.ptr 1 0)),(3,(.ptr 2 0)),(4,(.ptr 3 0)),(5,(.ptr 4 0)),(6,(.ptr 6 0)),(7,(.ptr 7 0)),(8,(.ptr 8 0)),(9,(.ptr 9 0)),(10,(.ptr 10 0)),(24,(.ptr 5 0)),(26,(.fn 175 [] [(.ptr 11 0)]))],[some (.box 9 [(.p (aD s))]),some (.box 26 [(pI 0),(.p bO)]),some (.box 3 [(pI (((nr+1):Nat):Int))]),some (.box 3 [(pI 1)]),some (.box 27 [(pI 11)]),some (.box 158 [(pI kd),(.own 12),(pI (((nr+1):Nat):Int)),(pI 1),(pI 11)]),some (.box 156 [(.ptr 5 0)]),some (.box 3 [(pI (((nr+1):Nat):Int))]),some (.box 3 [(pI my)]),some (.box 3 [(pI (bf:Int))]),some (.box 4 [(pB dn)]),some .dead,some (.row 78 R.length ((R.map rwE).flatten))]⟩,⟨[],[12],[],[]⟩,aA.fin (g:=⟨(rng [(0,1),(11,13),(25,1),(27,109),(142,1)]),[],[],[]⟩) (o:=[.c (.fn 176 [] [(.ptr 13 0),(.ptr 14 0)]) [(5,(.box 158 [(pI kd),(.own 12),(pI 0),(pI 0),(pI 0)])),(12,(.row 78 R.length ((R.map rwE).flatten))),(13,(.box 156 [(.ptr 5 0)])),(14,(.box 3 [(pI (((nr+1):Nat):Int))]))],.c (.p (.sl ((aL xl ([32]:List UInt8)).length) (((aL xl ([32]:List UInt8)).map stE).flatten))) [],bT,bT,bT,.c (pB false) [(13,(.box 156 [(.ptr 5 0)])),(14,(.box 3 [(pI (((nr+1):Nat):Int))])),(5,(.box 158 [(pI kd),(.own 12),(pI (((nr+1):Nat):Int)),(pI 1),(pI 11)])),(12,(.row 78 R.length ((R.map rwE).flatten)))],bT,.c (.tup [(.p (.agg [(aB 0),bO])),(pI (((nr+1):Nat):Int)),(pI 1),(pI 11)]) [(5,(.box 158 [(pI kd),(.own 12),(pI (((nr+1):Nat):Int)),(pI 1),(pI 11)])),(12,(.row 78 R.length ((R.map rwE).flatten)))]]) (l:=[FC Tp 94 [(.ptr 5 0)] [(5,(.box 158 [(pI kd),(.own 12),(pI (((nr+1):Nat):Int)),(pI 1),(pI 11)])),(12,(.row 78 R.length ((R.map rwE).flatten)))] 15 (.tup [(.p (.agg [(aB 0),bO])),(pI (((nr+1):Nat):Int)),(pI 1),(pI 11)]) [(5,(.box 158 [(pI kd),(.own 12),(pI (((nr+1):Nat):Int)),(pI 1),(pI 11)])),(12,(.row 78 R.length ((R.map rwE).flatten)))],_,FC Tp 176 [(pI 1),(pI 11),(.ptr 13 0),(.ptr 14 0)] [(13,(.box 156 [(.ptr 5 0)])),(14,(.box 3 [(pI (((nr+1):Nat):Int))])),(5,(.box 158 [(pI kd),(.own 12),(pI 0),(pI 0),(pI 0)])),(12,(.row 78 R.length ((R.map rwE).flatten)))] 15 (pB false) [(13,(.box 156 [(.ptr 5 0)])),(14,(.box 3 [(pI (((nr+1):Nat):Int))])),(5,(.box 158 [(pI kd),(.own 12),(pI (((nr+1):Nat):Int)),(pI 1),(pI 11)])),(12,(.row 78 R.length ((R.map rwE).flatten)))],_,_,_,_,FC Tp 89 [(.ptr 5 0),(pI (((nr+1):Nat):Int))] [(5,(.box 158 [(pI kd),(.own 12),(pI 0),(pI 0),(pI 0)])),(12,(.row 78 R.length ((R.map rwE).flatten)))] 13 (.fn 176 [] [(.ptr 13 0),(.ptr 14 0)]) [(5,(.box 158 [(pI kd),(.own 12),(pI 0),(pI 0),(pI 0)])),(12,(.row 78 R.length ((R.map rwE).flatten))),(13,(.box 156 [(.ptr 5 0)])),(14,(.box 3 [(pI (((nr+1):Nat):Int))]))],_]) (by kernel_rfl) (gc (FMM.fc (ids:=[5,12]) (kG (k:=kd) (l:=(((nr+1):Nat):Int)) (f:=(1:Int)) (e:=(11:Int)) (n:=R.length) (cs:=((R.map rwE).flatten)) (by decide)) (by kernel_rfl)) (gc bId (gc (FMM.fc (ids:=[13,14,5,12]) (cS 1 11 (((nr+1):Nat):Int) kd 0 0 0 R) (by kernel_rfl)) (Ay h3 (gc (fk 15 (eE xl ([32]:List UInt8) h1 h2) rfl) (gc (FMM.fcN (k:=2) rfl (ids:=[5,12]) (fA (ln:=(((nr+1):Nat):Int)) (k:=kd) (l:=(0:Int)) (f:=(0:Int)) (e:=(0:Int)) (R:=R)) (by kernel_rfl)) (gc h0 gn))))))),by kernel_rfl,(⟨fr 149 [(1,(.ptr 0 0)),(2,(.ptr 1 0)),(3,(.ptr 2 0)),(4,(.ptr 3 0)),(5,(.ptr 4 0)),(6,(.ptr 6 0)),(7,(.ptr 7 0)),(8,(.ptr 8 0)),(9,(.ptr 9 0)),(10,(.ptr 10 0)),(24,(.ptr 5 0)),(26,(.fn 175 [] [(.ptr 11 0)]))],[some (.box 9 [(.p (aD s))]),some (.box 26 [(pI 0),(.p bO)]),some (.box 3 [(pI (((nr+1):Nat):Int))]),some (.box 3 [(pI 1)]),some (.box 27 [(pI 11)]),some (.box 158 [(pI kd),(.own 12),(pI (((nr+1):Nat):Int)),(pI 1),(pI 11)]),some (.box 156 [(.ptr 5 0)]),some (.box 3 [(pI (((nr+1):Nat):Int))]),some (.box 3 [(pI my)]),some (.box 3 [(pI (bf:Int))]),some (.box 4 [(pB dn)]),some .dead,some (.row 78 R.length ((R.map rwE).flatten))]⟩:St).t,by kernel_rfl⟩
 exact raw
theorem aZx{s:List UInt8}{R:List (List Cel)}{xl:List UInt8}(h0:inR (((nr+1):Nat):Int))(h1:xl.length<4294967281)(h2:1≤([32]:List UInt8).length)(h3:dn=false)(h4:xb=false)(B1:Dw=(nr+1)):bY Tp 13 12 fI (jX (bS s nr my bf dn kd R.length ((R.map rwE).flatten)) 27 28 11 12 xl xb) .ret (bX (bX (bX (bX (bS s Dw my bf dn kd R.length ((R.map rwE).flatten)) 5 (some (.box 158 [(pI kd),(.own 12),(pI (((nr+1):Nat):Int)),(pI 1),(pI 11)]))) 2 (some (.box 3 [(pI (((nr+1):Nat):Int))]))) 3 (some (.box 3 [(pI 1)]))) 4 (some (.box 27 [(pI 11)]))).m:=by
 subst B1
 have raw:bY Tp 13 12 fI (jX (bS s nr my bf dn kd R.length ((R.map rwE).flatten)) 27 28 11 12 xl xb) .ret (bX (bX (bX (bX (bS s (nr+1) my bf dn kd R.length ((R.map rwE).flatten)) 5 (some (.box 158 [(pI kd),(.own 12),(pI (((nr+1):Nat):Int)),(pI 1),(pI 11)]))) 2 (some (.box 3 [(pI (((nr+1):Nat):Int))]))) 3 (some (.box 3 [(pI 1)]))) 4 (some (.box 27 [(pI 11)]))).m:=⟨⟨fr 149 [(1,(.ptr 0 0)),(2,(.ptr 1 0)),(3,(.ptr 2 0)),(4,(.ptr 3 0)),(5,(.ptr 4 0)),(6,(.ptr 6 0)),(7,(.ptr 7 0)),(8,(.ptr 8 0)),(9,(.ptr 9 0)),(10,(.ptr 10 0)),(24,(.ptr 5 0)),(26,(.fn 175 [] [(.ptr 11 0)]))],[some (.box 9 [(.p (aD s))]),some (.box 26 [(pI 0),(.p bO)]),some (.box 3 [(pI (((nr+1):Nat):Int))]),some (.box 3 [(pI 1)]),some (.box 27 [(pI 11)]),some (.box 158 [(pI kd),(.own 12),(pI (((nr+1):Nat):Int)),(pI 1),(pI 11)]),some (.box 156 [(.ptr 5 0)]),some (.box 3 [(pI (((nr+1):Nat):Int))]),some (.box 3 [(pI my)]),some (.box 3 [(pI (bf:Int))]),some (.box 4 [(pB dn)]),some .dead,some (.row 78 R.length ((R.map rwE).flatten))]⟩,⟨[],[12],[],[]⟩,aA.fin (g:=⟨(rng [(0,1),(11,13),(25,1),(27,109),(142,1)]),[],[],[]⟩) (o:=[.c (.fn 176 [] [(.ptr 13 0),(.ptr 14 0)]) [(5,(.box 158 [(pI kd),(.own 12),(pI 0),(pI 0),(pI 0)])),(12,(.row 78 R.length ((R.map rwE).flatten))),(13,(.box 156 [(.ptr 5 0)])),(14,(.box 3 [(pI (((nr+1):Nat):Int))]))],.c (.p (.sl ((aL xl ([32]:List UInt8)).length) (((aL xl ([32]:List UInt8)).map stE).flatten))) [],bF,bF,bF,bT,.c (pB false) [(13,(.box 156 [(.ptr 5 0)])),(14,(.box 3 [(pI (((nr+1):Nat):Int))])),(5,(.box 158 [(pI kd),(.own 12),(pI (((nr+1):Nat):Int)),(pI 1),(pI 11)])),(12,(.row 78 R.length ((R.map rwE).flatten)))],bT,.c (.tup [(.p (.agg [(aB 0),bO])),(pI (((nr+1):Nat):Int)),(pI 1),(pI 11)]) [(5,(.box 158 [(pI kd),(.own 12),(pI (((nr+1):Nat):Int)),(pI 1),(pI 11)])),(12,(.row 78 R.length ((R.map rwE).flatten)))]]) (l:=[FC Tp 94 [(.ptr 5 0)] [(5,(.box 158 [(pI kd),(.own 12),(pI (((nr+1):Nat):Int)),(pI 1),(pI 11)])),(12,(.row 78 R.length ((R.map rwE).flatten)))] 15 (.tup [(.p (.agg [(aB 0),bO])),(pI (((nr+1):Nat):Int)),(pI 1),(pI 11)]) [(5,(.box 158 [(pI kd),(.own 12),(pI (((nr+1):Nat):Int)),(pI 1),(pI 11)])),(12,(.row 78 R.length ((R.map rwE).flatten)))],_,FC Tp 176 [(pI 1),(pI 11),(.ptr 13 0),(.ptr 14 0)] [(13,(.box 156 [(.ptr 5 0)])),(14,(.box 3 [(pI (((nr+1):Nat):Int))])),(5,(.box 158 [(pI kd),(.own 12),(pI 0),(pI 0),(pI 0)])),(12,(.row 78 R.length ((R.map rwE).flatten)))] 15 (pB false) [(13,(.box 156 [(.ptr 5 0)])),(14,(.box 3 [(pI (((nr+1):Nat):Int))])),(5,(.box 158 [(pI kd),(.own 12),(pI (((nr+1):Nat):Int)),(pI 1),(pI 11)])),(12,(.row 78 R.length ((R.map rwE).flatten)))],_,_,_,_,_,FC Tp 89 [(.ptr 5 0),(pI (((nr+1):Nat):Int))] [(5,(.box 158 [(pI kd),(.own 12),(pI 0),(pI 0),(pI 0)])),(12,(.row 78 R.length ((R.map rwE).flatten)))] 13 (.fn 176 [] [(.ptr 13 0),(.ptr 14 0)]) [(5,(.box 158 [(pI kd),(.own 12),(pI 0),(pI 0),(pI 0)])),(12,(.row 78 R.length ((R.map rwE).flatten))),(13,(.box 156 [(.ptr 5 0)])),(14,(.box 3 [(pI (((nr+1):Nat):Int))]))],_]) (by kernel_rfl) (gc (FMM.fc (ids:=[5,12]) (kG (k:=kd) (l:=(((nr+1):Nat):Int)) (f:=(1:Int)) (e:=(11:Int)) (n:=R.length) (cs:=((R.map rwE).flatten)) (by decide)) (by kernel_rfl)) (gc bId (gc (FMM.fc (ids:=[13,14,5,12]) (cS 1 11 (((nr+1):Nat):Int) kd 0 0 0 R) (by kernel_rfl)) (gc (dB h4) (Ay h3 (gc (fk 15 (eE xl ([32]:List UInt8) h1 h2) rfl) (gc (FMM.fcN (k:=2) rfl (ids:=[5,12]) (fA (ln:=(((nr+1):Nat):Int)) (k:=kd) (l:=(0:Int)) (f:=(0:Int)) (e:=(0:Int)) (R:=R)) (by kernel_rfl)) (gc h0 gn)))))))),by kernel_rfl,(⟨fr 149 [(1,(.ptr 0 0)),(2,(.ptr 1 0)),(3,(.ptr 2 0)),(4,(.ptr 3 0)),(5,(.ptr 4 0)),(6,(.ptr 6 0)),(7,(.ptr 7 0)),(8,(.ptr 8 0)),(9,(.ptr 9 0)),(10,(.ptr 10 0)),(24,(.ptr 5 0)),(26,(.fn 175 [] [(.ptr 11 0)]))],[some (.box 9 [(.p (aD s))]),some (.box 26 [(pI 0),(.p bO)]),some (.box 3 [(pI (((nr+1):Nat):Int))]),some (.box 3 [(pI 1)]),some (.box 27 [(pI 11)]),some (.box 158 [(pI kd),(.own 12),(pI (((nr+1):Nat):Int)),(pI 1),(pI 11)]),some (.box 156 [(.ptr 5 0)]),some (.box 3 [(pI (((nr+1):Nat):Int))]),some (.box 3 [(pI my)]),some (.box 3 [(pI (bf:Int))]),some (.box 4 [(pB dn)]),some .dead,some (.row 78 R.length ((R.map rwE).flatten))]⟩:St).t,by kernel_rfl⟩
 exact raw
theorem aZy{s:List UInt8}{R:List (List Cel)}{xl:List UInt8}(h0:inR (((nr+1):Nat):Int))(h1:xl.length<4294967281)(h2:1≤([32]:List UInt8).length)(h3:dn=false)(h4:xb=true)(h5:(((nr+1):Nat):Int)=1)(Np:(hdM (aL xl ([32]:List UInt8))).2.2.2≠0)(h7:((hdM (aL xl ([32]:List UInt8))).2.2.2)≠0)(B1:Dw=(nr+1))(Fu:H5=((hdM (aL xl ([32]:List UInt8))).2.1))(Fq:H4=(Dl (hdM (aL xl ([32]:List UInt8))).1)):bY Tp 13 12 fI (jX (bS s nr my bf dn kd R.length ((R.map rwE).flatten)) 27 28 11 12 xl xb) .ret (bX (bX (bX (bX (bS s Dw H5 bf dn H4 R.length ((R.map rwE).flatten)) 5 (some (.box 158 [(pI (Dl (hdM (aL xl ([32]:List UInt8))).1)),(.own 12),(pI (((nr+1):Nat):Int)),(pI ((hdM (aL xl ([32]:List UInt8))).2.2.1)),(pI ((hdM (aL xl ([32]:List UInt8))).2.2.2))]))) 2 (some (.box 3 [(pI (((nr+1):Nat):Int))]))) 3 (some (.box 3 [(pI ((hdM (aL xl ([32]:List UInt8))).2.2.1))]))) 4 (some (.box 27 [(pI ((hdM (aL xl ([32]:List UInt8))).2.2.2))]))).m:=by
 subst B1 Fu Fq
 have raw:bY Tp 13 12 fI (jX (bS s nr my bf dn kd R.length ((R.map rwE).flatten)) 27 28 11 12 xl xb) .ret (bX (bX (bX (bX (bS s (nr+1) ((hdM (aL xl ([32]:List UInt8))).2.1) bf dn (Dl (hdM (aL xl ([32]:List UInt8))).1) R.length ((R.map rwE).flatten)) 5 (some (.box 158 [(pI (Dl (hdM (aL xl ([32]:List UInt8))).1)),(.own 12),(pI (((nr+1):Nat):Int)),(pI ((hdM (aL xl ([32]:List UInt8))).2.2.1)),(pI ((hdM (aL xl ([32]:List UInt8))).2.2.2))]))) 2 (some (.box 3 [(pI (((nr+1):Nat):Int))]))) 3 (some (.box 3 [(pI ((hdM (aL xl ([32]:List UInt8))).2.2.1))]))) 4 (some (.box 27 [(pI ((hdM (aL xl ([32]:List UInt8))).2.2.2))]))).m:=⟨⟨fr 149 [(1,(.ptr 0 0)),(2,(.ptr 1 0)),(3,(.ptr 2 0)),(4,(.ptr 3 0)),(5,(.ptr 4 0)),(6,(.ptr 6 0)),(7,(.ptr 7 0)),(8,(.ptr 8 0)),(9,(.ptr 9 0)),(10,(.ptr 10 0)),(24,(.ptr 5 0)),(26,(.fn 175 [] [(.ptr 11 0)]))],[some (.box 9 [(.p (aD s))]),some (.box 26 [(pI 0),(.p bO)]),some (.box 3 [(pI (((nr+1):Nat):Int))]),some (.box 3 [(pI ((hdM (aL xl ([32]:List UInt8))).2.2.1))]),some (.box 27 [(pI ((hdM (aL xl ([32]:List UInt8))).2.2.2))]),some (.box 158 [(pI (Dl (hdM (aL xl ([32]:List UInt8))).1)),(.own 12),(pI (((nr+1):Nat):Int)),(pI ((hdM (aL xl ([32]:List UInt8))).2.2.1)),(pI ((hdM (aL xl ([32]:List UInt8))).2.2.2))]),some (.box 156 [(.ptr 5 0)]),some (.box 3 [(pI (((nr+1):Nat):Int))]),some (.box 3 [(pI ((hdM (aL xl ([32]:List UInt8))).2.1))]),some (.box 3 [(pI (bf:Int))]),some (.box 4 [(pB dn)]),some .dead,some (.row 78 R.length ((R.map rwE).flatten))]⟩,⟨[],[12],[],[]⟩,aA.fin (g:=⟨(rng [(0,1),(11,13),(25,1),(27,109),(142,1)]),[],[],[]⟩) (o:=[.c (.fn 176 [] [(.ptr 13 0),(.ptr 14 0)]) [(5,(.box 158 [(pI kd),(.own 12),(pI 0),(pI 0),(pI 0)])),(12,(.row 78 R.length ((R.map rwE).flatten))),(13,(.box 156 [(.ptr 5 0)])),(14,(.box 3 [(pI (((nr+1):Nat):Int))]))],.c (.p (.sl ((aL xl ([32]:List UInt8)).length) (((aL xl ([32]:List UInt8)).map stE).flatten))) [],bF,bF,bF,bF,bT,.c (pI ((hdM (aL xl ([32]:List UInt8))).2.1)) [(5,(.box 158 [(pI (Dl (hdM (aL xl ([32]:List UInt8))).1)),(.own 12),(pI (((nr+1):Nat):Int)),(pI ((hdM (aL xl ([32]:List UInt8))).2.2.1)),(pI ((hdM (aL xl ([32]:List UInt8))).2.2.2))])),(12,(.row 78 R.length ((R.map rwE).flatten))),(13,(.box 156 [(.ptr 5 0)])),(14,(.box 3 [(pI (((nr+1):Nat):Int))]))],bT,.c (.tup [(.p (.agg [(aB 0),bO])),(pI (((nr+1):Nat):Int)),(pI ((hdM (aL xl ([32]:List UInt8))).2.2.1)),(pI ((hdM (aL xl ([32]:List UInt8))).2.2.2))]) [(5,(.box 158 [(pI (Dl (hdM (aL xl ([32]:List UInt8))).1)),(.own 12),(pI (((nr+1):Nat):Int)),(pI ((hdM (aL xl ([32]:List UInt8))).2.2.1)),(pI ((hdM (aL xl ([32]:List UInt8))).2.2.2))])),(12,(.row 78 R.length ((R.map rwE).flatten)))]]) (l:=[FC Tp 94 [(.ptr 5 0)] [(5,(.box 158 [(pI (Dl (hdM (aL xl ([32]:List UInt8))).1)),(.own 12),(pI (((nr+1):Nat):Int)),(pI ((hdM (aL xl ([32]:List UInt8))).2.2.1)),(pI ((hdM (aL xl ([32]:List UInt8))).2.2.2))])),(12,(.row 78 R.length ((R.map rwE).flatten)))] 15 (.tup [(.p (.agg [(aB 0),bO])),(pI (((nr+1):Nat):Int)),(pI ((hdM (aL xl ([32]:List UInt8))).2.2.1)),(pI ((hdM (aL xl ([32]:List UInt8))).2.2.2))]) [(5,(.box 158 [(pI (Dl (hdM (aL xl ([32]:List UInt8))).1)),(.own 12),(pI (((nr+1):Nat):Int)),(pI ((hdM (aL xl ([32]:List UInt8))).2.2.1)),(pI ((hdM (aL xl ([32]:List UInt8))).2.2.2))])),(12,(.row 78 R.length ((R.map rwE).flatten)))],_,FC Tp 90 [(.ptr 5 0),(.p (.sl ((aL xl ([32]:List UInt8)).length) (((aL xl ([32]:List UInt8)).map stE).flatten))),(.fn 176 [] [(.ptr 13 0),(.ptr 14 0)])] [(5,(.box 158 [(pI kd),(.own 12),(pI 0),(pI 0),(pI 0)])),(13,(.box 156 [(.ptr 5 0)])),(14,(.box 3 [(pI (((nr+1):Nat):Int))])),(12,(.row 78 R.length ((R.map rwE).flatten)))] 15 (pI ((hdM (aL xl ([32]:List UInt8))).2.1)) [(5,(.box 158 [(pI (Dl (hdM (aL xl ([32]:List UInt8))).1)),(.own 12),(pI (((nr+1):Nat):Int)),(pI ((hdM (aL xl ([32]:List UInt8))).2.2.1)),(pI ((hdM (aL xl ([32]:List UInt8))).2.2.2))])),(12,(.row 78 R.length ((R.map rwE).flatten))),(13,(.box 156 [(.ptr 5 0)])),(14,(.box 3 [(pI (((nr+1):Nat):Int))]))],_,_,_,_,_,_,FC Tp 89 [(.ptr 5 0),(pI (((nr+1):Nat):Int))] [(5,(.box 158 [(pI kd),(.own 12),(pI 0),(pI 0),(pI 0)])),(12,(.row 78 R.length ((R.map rwE).flatten)))] 13 (.fn 176 [] [(.ptr 13 0),(.ptr 14 0)]) [(5,(.box 158 [(pI kd),(.own 12),(pI 0),(pI 0),(pI 0)])),(12,(.row 78 R.length ((R.map rwE).flatten))),(13,(.box 156 [(.ptr 5 0)])),(14,(.box 3 [(pI (((nr+1):Nat):Int))]))],_]) (by kernel_rfl) (gc (FMM.fc (ids:=[5,12]) (kG (k:=(Dl (hdM (aL xl ([32]:List UInt8))).1)) (l:=(((nr+1):Nat):Int)) (f:=((hdM (aL xl ([32]:List UInt8))).2.2.1)) (e:=((hdM (aL xl ([32]:List UInt8))).2.2.2)) (n:=R.length) (cs:=((R.map rwE).flatten)) h7) (by kernel_rfl)) (gc (fJ h7) (gc (FMM.fc (ids:=[5,12,13,14]) (bYi (aL xl ([32]:List UInt8)) (((nr+1):Nat):Int) kd R Np) (by kernel_rfl)) (gc (dC h5) (gc (aU h4) (Ay h3 (gc (fk 15 (eE xl ([32]:List UInt8) h1 h2) rfl) (gc (FMM.fcN (k:=2) rfl (ids:=[5,12]) (fA (ln:=(((nr+1):Nat):Int)) (k:=kd) (l:=(0:Int)) (f:=(0:Int)) (e:=(0:Int)) (R:=R)) (by kernel_rfl)) (gc h0 gn))))))))),by kernel_rfl,(⟨fr 149 [(1,(.ptr 0 0)),(2,(.ptr 1 0)),(3,(.ptr 2 0)),(4,(.ptr 3 0)),(5,(.ptr 4 0)),(6,(.ptr 6 0)),(7,(.ptr 7 0)),(8,(.ptr 8 0)),(9,(.ptr 9 0)),(10,(.ptr 10 0)),(24,(.ptr 5 0)),(26,(.fn 175 [] [(.ptr 11 0)]))],[some (.box 9 [(.p (aD s))]),some (.box 26 [(pI 0),(.p bO)]),some (.box 3 [(pI (((nr+1):Nat):Int))]),some (.box 3 [(pI ((hdM (aL xl ([32]:List UInt8))).2.2.1))]),some (.box 27 [(pI ((hdM (aL xl ([32]:List UInt8))).2.2.2))]),some (.box 158 [(pI (Dl (hdM (aL xl ([32]:List UInt8))).1)),(.own 12),(pI (((nr+1):Nat):Int)),(pI ((hdM (aL xl ([32]:List UInt8))).2.2.1)),(pI ((hdM (aL xl ([32]:List UInt8))).2.2.2))]),some (.box 156 [(.ptr 5 0)]),some (.box 3 [(pI (((nr+1):Nat):Int))]),some (.box 3 [(pI ((hdM (aL xl ([32]:List UInt8))).2.1))]),some (.box 3 [(pI (bf:Int))]),some (.box 4 [(pB dn)]),some .dead,some (.row 78 R.length ((R.map rwE).flatten))]⟩:St).t,by kernel_rfl⟩
 exact raw
theorem aZz{s:List UInt8}{R:List (List Cel)}{xl:List UInt8}(h0:inR (((nr+1):Nat):Int))(h1:xl.length<4294967281)(h2:1≤([32]:List UInt8).length)(h3:dn=false)(h4:xb=true)(h5:(((nr+1):Nat):Int)=1)(Np:(hdM (aL xl ([32]:List UInt8))).2.2.2=0)(h7:inR (((xl.length+1):Nat):Int))(h8:inR (((bf+(xl.length+1)):Nat):Int))(B1:Dw=(nr+1))(Fu:H5=((hdM (aL xl ([32]:List UInt8))).2.1))(Fy:Gy=(bf+(xl.length+1)))(Fq:H4=(Dl (hdM (aL xl ([32]:List UInt8))).1)):bY Tp 13 12 fI (jX (bS s nr my bf dn kd R.length ((R.map rwE).flatten)) 27 28 11 12 xl xb) .normal (bS s Dw H5 Gy dn H4 R.length ((R.map rwE).flatten)).m:=by
 subst B1 Fu Fy Fq
 have raw:bY Tp 13 12 fI (jX (bS s nr my bf dn kd R.length ((R.map rwE).flatten)) 27 28 11 12 xl xb) .normal (bS s (nr+1) ((hdM (aL xl ([32]:List UInt8))).2.1) (bf+(xl.length+1)) dn (Dl (hdM (aL xl ([32]:List UInt8))).1) R.length ((R.map rwE).flatten)).m:=⟨⟨fr 149 [(1,(.ptr 0 0)),(2,(.ptr 1 0)),(3,(.ptr 2 0)),(4,(.ptr 3 0)),(5,(.ptr 4 0)),(6,(.ptr 6 0)),(7,(.ptr 7 0)),(8,(.ptr 8 0)),(9,(.ptr 9 0)),(10,(.ptr 10 0)),(24,(.ptr 5 0)),(26,(.fn 175 [] [(.ptr 11 0)]))],[some (.box 9 [(.p (aD s))]),some (.box 26 [(pI 0),(.p bO)]),some (.box 3 [(pI 0)]),some (.box 3 [(pI 0)]),some (.box 27 [(pI 0)]),some (.box 158 [(pI (Dl (hdM (aL xl ([32]:List UInt8))).1)),(.own 12),(pI 0),(pI 0),(pI 0)]),some (.box 156 [(.ptr 5 0)]),some (.box 3 [(pI (((nr+1):Nat):Int))]),some (.box 3 [(pI ((hdM (aL xl ([32]:List UInt8))).2.1))]),some (.box 3 [(pI (((bf+(xl.length+1)):Nat):Int))]),some (.box 4 [(pB dn)]),some .dead,some (.row 78 R.length ((R.map rwE).flatten))]⟩,⟨[],[12],[],[]⟩,aA.fin (g:=⟨(rng [(0,1),(11,13),(25,1),(27,109),(142,1)]),[],[],[]⟩) (o:=[.c (.fn 176 [] [(.ptr 13 0),(.ptr 14 0)]) [(5,(.box 158 [(pI kd),(.own 12),(pI 0),(pI 0),(pI 0)])),(12,(.row 78 R.length ((R.map rwE).flatten))),(13,(.box 156 [(.ptr 5 0)])),(14,(.box 3 [(pI (((nr+1):Nat):Int))]))],.c (.p (.sl ((aL xl ([32]:List UInt8)).length) (((aL xl ([32]:List UInt8)).map stE).flatten))) [],bF,bF,bF,bF,bT,.c (pI ((hdM (aL xl ([32]:List UInt8))).2.1)) [(5,(.box 158 [(pI (Dl (hdM (aL xl ([32]:List UInt8))).1)),(.own 12),(pI 0),(pI 0),(pI 0)])),(12,(.row 78 R.length ((R.map rwE).flatten))),(13,(.box 156 [(.ptr 5 0)])),(14,(.box 3 [(pI (((nr+1):Nat):Int))]))],bF]) (l:=[_,_,_,FC Tp 90 [(.ptr 5 0),(.p (.sl ((aL xl ([32]:List UInt8)).length) (((aL xl ([32]:List UInt8)).map stE).flatten))),(.fn 176 [] [(.ptr 13 0),(.ptr 14 0)])] [(5,(.box 158 [(pI kd),(.own 12),(pI 0),(pI 0),(pI 0)])),(13,(.box 156 [(.ptr 5 0)])),(14,(.box 3 [(pI (((nr+1):Nat):Int))])),(12,(.row 78 R.length ((R.map rwE).flatten)))] 15 (pI ((hdM (aL xl ([32]:List UInt8))).2.1)) [(5,(.box 158 [(pI (Dl (hdM (aL xl ([32]:List UInt8))).1)),(.own 12),(pI 0),(pI 0),(pI 0)])),(12,(.row 78 R.length ((R.map rwE).flatten))),(13,(.box 156 [(.ptr 5 0)])),(14,(.box 3 [(pI (((nr+1):Nat):Int))]))],_,_,_,_,_,_,FC Tp 89 [(.ptr 5 0),(pI (((nr+1):Nat):Int))] [(5,(.box 158 [(pI kd),(.own 12),(pI 0),(pI 0),(pI 0)])),(12,(.row 78 R.length ((R.map rwE).flatten)))] 13 (.fn 176 [] [(.ptr 13 0),(.ptr 14 0)]) [(5,(.box 158 [(pI kd),(.own 12),(pI 0),(pI 0),(pI 0)])),(12,(.row 78 R.length ((R.map rwE).flatten))),(13,(.box 156 [(.ptr 5 0)])),(14,(.box 3 [(pI (((nr+1):Nat):Int))]))],_]) (by kernel_rfl) (gc h8 (gc h7 (gc aSr (gc (FMM.fc (ids:=[5,12,13,14]) (bYj (aL xl ([32]:List UInt8)) (((nr+1):Nat):Int) kd R Np) (by kernel_rfl)) (gc (dC h5) (gc (aU h4) (Ay h3 (gc (fk 15 (eE xl ([32]:List UInt8) h1 h2) rfl) (gc (FMM.fcN (k:=2) rfl (ids:=[5,12]) (fA (ln:=(((nr+1):Nat):Int)) (k:=kd) (l:=(0:Int)) (f:=(0:Int)) (e:=(0:Int)) (R:=R)) (by kernel_rfl)) (gc h0 gn)))))))))),by kernel_rfl,(⟨fr 149 [(1,(.ptr 0 0)),(2,(.ptr 1 0)),(3,(.ptr 2 0)),(4,(.ptr 3 0)),(5,(.ptr 4 0)),(6,(.ptr 6 0)),(7,(.ptr 7 0)),(8,(.ptr 8 0)),(9,(.ptr 9 0)),(10,(.ptr 10 0)),(24,(.ptr 5 0)),(26,(.fn 175 [] [(.ptr 11 0)]))],[some (.box 9 [(.p (aD s))]),some (.box 26 [(pI 0),(.p bO)]),some (.box 3 [(pI 0)]),some (.box 3 [(pI 0)]),some (.box 27 [(pI 0)]),some (.box 158 [(pI (Dl (hdM (aL xl ([32]:List UInt8))).1)),(.own 12),(pI 0),(pI 0),(pI 0)]),some (.box 156 [(.ptr 5 0)]),some (.box 3 [(pI (((nr+1):Nat):Int))]),some (.box 3 [(pI ((hdM (aL xl ([32]:List UInt8))).2.1))]),some (.box 3 [(pI (((bf+(xl.length+1)):Nat):Int))]),some (.box 4 [(pB dn)]),some .dead,some (.row 78 R.length ((R.map rwE).flatten))]⟩:St).t,by kernel_rfl⟩
 exact raw
theorem bAa{s:List UInt8}{R:List (List Cel)}{xl:List UInt8}{Ae Bd:List Cel}{R':List (List Cel)}(h0:inR (((nr+1):Nat):Int))(h1:xl.length<4294967281)(h2:1≤([32]:List UInt8).length)(h3:dn=false)(h4:xb=true)(h5:(((nr+1):Nat):Int)≠1)(h6:inR (my+1))(h7:(((nr+1):Nat):Int)≤(my+1))(Hh:∀ u∈(aL xl ([32]:List UInt8)),u.length≤90000)(Hi:rdL (aJ kd) (aL xl ([32]:List UInt8)) 0 = .inl Ae)(Ez:(aL xl ([32]:List UInt8)).length=(aJ kd).length)(Cm:(0:Int)<(R.length:Int))(Ba:inR ((R.length:Int)-1))(Cn:0≤((R.length:Int)-1)∧((R.length:Int)-1)<(R.length:Int))(D3:R[((R.length:Int)-1).toNat]? = some (Bd))(Eu:aO kd≤(Bd.length:Int))(Gs:aO kd≤(Ae.length:Int))(Ff:bU kd Bd Ae=(-1:Int))(H3:[(PV.sl Ae.length ((Ae.map cE).flatten))].length=1*1∧R.length+1≤1000000)(Ka:inR (((xl.length+1):Nat):Int))(Kb:inR (((bf+(xl.length+1)):Nat):Int))(B1:Dw=(nr+1))(Fy:Gy=(bf+(xl.length+1)))(D5:R'.length=(R.length+1))(D6:(R'.map rwE).flatten=(((R.map rwE).flatten)++[(PV.sl Ae.length ((Ae.map cE).flatten))])):bY Tp 13 12 fI (jX (bS s nr my bf dn kd R.length ((R.map rwE).flatten)) 27 28 11 12 xl xb) .normal (bS s Dw my Gy dn kd R'.length ((R'.map rwE).flatten)).m:=by
 subst B1 Fy
 have raw:bY Tp 13 12 fI (jX (bS s nr my bf dn kd R.length ((R.map rwE).flatten)) 27 28 11 12 xl xb) .normal (bS s (nr+1) my (bf+(xl.length+1)) dn kd (R.length+1) (((R.map rwE).flatten)++[(PV.sl Ae.length ((Ae.map cE).flatten))])).m:=⟨⟨fr 149 [(1,(.ptr 0 0)),(2,(.ptr 1 0)),(3,(.ptr 2 0)),(4,(.ptr 3 0)),(5,(.ptr 4 0)),(6,(.ptr 6 0)),(7,(.ptr 7 0)),(8,(.ptr 8 0)),(9,(.ptr 9 0)),(10,(.ptr 10 0)),(24,(.ptr 5 0)),(26,(.fn 175 [] [(.ptr 11 0)]))],[some (.box 9 [(.p (aD s))]),some (.box 26 [(pI 0),(.p bO)]),some (.box 3 [(pI 0)]),some (.box 3 [(pI 0)]),some (.box 27 [(pI 0)]),some (.box 158 [(pI kd),(.own 13),(pI 0),(pI 0),(pI 0)]),some (.box 156 [(.ptr 5 0)]),some (.box 3 [(pI (((nr+1):Nat):Int))]),some (.box 3 [(pI my)]),some (.box 3 [(pI (((bf+(xl.length+1)):Nat):Int))]),some (.box 4 [(pB dn)]),some .dead,some .dead,some (.row 78 (R.length+1) (((R.map rwE).flatten)++[(PV.sl Ae.length ((Ae.map cE).flatten))]))]⟩,⟨[],[13],[],[]⟩,aA.fin (g:=⟨(rng [(0,1),(11,13),(25,1),(27,109),(142,1)]),[17],[],[]⟩) (o:=[.c (.fn 176 [] [(.ptr 13 0),(.ptr 14 0)]) [(5,(.box 158 [(pI kd),(.own 12),(pI 0),(pI 0),(pI 0)])),(12,(.row 78 R.length ((R.map rwE).flatten))),(13,(.box 156 [(.ptr 5 0)])),(14,(.box 3 [(pI (((nr+1):Nat):Int))]))],.c (.p (.sl ((aL xl ([32]:List UInt8)).length) (((aL xl ([32]:List UInt8)).map stE).flatten))) [],bF,bF,bF,bF,bF,bT,.c (.tup [(.own 15),(pB true)]) [(5,(.box 158 [(pI kd),(.own 12),(pI 0),(pI 0),(pI 0)])),(12,(.row 78 R.length ((R.map rwE).flatten))),(13,(.box 156 [(.ptr 5 0)])),(14,(.box 3 [(pI (((nr+1):Nat):Int))])),(15,(.row 80 Ae.length ((Ae.map cE).flatten)))],bT,bT,.x (.sl Bd.length ((Bd.map cE).flatten)),.c (pI (-1)) [],.c (pB true) [(13,(.box 156 [(.ptr 5 0)])),(14,(.box 3 [(pI (((nr+1):Nat):Int))])),(5,(.box 158 [(pI kd),(.own 12),(pI 0),(pI 0),(pI 0)])),(12,(.row 78 R.length ((R.map rwE).flatten)))],bF]) (l:=[_,_,_,_,FC Tp 176 [(pI 1),(pI 0),(.ptr 13 0),(.ptr 14 0)] [(13,(.box 156 [(.ptr 5 0)])),(14,(.box 3 [(pI (((nr+1):Nat):Int))])),(5,(.box 158 [(pI kd),(.own 12),(pI 0),(pI 0),(pI 0)])),(12,(.row 78 R.length ((R.map rwE).flatten)))] 25 (pB true) [(13,(.box 156 [(.ptr 5 0)])),(14,(.box 3 [(pI (((nr+1):Nat):Int))])),(5,(.box 158 [(pI kd),(.own 12),(pI 0),(pI 0),(pI 0)])),(12,(.row 78 R.length ((R.map rwE).flatten)))],0≤(0:Int)∧(0:Int)<3,inR 0,FC Tp 92 [(pI kd),(.p (.sl Bd.length ((Bd.map cE).flatten))),(.own 15)] [(15,(.row 80 Ae.length ((Ae.map cE).flatten)))] 17 (pI (-1)) [],((R.map rwE).flatten)[(((R.length:Int)-1).toNat*1)]? = some (.sl Bd.length ((Bd.map cE).flatten)),_,_,_,true=true,FC Tp 91 [(.ptr 5 0),(.p (.sl ((aL xl ([32]:List UInt8)).length) (((aL xl ([32]:List UInt8)).map stE).flatten))),(.fn 176 [] [(.ptr 13 0),(.ptr 14 0)])] [(5,(.box 158 [(pI kd),(.own 12),(pI 0),(pI 0),(pI 0)])),(13,(.box 156 [(.ptr 5 0)])),(14,(.box 3 [(pI (((nr+1):Nat):Int))])),(12,(.row 78 R.length ((R.map rwE).flatten)))] 15 (.tup [(.own 15),(pB true)]) [(5,(.box 158 [(pI kd),(.own 12),(pI 0),(pI 0),(pI 0)])),(12,(.row 78 R.length ((R.map rwE).flatten))),(13,(.box 156 [(.ptr 5 0)])),(14,(.box 3 [(pI (((nr+1):Nat):Int))])),(15,(.row 80 Ae.length ((Ae.map cE).flatten)))],_,_,_,_,_,_,_,_,FC Tp 89 [(.ptr 5 0),(pI (((nr+1):Nat):Int))] [(5,(.box 158 [(pI kd),(.own 12),(pI 0),(pI 0),(pI 0)])),(12,(.row 78 R.length ((R.map rwE).flatten)))] 13 (.fn 176 [] [(.ptr 13 0),(.ptr 14 0)]) [(5,(.box 158 [(pI kd),(.own 12),(pI 0),(pI 0),(pI 0)])),(12,(.row 78 R.length ((R.map rwE).flatten))),(13,(.box 156 [(.ptr 5 0)])),(14,(.box 3 [(pI (((nr+1):Nat):Int))]))],_]) (by kernel_rfl) (gc Kb (gc Ka (gc aSr (gc H3 (gc (FMM.fc (ids:=[13,14,5,12]) (cS 1 0 (((nr+1):Nat):Int) kd 0 0 0 R) (by kernel_rfl)) (gc (by first | decide | simp) (gc (by show _∧_;omega) (gc (fv (aPr kd Bd Ae Eu Gs Ff)) (gc (aM (E:=rwE) (i:=((R.length:Int)-1).toNat) (f:=0) (k:=1) (fun _=>rfl) D3 rfl) (gc Cn (gc Ba (gc (cP Cm) (gc rfl (gc (FMM.fcN (k:=1) rfl (ids:=[5,12,13,14]) (lD (((nr+1):Nat):Int) R 0 0 Hh Hi Ez) (by kernel_rfl)) (gc (mB h7) (gc h6 (gc (bP h5) (gc (aU h4) (Ay h3 (gc (fk 15 (eE xl ([32]:List UInt8) h1 h2) rfl) (gc (FMM.fcN (k:=2) rfl (ids:=[5,12]) (fA (ln:=(((nr+1):Nat):Int)) (k:=kd) (l:=(0:Int)) (f:=(0:Int)) (e:=(0:Int)) (R:=R)) (by kernel_rfl)) (gc h0 gn)))))))))))))))))))))),by kernel_rfl,(⟨fr 149 [(1,(.ptr 0 0)),(2,(.ptr 1 0)),(3,(.ptr 2 0)),(4,(.ptr 3 0)),(5,(.ptr 4 0)),(6,(.ptr 6 0)),(7,(.ptr 7 0)),(8,(.ptr 8 0)),(9,(.ptr 9 0)),(10,(.ptr 10 0)),(24,(.ptr 5 0)),(26,(.fn 175 [] [(.ptr 11 0)]))],[some (.box 9 [(.p (aD s))]),some (.box 26 [(pI 0),(.p bO)]),some (.box 3 [(pI 0)]),some (.box 3 [(pI 0)]),some (.box 27 [(pI 0)]),some (.box 158 [(pI kd),(.own 13),(pI 0),(pI 0),(pI 0)]),some (.box 156 [(.ptr 5 0)]),some (.box 3 [(pI (((nr+1):Nat):Int))]),some (.box 3 [(pI my)]),some (.box 3 [(pI (((bf+(xl.length+1)):Nat):Int))]),some (.box 4 [(pB dn)]),some .dead,some .dead,some (.row 78 (R.length+1) (((R.map rwE).flatten)++[(PV.sl Ae.length ((Ae.map cE).flatten))]))]⟩:St).t,by kernel_rfl⟩
 exact raw.cast (by rw [D5,D6])
theorem bAb{s:List UInt8}{R:List (List Cel)}{xl:List UInt8}{Ae Bd:List Cel}{R':List (List Cel)}(h0:inR (((nr+1):Nat):Int))(h1:xl.length<4294967281)(h2:1≤([32]:List UInt8).length)(h3:dn=false)(h4:xb=true)(h5:(((nr+1):Nat):Int)≠1)(h6:inR (my+1))(h7:(((nr+1):Nat):Int)≤(my+1))(Hh:∀ u∈(aL xl ([32]:List UInt8)),u.length≤90000)(Hi:rdL (aJ kd) (aL xl ([32]:List UInt8)) 0 = .inl Ae)(Ez:(aL xl ([32]:List UInt8)).length=(aJ kd).length)(Cm:(0:Int)<(R.length:Int))(Ba:inR ((R.length:Int)-1))(Cn:0≤((R.length:Int)-1)∧((R.length:Int)-1)<(R.length:Int))(D3:R[((R.length:Int)-1).toNat]? = some (Bd))(Eu:aO kd≤(Bd.length:Int))(Gs:aO kd≤(Ae.length:Int))(Ff:bU kd Bd Ae=0)(H3:[(PV.sl Ae.length ((Ae.map cE).flatten))].length=1*1∧R.length+1≤1000000)(B1:Dw=(nr+1))(D5:R'.length=(R.length+1))(D6:(R'.map rwE).flatten=(((R.map rwE).flatten)++[(PV.sl Ae.length ((Ae.map cE).flatten))])):bY Tp 13 12 fI (jX (bS s nr my bf dn kd R.length ((R.map rwE).flatten)) 27 28 11 12 xl xb) .ret (bX (bX (bX (bX (bS s Dw my bf dn kd R'.length ((R'.map rwE).flatten)) 5 (some (.box 158 [(pI kd),(.own 12),(pI (((nr+1):Nat):Int)),(pI 1),(pI 5)]))) 2 (some (.box 3 [(pI (((nr+1):Nat):Int))]))) 3 (some (.box 3 [(pI 1)]))) 4 (some (.box 27 [(pI 5)]))).m:=by
 subst B1
 have raw:bY Tp 13 12 fI (jX (bS s nr my bf dn kd R.length ((R.map rwE).flatten)) 27 28 11 12 xl xb) .ret (bX (bX (bX (bX (bS s (nr+1) my bf dn kd (R.length+1) (((R.map rwE).flatten)++[(PV.sl Ae.length ((Ae.map cE).flatten))])) 5 (some (.box 158 [(pI kd),(.own 12),(pI (((nr+1):Nat):Int)),(pI 1),(pI 5)]))) 2 (some (.box 3 [(pI (((nr+1):Nat):Int))]))) 3 (some (.box 3 [(pI 1)]))) 4 (some (.box 27 [(pI 5)]))).m:=⟨⟨fr 149 [(1,(.ptr 0 0)),(2,(.ptr 1 0)),(3,(.ptr 2 0)),(4,(.ptr 3 0)),(5,(.ptr 4 0)),(6,(.ptr 6 0)),(7,(.ptr 7 0)),(8,(.ptr 8 0)),(9,(.ptr 9 0)),(10,(.ptr 10 0)),(24,(.ptr 5 0)),(26,(.fn 175 [] [(.ptr 11 0)]))],[some (.box 9 [(.p (aD s))]),some (.box 26 [(pI 0),(.p bO)]),some (.box 3 [(pI (((nr+1):Nat):Int))]),some (.box 3 [(pI 1)]),some (.box 27 [(pI 5)]),some (.box 158 [(pI kd),(.own 13),(pI (((nr+1):Nat):Int)),(pI 1),(pI 5)]),some (.box 156 [(.ptr 5 0)]),some (.box 3 [(pI (((nr+1):Nat):Int))]),some (.box 3 [(pI my)]),some (.box 3 [(pI (bf:Int))]),some (.box 4 [(pB dn)]),some .dead,some .dead,some (.row 78 (R.length+1) (((R.map rwE).flatten)++[(PV.sl Ae.length ((Ae.map cE).flatten))]))]⟩,⟨[],[13],[],[]⟩,aA.fin (g:=⟨(rng [(0,1),(11,13),(25,1),(27,109),(142,1)]),[17],[],[]⟩) (o:=[.c (.fn 176 [] [(.ptr 13 0),(.ptr 14 0)]) [(5,(.box 158 [(pI kd),(.own 12),(pI 0),(pI 0),(pI 0)])),(12,(.row 78 R.length ((R.map rwE).flatten))),(13,(.box 156 [(.ptr 5 0)])),(14,(.box 3 [(pI (((nr+1):Nat):Int))]))],.c (.p (.sl ((aL xl ([32]:List UInt8)).length) (((aL xl ([32]:List UInt8)).map stE).flatten))) [],bF,bF,bF,bF,bF,bT,.c (.tup [(.own 15),(pB true)]) [(5,(.box 158 [(pI kd),(.own 12),(pI 0),(pI 0),(pI 0)])),(12,(.row 78 R.length ((R.map rwE).flatten))),(13,(.box 156 [(.ptr 5 0)])),(14,(.box 3 [(pI (((nr+1):Nat):Int))])),(15,(.row 80 Ae.length ((Ae.map cE).flatten)))],bT,bT,.x (.sl Bd.length ((Bd.map cE).flatten)),.c (pI 0) [],.c (pB false) [(13,(.box 156 [(.ptr 5 0)])),(14,(.box 3 [(pI (((nr+1):Nat):Int))])),(5,(.box 158 [(pI kd),(.own 12),(pI (((nr+1):Nat):Int)),(pI 1),(pI 5)])),(12,(.row 78 R.length ((R.map rwE).flatten)))],bT,.c (.tup [(.p (.agg [(aB 0),bO])),(pI (((nr+1):Nat):Int)),(pI 1),(pI 5)]) [(5,(.box 158 [(pI kd),(.own 17),(pI (((nr+1):Nat):Int)),(pI 1),(pI 5)])),(17,(.row 78 (R.length+1) (((R.map rwE).flatten)++[(PV.sl Ae.length ((Ae.map cE).flatten))])))]]) (l:=[FC Tp 94 [(.ptr 5 0)] [(5,(.box 158 [(pI kd),(.own 17),(pI (((nr+1):Nat):Int)),(pI 1),(pI 5)])),(17,(.row 78 (R.length+1) (((R.map rwE).flatten)++[(PV.sl Ae.length ((Ae.map cE).flatten))])))] 18 (.tup [(.p (.agg [(aB 0),bO])),(pI (((nr+1):Nat):Int)),(pI 1),(pI 5)]) [(5,(.box 158 [(pI kd),(.own 17),(pI (((nr+1):Nat):Int)),(pI 1),(pI 5)])),(17,(.row 78 (R.length+1) (((R.map rwE).flatten)++[(PV.sl Ae.length ((Ae.map cE).flatten))])))],((5:Int) != 0)=true,_,FC Tp 176 [(pI 1),(pI 5),(.ptr 13 0),(.ptr 14 0)] [(13,(.box 156 [(.ptr 5 0)])),(14,(.box 3 [(pI (((nr+1):Nat):Int))])),(5,(.box 158 [(pI kd),(.own 12),(pI 0),(pI 0),(pI 0)])),(12,(.row 78 R.length ((R.map rwE).flatten)))] 25 (pB false) [(13,(.box 156 [(.ptr 5 0)])),(14,(.box 3 [(pI (((nr+1):Nat):Int))])),(5,(.box 158 [(pI kd),(.own 12),(pI (((nr+1):Nat):Int)),(pI 1),(pI 5)])),(12,(.row 78 R.length ((R.map rwE).flatten)))],0≤(1:Int)∧(1:Int)<3,inR 1,FC Tp 92 [(pI kd),(.p (.sl Bd.length ((Bd.map cE).flatten))),(.own 15)] [(15,(.row 80 Ae.length ((Ae.map cE).flatten)))] 17 (pI 0) [],((R.map rwE).flatten)[(((R.length:Int)-1).toNat*1)]? = some (.sl Bd.length ((Bd.map cE).flatten)),_,_,_,true=true,FC Tp 91 [(.ptr 5 0),(.p (.sl ((aL xl ([32]:List UInt8)).length) (((aL xl ([32]:List UInt8)).map stE).flatten))),(.fn 176 [] [(.ptr 13 0),(.ptr 14 0)])] [(5,(.box 158 [(pI kd),(.own 12),(pI 0),(pI 0),(pI 0)])),(13,(.box 156 [(.ptr 5 0)])),(14,(.box 3 [(pI (((nr+1):Nat):Int))])),(12,(.row 78 R.length ((R.map rwE).flatten)))] 15 (.tup [(.own 15),(pB true)]) [(5,(.box 158 [(pI kd),(.own 12),(pI 0),(pI 0),(pI 0)])),(12,(.row 78 R.length ((R.map rwE).flatten))),(13,(.box 156 [(.ptr 5 0)])),(14,(.box 3 [(pI (((nr+1):Nat):Int))])),(15,(.row 80 Ae.length ((Ae.map cE).flatten)))],_,_,_,_,_,_,_,_,FC Tp 89 [(.ptr 5 0),(pI (((nr+1):Nat):Int))] [(5,(.box 158 [(pI kd),(.own 12),(pI 0),(pI 0),(pI 0)])),(12,(.row 78 R.length ((R.map rwE).flatten)))] 13 (.fn 176 [] [(.ptr 13 0),(.ptr 14 0)]) [(5,(.box 158 [(pI kd),(.own 12),(pI 0),(pI 0),(pI 0)])),(12,(.row 78 R.length ((R.map rwE).flatten))),(13,(.box 156 [(.ptr 5 0)])),(14,(.box 3 [(pI (((nr+1):Nat):Int))]))],_]) (by kernel_rfl) (gc (FMM.fc (ids:=[5,17]) (kG (k:=kd) (l:=(((nr+1):Nat):Int)) (f:=(1:Int)) (e:=(5:Int)) (n:=(R.length+1)) (cs:=(((R.map rwE).flatten)++[(PV.sl Ae.length ((Ae.map cE).flatten))])) (by decide)) (by kernel_rfl)) (gc (by first | decide | simp) (gc H3 (gc (FMM.fc (ids:=[13,14,5,12]) (cS 1 5 (((nr+1):Nat):Int) kd 0 0 0 R) (by kernel_rfl)) (gc (by first | decide | simp) (gc (by show _∧_;omega) (gc (fv (aPr kd Bd Ae Eu Gs Ff)) (gc (aM (E:=rwE) (i:=((R.length:Int)-1).toNat) (f:=0) (k:=1) (fun _=>rfl) D3 rfl) (gc Cn (gc Ba (gc (cP Cm) (gc rfl (gc (FMM.fcN (k:=1) rfl (ids:=[5,12,13,14]) (lD (((nr+1):Nat):Int) R 0 0 Hh Hi Ez) (by kernel_rfl)) (gc (mB h7) (gc h6 (gc (bP h5) (gc (aU h4) (Ay h3 (gc (fk 15 (eE xl ([32]:List UInt8) h1 h2) rfl) (gc (FMM.fcN (k:=2) rfl (ids:=[5,12]) (fA (ln:=(((nr+1):Nat):Int)) (k:=kd) (l:=(0:Int)) (f:=(0:Int)) (e:=(0:Int)) (R:=R)) (by kernel_rfl)) (gc h0 gn))))))))))))))))))))),by kernel_rfl,(⟨fr 149 [(1,(.ptr 0 0)),(2,(.ptr 1 0)),(3,(.ptr 2 0)),(4,(.ptr 3 0)),(5,(.ptr 4 0)),(6,(.ptr 6 0)),(7,(.ptr 7 0)),(8,(.ptr 8 0)),(9,(.ptr 9 0)),(10,(.ptr 10 0)),(24,(.ptr 5 0)),(26,(.fn 175 [] [(.ptr 11 0)]))],[some (.box 9 [(.p (aD s))]),some (.box 26 [(pI 0),(.p bO)]),some (.box 3 [(pI (((nr+1):Nat):Int))]),some (.box 3 [(pI 1)]),some (.box 27 [(pI 5)]),some (.box 158 [(pI kd),(.own 13),(pI (((nr+1):Nat):Int)),(pI 1),(pI 5)]),some (.box 156 [(.ptr 5 0)]),some (.box 3 [(pI (((nr+1):Nat):Int))]),some (.box 3 [(pI my)]),some (.box 3 [(pI (bf:Int))]),some (.box 4 [(pB dn)]),some .dead,some .dead,some (.row 78 (R.length+1) (((R.map rwE).flatten)++[(PV.sl Ae.length ((Ae.map cE).flatten))]))]⟩:St).t,by kernel_rfl⟩
 exact raw.cast (by rw [D5,D6])
theorem bAc{s:List UInt8}{R:List (List Cel)}{xl:List UInt8}{Ae Bd:List Cel}{R':List (List Cel)}(h0:inR (((nr+1):Nat):Int))(h1:xl.length<4294967281)(h2:1≤([32]:List UInt8).length)(h3:dn=false)(h4:xb=true)(h5:(((nr+1):Nat):Int)≠1)(h6:inR (my+1))(h7:(((nr+1):Nat):Int)≤(my+1))(Hh:∀ u∈(aL xl ([32]:List UInt8)),u.length≤90000)(Hi:rdL (aJ kd) (aL xl ([32]:List UInt8)) 0 = .inl Ae)(Ez:(aL xl ([32]:List UInt8)).length=(aJ kd).length)(Cm:(0:Int)<(R.length:Int))(Ba:inR ((R.length:Int)-1))(Cn:0≤((R.length:Int)-1)∧((R.length:Int)-1)<(R.length:Int))(D3:R[((R.length:Int)-1).toNat]? = some (Bd))(Eu:aO kd≤(Bd.length:Int))(Gs:aO kd≤(Ae.length:Int))(Ff:bU kd Bd Ae=1)(H3:[(PV.sl Ae.length ((Ae.map cE).flatten))].length=1*1∧R.length+1≤1000000)(B1:Dw=(nr+1))(D5:R'.length=(R.length+1))(D6:(R'.map rwE).flatten=(((R.map rwE).flatten)++[(PV.sl Ae.length ((Ae.map cE).flatten))])):bY Tp 13 12 fI (jX (bS s nr my bf dn kd R.length ((R.map rwE).flatten)) 27 28 11 12 xl xb) .ret (bX (bX (bX (bX (bS s Dw my bf dn kd R'.length ((R'.map rwE).flatten)) 5 (some (.box 158 [(pI kd),(.own 12),(pI (((nr+1):Nat):Int)),(pI 1),(pI 4)]))) 2 (some (.box 3 [(pI (((nr+1):Nat):Int))]))) 3 (some (.box 3 [(pI 1)]))) 4 (some (.box 27 [(pI 4)]))).m:=by
 subst B1
 have raw:bY Tp 13 12 fI (jX (bS s nr my bf dn kd R.length ((R.map rwE).flatten)) 27 28 11 12 xl xb) .ret (bX (bX (bX (bX (bS s (nr+1) my bf dn kd (R.length+1) (((R.map rwE).flatten)++[(PV.sl Ae.length ((Ae.map cE).flatten))])) 5 (some (.box 158 [(pI kd),(.own 12),(pI (((nr+1):Nat):Int)),(pI 1),(pI 4)]))) 2 (some (.box 3 [(pI (((nr+1):Nat):Int))]))) 3 (some (.box 3 [(pI 1)]))) 4 (some (.box 27 [(pI 4)]))).m:=⟨⟨fr 149 [(1,(.ptr 0 0)),(2,(.ptr 1 0)),(3,(.ptr 2 0)),(4,(.ptr 3 0)),(5,(.ptr 4 0)),(6,(.ptr 6 0)),(7,(.ptr 7 0)),(8,(.ptr 8 0)),(9,(.ptr 9 0)),(10,(.ptr 10 0)),(24,(.ptr 5 0)),(26,(.fn 175 [] [(.ptr 11 0)]))],[some (.box 9 [(.p (aD s))]),some (.box 26 [(pI 0),(.p bO)]),some (.box 3 [(pI (((nr+1):Nat):Int))]),some (.box 3 [(pI 1)]),some (.box 27 [(pI 4)]),some (.box 158 [(pI kd),(.own 13),(pI (((nr+1):Nat):Int)),(pI 1),(pI 4)]),some (.box 156 [(.ptr 5 0)]),some (.box 3 [(pI (((nr+1):Nat):Int))]),some (.box 3 [(pI my)]),some (.box 3 [(pI (bf:Int))]),some (.box 4 [(pB dn)]),some .dead,some .dead,some (.row 78 (R.length+1) (((R.map rwE).flatten)++[(PV.sl Ae.length ((Ae.map cE).flatten))]))]⟩,⟨[],[13],[],[]⟩,aA.fin (g:=⟨(rng [(0,1),(11,13),(25,1),(27,109),(142,1)]),[17],[],[]⟩) (o:=[.c (.fn 176 [] [(.ptr 13 0),(.ptr 14 0)]) [(5,(.box 158 [(pI kd),(.own 12),(pI 0),(pI 0),(pI 0)])),(12,(.row 78 R.length ((R.map rwE).flatten))),(13,(.box 156 [(.ptr 5 0)])),(14,(.box 3 [(pI (((nr+1):Nat):Int))]))],.c (.p (.sl ((aL xl ([32]:List UInt8)).length) (((aL xl ([32]:List UInt8)).map stE).flatten))) [],bF,bF,bF,bF,bF,bT,.c (.tup [(.own 15),(pB true)]) [(5,(.box 158 [(pI kd),(.own 12),(pI 0),(pI 0),(pI 0)])),(12,(.row 78 R.length ((R.map rwE).flatten))),(13,(.box 156 [(.ptr 5 0)])),(14,(.box 3 [(pI (((nr+1):Nat):Int))])),(15,(.row 80 Ae.length ((Ae.map cE).flatten)))],bT,bT,.x (.sl Bd.length ((Bd.map cE).flatten)),.c (pI 1) [],.c (pB false) [(13,(.box 156 [(.ptr 5 0)])),(14,(.box 3 [(pI (((nr+1):Nat):Int))])),(5,(.box 158 [(pI kd),(.own 12),(pI (((nr+1):Nat):Int)),(pI 1),(pI 4)])),(12,(.row 78 R.length ((R.map rwE).flatten)))],bT,.c (.tup [(.p (.agg [(aB 0),bO])),(pI (((nr+1):Nat):Int)),(pI 1),(pI 4)]) [(5,(.box 158 [(pI kd),(.own 17),(pI (((nr+1):Nat):Int)),(pI 1),(pI 4)])),(17,(.row 78 (R.length+1) (((R.map rwE).flatten)++[(PV.sl Ae.length ((Ae.map cE).flatten))])))]]) (l:=[FC Tp 94 [(.ptr 5 0)] [(5,(.box 158 [(pI kd),(.own 17),(pI (((nr+1):Nat):Int)),(pI 1),(pI 4)])),(17,(.row 78 (R.length+1) (((R.map rwE).flatten)++[(PV.sl Ae.length ((Ae.map cE).flatten))])))] 18 (.tup [(.p (.agg [(aB 0),bO])),(pI (((nr+1):Nat):Int)),(pI 1),(pI 4)]) [(5,(.box 158 [(pI kd),(.own 17),(pI (((nr+1):Nat):Int)),(pI 1),(pI 4)])),(17,(.row 78 (R.length+1) (((R.map rwE).flatten)++[(PV.sl Ae.length ((Ae.map cE).flatten))])))],((4:Int) != 0)=true,_,FC Tp 176 [(pI 1),(pI 4),(.ptr 13 0),(.ptr 14 0)] [(13,(.box 156 [(.ptr 5 0)])),(14,(.box 3 [(pI (((nr+1):Nat):Int))])),(5,(.box 158 [(pI kd),(.own 12),(pI 0),(pI 0),(pI 0)])),(12,(.row 78 R.length ((R.map rwE).flatten)))] 25 (pB false) [(13,(.box 156 [(.ptr 5 0)])),(14,(.box 3 [(pI (((nr+1):Nat):Int))])),(5,(.box 158 [(pI kd),(.own 12),(pI (((nr+1):Nat):Int)),(pI 1),(pI 4)])),(12,(.row 78 R.length ((R.map rwE).flatten)))],0≤(2:Int)∧(2:Int)<3,inR 2,FC Tp 92 [(pI kd),(.p (.sl Bd.length ((Bd.map cE).flatten))),(.own 15)] [(15,(.row 80 Ae.length ((Ae.map cE).flatten)))] 17 (pI 1) [],((R.map rwE).flatten)[(((R.length:Int)-1).toNat*1)]? = some (.sl Bd.length ((Bd.map cE).flatten)),_,_,_,true=true,FC Tp 91 [(.ptr 5 0),(.p (.sl ((aL xl ([32]:List UInt8)).length) (((aL xl ([32]:List UInt8)).map stE).flatten))),(.fn 176 [] [(.ptr 13 0),(.ptr 14 0)])] [(5,(.box 158 [(pI kd),(.own 12),(pI 0),(pI 0),(pI 0)])),(13,(.box 156 [(.ptr 5 0)])),(14,(.box 3 [(pI (((nr+1):Nat):Int))])),(12,(.row 78 R.length ((R.map rwE).flatten)))] 15 (.tup [(.own 15),(pB true)]) [(5,(.box 158 [(pI kd),(.own 12),(pI 0),(pI 0),(pI 0)])),(12,(.row 78 R.length ((R.map rwE).flatten))),(13,(.box 156 [(.ptr 5 0)])),(14,(.box 3 [(pI (((nr+1):Nat):Int))])),(15,(.row 80 Ae.length ((Ae.map cE).flatten)))],_,_,_,_,_,_,_,_,FC Tp 89 [(.ptr 5 0),(pI (((nr+1):Nat):Int))] [(5,(.box 158 [(pI kd),(.own 12),(pI 0),(pI 0),(pI 0)])),(12,(.row 78 R.length ((R.map rwE).flatten)))] 13 (.fn 176 [] [(.ptr 13 0),(.ptr 14 0)]) [(5,(.box 158 [(pI kd),(.own 12),(pI 0),(pI 0),(pI 0)])),(12,(.row 78 R.length ((R.map rwE).flatten))),(13,(.box 156 [(.ptr 5 0)])),(14,(.box 3 [(pI (((nr+1):Nat):Int))]))],_]) (by kernel_rfl) (gc (FMM.fc (ids:=[5,17]) (kG (k:=kd) (l:=(((nr+1):Nat):Int)) (f:=(1:Int)) (e:=(4:Int)) (n:=(R.length+1)) (cs:=(((R.map rwE).flatten)++[(PV.sl Ae.length ((Ae.map cE).flatten))])) (by decide)) (by kernel_rfl)) (gc (by first | decide | simp) (gc H3 (gc (FMM.fc (ids:=[13,14,5,12]) (cS 1 4 (((nr+1):Nat):Int) kd 0 0 0 R) (by kernel_rfl)) (gc (by first | decide | simp) (gc (by show _∧_;omega) (gc (fv (aPr kd Bd Ae Eu Gs Ff)) (gc (aM (E:=rwE) (i:=((R.length:Int)-1).toNat) (f:=0) (k:=1) (fun _=>rfl) D3 rfl) (gc Cn (gc Ba (gc (cP Cm) (gc rfl (gc (FMM.fcN (k:=1) rfl (ids:=[5,12,13,14]) (lD (((nr+1):Nat):Int) R 0 0 Hh Hi Ez) (by kernel_rfl)) (gc (mB h7) (gc h6 (gc (bP h5) (gc (aU h4) (Ay h3 (gc (fk 15 (eE xl ([32]:List UInt8) h1 h2) rfl) (gc (FMM.fcN (k:=2) rfl (ids:=[5,12]) (fA (ln:=(((nr+1):Nat):Int)) (k:=kd) (l:=(0:Int)) (f:=(0:Int)) (e:=(0:Int)) (R:=R)) (by kernel_rfl)) (gc h0 gn))))))))))))))))))))),by kernel_rfl,(⟨fr 149 [(1,(.ptr 0 0)),(2,(.ptr 1 0)),(3,(.ptr 2 0)),(4,(.ptr 3 0)),(5,(.ptr 4 0)),(6,(.ptr 6 0)),(7,(.ptr 7 0)),(8,(.ptr 8 0)),(9,(.ptr 9 0)),(10,(.ptr 10 0)),(24,(.ptr 5 0)),(26,(.fn 175 [] [(.ptr 11 0)]))],[some (.box 9 [(.p (aD s))]),some (.box 26 [(pI 0),(.p bO)]),some (.box 3 [(pI (((nr+1):Nat):Int))]),some (.box 3 [(pI 1)]),some (.box 27 [(pI 4)]),some (.box 158 [(pI kd),(.own 13),(pI (((nr+1):Nat):Int)),(pI 1),(pI 4)]),some (.box 156 [(.ptr 5 0)]),some (.box 3 [(pI (((nr+1):Nat):Int))]),some (.box 3 [(pI my)]),some (.box 3 [(pI (bf:Int))]),some (.box 4 [(pB dn)]),some .dead,some .dead,some (.row 78 (R.length+1) (((R.map rwE).flatten)++[(PV.sl Ae.length ((Ae.map cE).flatten))]))]⟩:St).t,by kernel_rfl⟩
 exact raw.cast (by rw [D5,D6])
theorem bAd{s:List UInt8}{R:List (List Cel)}{xl:List UInt8}{Ae:List Cel}{R':List (List Cel)}(h0:inR (((nr+1):Nat):Int))(h1:xl.length<4294967281)(h2:1≤([32]:List UInt8).length)(h3:dn=false)(h4:xb=true)(h5:(((nr+1):Nat):Int)≠1)(h6:inR (my+1))(h7:(((nr+1):Nat):Int)≤(my+1))(Hh:∀ u∈(aL xl ([32]:List UInt8)),u.length≤90000)(Hi:rdL (aJ kd) (aL xl ([32]:List UInt8)) 0 = .inl Ae)(Ez:(aL xl ([32]:List UInt8)).length=(aJ kd).length)(Cm:(R.length:Int)≤0)(Ba:[(PV.sl Ae.length ((Ae.map cE).flatten))].length=1*1∧R.length+1≤1000000)(Cn:inR (((xl.length+1):Nat):Int))(D3:inR (((bf+(xl.length+1)):Nat):Int))(B1:Dw=(nr+1))(Fy:Gy=(bf+(xl.length+1)))(D5:R'.length=(R.length+1))(D6:(R'.map rwE).flatten=(((R.map rwE).flatten)++[(PV.sl Ae.length ((Ae.map cE).flatten))])):bY Tp 13 12 fI (jX (bS s nr my bf dn kd R.length ((R.map rwE).flatten)) 27 28 11 12 xl xb) .normal (bS s Dw my Gy dn kd R'.length ((R'.map rwE).flatten)).m:=by
 subst B1 Fy
 have raw:bY Tp 13 12 fI (jX (bS s nr my bf dn kd R.length ((R.map rwE).flatten)) 27 28 11 12 xl xb) .normal (bS s (nr+1) my (bf+(xl.length+1)) dn kd (R.length+1) (((R.map rwE).flatten)++[(PV.sl Ae.length ((Ae.map cE).flatten))])).m:=⟨⟨fr 149 [(1,(.ptr 0 0)),(2,(.ptr 1 0)),(3,(.ptr 2 0)),(4,(.ptr 3 0)),(5,(.ptr 4 0)),(6,(.ptr 6 0)),(7,(.ptr 7 0)),(8,(.ptr 8 0)),(9,(.ptr 9 0)),(10,(.ptr 10 0)),(24,(.ptr 5 0)),(26,(.fn 175 [] [(.ptr 11 0)]))],[some (.box 9 [(.p (aD s))]),some (.box 26 [(pI 0),(.p bO)]),some (.box 3 [(pI 0)]),some (.box 3 [(pI 0)]),some (.box 27 [(pI 0)]),some (.box 158 [(pI kd),(.own 13),(pI 0),(pI 0),(pI 0)]),some (.box 156 [(.ptr 5 0)]),some (.box 3 [(pI (((nr+1):Nat):Int))]),some (.box 3 [(pI my)]),some (.box 3 [(pI (((bf+(xl.length+1)):Nat):Int))]),some (.box 4 [(pB dn)]),some .dead,some .dead,some (.row 78 (R.length+1) (((R.map rwE).flatten)++[(PV.sl Ae.length ((Ae.map cE).flatten))]))]⟩,⟨[],[13],[],[]⟩,aA.fin (g:=⟨(rng [(0,1),(11,13),(25,1),(27,109),(142,1)]),[17],[],[]⟩) (o:=[.c (.fn 176 [] [(.ptr 13 0),(.ptr 14 0)]) [(5,(.box 158 [(pI kd),(.own 12),(pI 0),(pI 0),(pI 0)])),(12,(.row 78 R.length ((R.map rwE).flatten))),(13,(.box 156 [(.ptr 5 0)])),(14,(.box 3 [(pI (((nr+1):Nat):Int))]))],.c (.p (.sl ((aL xl ([32]:List UInt8)).length) (((aL xl ([32]:List UInt8)).map stE).flatten))) [],bF,bF,bF,bF,bF,bT,.c (.tup [(.own 15),(pB true)]) [(5,(.box 158 [(pI kd),(.own 12),(pI 0),(pI 0),(pI 0)])),(12,(.row 78 R.length ((R.map rwE).flatten))),(13,(.box 156 [(.ptr 5 0)])),(14,(.box 3 [(pI (((nr+1):Nat):Int))])),(15,(.row 80 Ae.length ((Ae.map cE).flatten)))],bT,bF,bF]) (l:=[_,_,_,_,_,true=true,FC Tp 91 [(.ptr 5 0),(.p (.sl ((aL xl ([32]:List UInt8)).length) (((aL xl ([32]:List UInt8)).map stE).flatten))),(.fn 176 [] [(.ptr 13 0),(.ptr 14 0)])] [(5,(.box 158 [(pI kd),(.own 12),(pI 0),(pI 0),(pI 0)])),(13,(.box 156 [(.ptr 5 0)])),(14,(.box 3 [(pI (((nr+1):Nat):Int))])),(12,(.row 78 R.length ((R.map rwE).flatten)))] 15 (.tup [(.own 15),(pB true)]) [(5,(.box 158 [(pI kd),(.own 12),(pI 0),(pI 0),(pI 0)])),(12,(.row 78 R.length ((R.map rwE).flatten))),(13,(.box 156 [(.ptr 5 0)])),(14,(.box 3 [(pI (((nr+1):Nat):Int))])),(15,(.row 80 Ae.length ((Ae.map cE).flatten)))],_,_,_,_,_,_,_,_,FC Tp 89 [(.ptr 5 0),(pI (((nr+1):Nat):Int))] [(5,(.box 158 [(pI kd),(.own 12),(pI 0),(pI 0),(pI 0)])),(12,(.row 78 R.length ((R.map rwE).flatten)))] 13 (.fn 176 [] [(.ptr 13 0),(.ptr 14 0)]) [(5,(.box 158 [(pI kd),(.own 12),(pI 0),(pI 0),(pI 0)])),(12,(.row 78 R.length ((R.map rwE).flatten))),(13,(.box 156 [(.ptr 5 0)])),(14,(.box 3 [(pI (((nr+1):Nat):Int))]))],_]) (by kernel_rfl) (gc D3 (gc Cn (gc aSr (gc Ba (gc (bL Cm) (gc rfl (gc (FMM.fcN (k:=1) rfl (ids:=[5,12,13,14]) (lD (((nr+1):Nat):Int) R 0 0 Hh Hi Ez) (by kernel_rfl)) (gc (mB h7) (gc h6 (gc (bP h5) (gc (aU h4) (Ay h3 (gc (fk 15 (eE xl ([32]:List UInt8) h1 h2) rfl) (gc (FMM.fcN (k:=2) rfl (ids:=[5,12]) (fA (ln:=(((nr+1):Nat):Int)) (k:=kd) (l:=(0:Int)) (f:=(0:Int)) (e:=(0:Int)) (R:=R)) (by kernel_rfl)) (gc h0 gn))))))))))))))),by kernel_rfl,(⟨fr 149 [(1,(.ptr 0 0)),(2,(.ptr 1 0)),(3,(.ptr 2 0)),(4,(.ptr 3 0)),(5,(.ptr 4 0)),(6,(.ptr 6 0)),(7,(.ptr 7 0)),(8,(.ptr 8 0)),(9,(.ptr 9 0)),(10,(.ptr 10 0)),(24,(.ptr 5 0)),(26,(.fn 175 [] [(.ptr 11 0)]))],[some (.box 9 [(.p (aD s))]),some (.box 26 [(pI 0),(.p bO)]),some (.box 3 [(pI 0)]),some (.box 3 [(pI 0)]),some (.box 27 [(pI 0)]),some (.box 158 [(pI kd),(.own 13),(pI 0),(pI 0),(pI 0)]),some (.box 156 [(.ptr 5 0)]),some (.box 3 [(pI (((nr+1):Nat):Int))]),some (.box 3 [(pI my)]),some (.box 3 [(pI (((bf+(xl.length+1)):Nat):Int))]),some (.box 4 [(pB dn)]),some .dead,some .dead,some (.row 78 (R.length+1) (((R.map rwE).flatten)++[(PV.sl Ae.length ((Ae.map cE).flatten))]))]⟩:St).t,by kernel_rfl⟩
 exact raw.cast (by rw [D5,D6])
theorem bAe{s:List UInt8}{R:List (List Cel)}{xl:List UInt8}{Ae:List Cel}(h0:inR (((nr+1):Nat):Int))(h1:xl.length<4294967281)(h2:1≤([32]:List UInt8).length)(h3:dn=false)(h4:xb=true)(h5:(((nr+1):Nat):Int)≠1)(h6:inR (my+1))(h7:(((nr+1):Nat):Int)≤(my+1))(Hh:∀ u∈(aL xl ([32]:List UInt8)),u.length≤90000)(Hi:rdL (aJ kd) (aL xl ([32]:List UInt8)) 0 = .inl Ae)(Ez:(aL xl ([32]:List UInt8)).length≠(aJ kd).length)(B1:Dw=(nr+1)):bY Tp 13 12 fI (jX (bS s nr my bf dn kd R.length ((R.map rwE).flatten)) 27 28 11 12 xl xb) .ret (bX (bX (bX (bX (bS s Dw my bf dn kd R.length ((R.map rwE).flatten)) 5 (some (.box 158 [(pI kd),(.own 12),(pI (((nr+1):Nat):Int)),(pI (((aJ kd).length+1:Nat):Int)),(pI 11)]))) 2 (some (.box 3 [(pI (((nr+1):Nat):Int))]))) 3 (some (.box 3 [(pI (((aJ kd).length+1:Nat):Int))]))) 4 (some (.box 27 [(pI 11)]))).m:=by
 subst B1
 have raw:bY Tp 13 12 fI (jX (bS s nr my bf dn kd R.length ((R.map rwE).flatten)) 27 28 11 12 xl xb) .ret (bX (bX (bX (bX (bS s (nr+1) my bf dn kd R.length ((R.map rwE).flatten)) 5 (some (.box 158 [(pI kd),(.own 12),(pI (((nr+1):Nat):Int)),(pI (((aJ kd).length+1:Nat):Int)),(pI 11)]))) 2 (some (.box 3 [(pI (((nr+1):Nat):Int))]))) 3 (some (.box 3 [(pI (((aJ kd).length+1:Nat):Int))]))) 4 (some (.box 27 [(pI 11)]))).m:=⟨⟨fr 149 [(1,(.ptr 0 0)),(2,(.ptr 1 0)),(3,(.ptr 2 0)),(4,(.ptr 3 0)),(5,(.ptr 4 0)),(6,(.ptr 6 0)),(7,(.ptr 7 0)),(8,(.ptr 8 0)),(9,(.ptr 9 0)),(10,(.ptr 10 0)),(24,(.ptr 5 0)),(26,(.fn 175 [] [(.ptr 11 0)]))],[some (.box 9 [(.p (aD s))]),some (.box 26 [(pI 0),(.p bO)]),some (.box 3 [(pI (((nr+1):Nat):Int))]),some (.box 3 [(pI (((aJ kd).length+1:Nat):Int))]),some (.box 27 [(pI 11)]),some (.box 158 [(pI kd),(.own 12),(pI (((nr+1):Nat):Int)),(pI (((aJ kd).length+1:Nat):Int)),(pI 11)]),some (.box 156 [(.ptr 5 0)]),some (.box 3 [(pI (((nr+1):Nat):Int))]),some (.box 3 [(pI my)]),some (.box 3 [(pI (bf:Int))]),some (.box 4 [(pB dn)]),some .dead,some (.row 78 R.length ((R.map rwE).flatten))]⟩,⟨[],[12],[],[]⟩,aA.fin (g:=⟨(rng [(0,1),(11,13),(25,1),(27,109),(142,1)]),[],[],[]⟩) (o:=[.c (.fn 176 [] [(.ptr 13 0),(.ptr 14 0)]) [(5,(.box 158 [(pI kd),(.own 12),(pI 0),(pI 0),(pI 0)])),(12,(.row 78 R.length ((R.map rwE).flatten))),(13,(.box 156 [(.ptr 5 0)])),(14,(.box 3 [(pI (((nr+1):Nat):Int))]))],.c (.p (.sl ((aL xl ([32]:List UInt8)).length) (((aL xl ([32]:List UInt8)).map stE).flatten))) [],bF,bF,bF,bF,bF,bT,.c (.tup [(.own 15),(pB false)]) [(5,(.box 158 [(pI kd),(.own 12),(pI (((nr+1):Nat):Int)),(pI (((aJ kd).length+1:Nat):Int)),(pI 11)])),(12,(.row 78 R.length ((R.map rwE).flatten))),(13,(.box 156 [(.ptr 5 0)])),(14,(.box 3 [(pI (((nr+1):Nat):Int))])),(15,(.row 80 Ae.length ((Ae.map cE).flatten)))],bF,bT,.c (.tup [(.p (.agg [(aB 0),bO])),(pI (((nr+1):Nat):Int)),(pI (((aJ kd).length+1:Nat):Int)),(pI 11)]) [(5,(.box 158 [(pI kd),(.own 12),(pI (((nr+1):Nat):Int)),(pI (((aJ kd).length+1:Nat):Int)),(pI 11)])),(12,(.row 78 R.length ((R.map rwE).flatten)))]]) (l:=[FC Tp 94 [(.ptr 5 0)] [(5,(.box 158 [(pI kd),(.own 12),(pI (((nr+1):Nat):Int)),(pI (((aJ kd).length+1:Nat):Int)),(pI 11)])),(12,(.row 78 R.length ((R.map rwE).flatten)))] 16 (.tup [(.p (.agg [(aB 0),bO])),(pI (((nr+1):Nat):Int)),(pI (((aJ kd).length+1:Nat):Int)),(pI 11)]) [(5,(.box 158 [(pI kd),(.own 12),(pI (((nr+1):Nat):Int)),(pI (((aJ kd).length+1:Nat):Int)),(pI 11)])),(12,(.row 78 R.length ((R.map rwE).flatten)))],_,false=false,FC Tp 91 [(.ptr 5 0),(.p (.sl ((aL xl ([32]:List UInt8)).length) (((aL xl ([32]:List UInt8)).map stE).flatten))),(.fn 176 [] [(.ptr 13 0),(.ptr 14 0)])] [(5,(.box 158 [(pI kd),(.own 12),(pI 0),(pI 0),(pI 0)])),(13,(.box 156 [(.ptr 5 0)])),(14,(.box 3 [(pI (((nr+1):Nat):Int))])),(12,(.row 78 R.length ((R.map rwE).flatten)))] 15 (.tup [(.own 15),(pB false)]) [(5,(.box 158 [(pI kd),(.own 12),(pI (((nr+1):Nat):Int)),(pI (((aJ kd).length+1:Nat):Int)),(pI 11)])),(12,(.row 78 R.length ((R.map rwE).flatten))),(13,(.box 156 [(.ptr 5 0)])),(14,(.box 3 [(pI (((nr+1):Nat):Int))])),(15,(.row 80 Ae.length ((Ae.map cE).flatten)))],_,_,_,_,_,_,_,_,FC Tp 89 [(.ptr 5 0),(pI (((nr+1):Nat):Int))] [(5,(.box 158 [(pI kd),(.own 12),(pI 0),(pI 0),(pI 0)])),(12,(.row 78 R.length ((R.map rwE).flatten)))] 13 (.fn 176 [] [(.ptr 13 0),(.ptr 14 0)]) [(5,(.box 158 [(pI kd),(.own 12),(pI 0),(pI 0),(pI 0)])),(12,(.row 78 R.length ((R.map rwE).flatten))),(13,(.box 156 [(.ptr 5 0)])),(14,(.box 3 [(pI (((nr+1):Nat):Int))]))],_]) (by kernel_rfl) (gc (FMM.fc (ids:=[5,12]) (kG (k:=kd) (l:=(((nr+1):Nat):Int)) (f:=(((aJ kd).length+1:Nat):Int)) (e:=(11:Int)) (n:=R.length) (cs:=((R.map rwE).flatten)) (by decide)) (by kernel_rfl)) (gc bId (gc rfl (gc (FMM.fcN (k:=1) rfl (ids:=[5,12,13,14]) (aKd (((nr+1):Nat):Int) R 0 0 Hh Hi Ez) (by kernel_rfl)) (gc (mB h7) (gc h6 (gc (bP h5) (gc (aU h4) (Ay h3 (gc (fk 15 (eE xl ([32]:List UInt8) h1 h2) rfl) (gc (FMM.fcN (k:=2) rfl (ids:=[5,12]) (fA (ln:=(((nr+1):Nat):Int)) (k:=kd) (l:=(0:Int)) (f:=(0:Int)) (e:=(0:Int)) (R:=R)) (by kernel_rfl)) (gc h0 gn)))))))))))),by kernel_rfl,(⟨fr 149 [(1,(.ptr 0 0)),(2,(.ptr 1 0)),(3,(.ptr 2 0)),(4,(.ptr 3 0)),(5,(.ptr 4 0)),(6,(.ptr 6 0)),(7,(.ptr 7 0)),(8,(.ptr 8 0)),(9,(.ptr 9 0)),(10,(.ptr 10 0)),(24,(.ptr 5 0)),(26,(.fn 175 [] [(.ptr 11 0)]))],[some (.box 9 [(.p (aD s))]),some (.box 26 [(pI 0),(.p bO)]),some (.box 3 [(pI (((nr+1):Nat):Int))]),some (.box 3 [(pI (((aJ kd).length+1:Nat):Int))]),some (.box 27 [(pI 11)]),some (.box 158 [(pI kd),(.own 12),(pI (((nr+1):Nat):Int)),(pI (((aJ kd).length+1:Nat):Int)),(pI 11)]),some (.box 156 [(.ptr 5 0)]),some (.box 3 [(pI (((nr+1):Nat):Int))]),some (.box 3 [(pI my)]),some (.box 3 [(pI (bf:Int))]),some (.box 4 [(pB dn)]),some .dead,some (.row 78 R.length ((R.map rwE).flatten))]⟩:St).t,by kernel_rfl⟩
 exact raw
theorem aPs{s:List UInt8}{R:List (List Cel)}{xl:List UInt8}{Bs Bn:Int}(h0:inR (((nr+1):Nat):Int))(h1:xl.length<4294967281)(h2:1≤([32]:List UInt8).length)(h3:dn=false)(h4:xb=true)(h5:(((nr+1):Nat):Int)≠1)(h6:inR (my+1))(h7:(((nr+1):Nat):Int)≤(my+1))(Hh:∀ u∈(aL xl ([32]:List UInt8)),u.length≤90000)(Hi:rdL (aJ kd) (aL xl ([32]:List UInt8)) 0 = .inr (Bs,Bn))(A5:Bn≠0)(B1:Dw=(nr+1)):bY Tp 13 12 fI (jX (bS s nr my bf dn kd R.length ((R.map rwE).flatten)) 27 28 11 12 xl xb) .ret (bX (bX (bX (bX (bS s Dw my bf dn kd R.length ((R.map rwE).flatten)) 5 (some (.box 158 [(pI kd),(.own 12),(pI (((nr+1):Nat):Int)),(pI Bs),(pI Bn)]))) 2 (some (.box 3 [(pI (((nr+1):Nat):Int))]))) 3 (some (.box 3 [(pI Bs)]))) 4 (some (.box 27 [(pI Bn)]))).m:=by
 subst B1
 have raw:bY Tp 13 12 fI (jX (bS s nr my bf dn kd R.length ((R.map rwE).flatten)) 27 28 11 12 xl xb) .ret (bX (bX (bX (bX (bS s (nr+1) my bf dn kd R.length ((R.map rwE).flatten)) 5 (some (.box 158 [(pI kd),(.own 12),(pI (((nr+1):Nat):Int)),(pI Bs),(pI Bn)]))) 2 (some (.box 3 [(pI (((nr+1):Nat):Int))]))) 3 (some (.box 3 [(pI Bs)]))) 4 (some (.box 27 [(pI Bn)]))).m:=⟨⟨fr 149 [(1,(.ptr 0 0)),(2,(.ptr 1 0)),(3,(.ptr 2 0)),(4,(.ptr 3 0)),(5,(.ptr 4 0)),(6,(.ptr 6 0)),(7,(.ptr 7 0)),(8,(.ptr 8 0)),(9,(.ptr 9 0)),(10,(.ptr 10 0)),(24,(.ptr 5 0)),(26,(.fn 175 [] [(.ptr 11 0)]))],[some (.box 9 [(.p (aD s))]),some (.box 26 [(pI 0),(.p bO)]),some (.box 3 [(pI (((nr+1):Nat):Int))]),some (.box 3 [(pI Bs)]),some (.box 27 [(pI Bn)]),some (.box 158 [(pI kd),(.own 12),(pI (((nr+1):Nat):Int)),(pI Bs),(pI Bn)]),some (.box 156 [(.ptr 5 0)]),some (.box 3 [(pI (((nr+1):Nat):Int))]),some (.box 3 [(pI my)]),some (.box 3 [(pI (bf:Int))]),some (.box 4 [(pB dn)]),some .dead,some (.row 78 R.length ((R.map rwE).flatten))]⟩,⟨[],[12],[],[]⟩,aA.fin (g:=⟨(rng [(0,1),(11,13),(25,1),(27,109),(142,1)]),[],[],[]⟩) (o:=[.c (.fn 176 [] [(.ptr 13 0),(.ptr 14 0)]) [(5,(.box 158 [(pI kd),(.own 12),(pI 0),(pI 0),(pI 0)])),(12,(.row 78 R.length ((R.map rwE).flatten))),(13,(.box 156 [(.ptr 5 0)])),(14,(.box 3 [(pI (((nr+1):Nat):Int))]))],.c (.p (.sl ((aL xl ([32]:List UInt8)).length) (((aL xl ([32]:List UInt8)).map stE).flatten))) [],bF,bF,bF,bF,bF,bT,.c (.tup [(.p bO),(pB false)]) [(5,(.box 158 [(pI kd),(.own 12),(pI (((nr+1):Nat):Int)),(pI Bs),(pI Bn)])),(12,(.row 78 R.length ((R.map rwE).flatten))),(13,(.box 156 [(.ptr 5 0)])),(14,(.box 3 [(pI (((nr+1):Nat):Int))]))],bF,bT,.c (.tup [(.p (.agg [(aB 0),bO])),(pI (((nr+1):Nat):Int)),(pI Bs),(pI Bn)]) [(5,(.box 158 [(pI kd),(.own 12),(pI (((nr+1):Nat):Int)),(pI Bs),(pI Bn)])),(12,(.row 78 R.length ((R.map rwE).flatten)))]]) (l:=[FC Tp 94 [(.ptr 5 0)] [(5,(.box 158 [(pI kd),(.own 12),(pI (((nr+1):Nat):Int)),(pI Bs),(pI Bn)])),(12,(.row 78 R.length ((R.map rwE).flatten)))] 15 (.tup [(.p (.agg [(aB 0),bO])),(pI (((nr+1):Nat):Int)),(pI Bs),(pI Bn)]) [(5,(.box 158 [(pI kd),(.own 12),(pI (((nr+1):Nat):Int)),(pI Bs),(pI Bn)])),(12,(.row 78 R.length ((R.map rwE).flatten)))],_,false=false,FC Tp 91 [(.ptr 5 0),(.p (.sl ((aL xl ([32]:List UInt8)).length) (((aL xl ([32]:List UInt8)).map stE).flatten))),(.fn 176 [] [(.ptr 13 0),(.ptr 14 0)])] [(5,(.box 158 [(pI kd),(.own 12),(pI 0),(pI 0),(pI 0)])),(13,(.box 156 [(.ptr 5 0)])),(14,(.box 3 [(pI (((nr+1):Nat):Int))])),(12,(.row 78 R.length ((R.map rwE).flatten)))] 15 (.tup [(.p bO),(pB false)]) [(5,(.box 158 [(pI kd),(.own 12),(pI (((nr+1):Nat):Int)),(pI Bs),(pI Bn)])),(12,(.row 78 R.length ((R.map rwE).flatten))),(13,(.box 156 [(.ptr 5 0)])),(14,(.box 3 [(pI (((nr+1):Nat):Int))]))],_,_,_,_,_,_,_,_,FC Tp 89 [(.ptr 5 0),(pI (((nr+1):Nat):Int))] [(5,(.box 158 [(pI kd),(.own 12),(pI 0),(pI 0),(pI 0)])),(12,(.row 78 R.length ((R.map rwE).flatten)))] 13 (.fn 176 [] [(.ptr 13 0),(.ptr 14 0)]) [(5,(.box 158 [(pI kd),(.own 12),(pI 0),(pI 0),(pI 0)])),(12,(.row 78 R.length ((R.map rwE).flatten))),(13,(.box 156 [(.ptr 5 0)])),(14,(.box 3 [(pI (((nr+1):Nat):Int))]))],_]) (by kernel_rfl) (gc (FMM.fc (ids:=[5,12]) (kG (k:=kd) (l:=(((nr+1):Nat):Int)) (f:=Bs) (e:=Bn) (n:=R.length) (cs:=((R.map rwE).flatten)) A5) (by kernel_rfl)) (gc (fJ A5) (gc rfl (gc (FMM.fcN (k:=0) rfl (ids:=[5,12,13,14]) (aRs (((nr+1):Nat):Int) R 0 0 Hh Hi).2 (by kernel_rfl)) (gc (mB h7) (gc h6 (gc (bP h5) (gc (aU h4) (Ay h3 (gc (fk 15 (eE xl ([32]:List UInt8) h1 h2) rfl) (gc (FMM.fcN (k:=2) rfl (ids:=[5,12]) (fA (ln:=(((nr+1):Nat):Int)) (k:=kd) (l:=(0:Int)) (f:=(0:Int)) (e:=(0:Int)) (R:=R)) (by kernel_rfl)) (gc h0 gn)))))))))))),by kernel_rfl,(⟨fr 149 [(1,(.ptr 0 0)),(2,(.ptr 1 0)),(3,(.ptr 2 0)),(4,(.ptr 3 0)),(5,(.ptr 4 0)),(6,(.ptr 6 0)),(7,(.ptr 7 0)),(8,(.ptr 8 0)),(9,(.ptr 9 0)),(10,(.ptr 10 0)),(24,(.ptr 5 0)),(26,(.fn 175 [] [(.ptr 11 0)]))],[some (.box 9 [(.p (aD s))]),some (.box 26 [(pI 0),(.p bO)]),some (.box 3 [(pI (((nr+1):Nat):Int))]),some (.box 3 [(pI Bs)]),some (.box 27 [(pI Bn)]),some (.box 158 [(pI kd),(.own 12),(pI (((nr+1):Nat):Int)),(pI Bs),(pI Bn)]),some (.box 156 [(.ptr 5 0)]),some (.box 3 [(pI (((nr+1):Nat):Int))]),some (.box 3 [(pI my)]),some (.box 3 [(pI (bf:Int))]),some (.box 4 [(pB dn)]),some .dead,some (.row 78 R.length ((R.map rwE).flatten))]⟩:St).t,by kernel_rfl⟩
 exact raw
theorem aPt{s:List UInt8}{R:List (List Cel)}{xl:List UInt8}(h0:inR (((nr+1):Nat):Int))(h1:xl.length<4294967281)(h2:1≤([32]:List UInt8).length)(h3:dn=false)(h4:xb=true)(h5:(((nr+1):Nat):Int)≠1)(h6:inR (my+1))(h7:(my+1)<(((nr+1):Nat):Int))(h8:0≤(0:Int)∧(0:Int)≤(bf:Int)∧(bf:Int)≤(s.length:Int))(h9:(s.take bf).length≤65536)(Je:0<(aL xl ([32]:List UInt8)).length)(Jf:(lsM (aL xl ([32]:List UInt8)) (bI (s.take bf))).2≠0)(Ba:((lsM (aL xl ([32]:List UInt8)) (bI (s.take bf))).2)≠0)(B1:Dw=(nr+1)):bY Tp 13 12 fI (jX (bS s nr my bf dn kd R.length ((R.map rwE).flatten)) 27 28 11 12 xl xb) .ret (bX (bX (bX (bX (bS s Dw my bf true kd R.length ((R.map rwE).flatten)) 5 (some (.box 158 [(pI kd),(.own 12),(pI (((nr+1):Nat):Int)),(pI ((lsM (aL xl ([32]:List UInt8)) (bI (s.take bf))).1)),(pI ((lsM (aL xl ([32]:List UInt8)) (bI (s.take bf))).2))]))) 2 (some (.box 3 [(pI (((nr+1):Nat):Int))]))) 3 (some (.box 3 [(pI ((lsM (aL xl ([32]:List UInt8)) (bI (s.take bf))).1))]))) 4 (some (.box 27 [(pI ((lsM (aL xl ([32]:List UInt8)) (bI (s.take bf))).2))]))).m:=by
 subst B1
 have raw:bY Tp 13 12 fI (jX (bS s nr my bf dn kd R.length ((R.map rwE).flatten)) 27 28 11 12 xl xb) .ret (bX (bX (bX (bX (bS s (nr+1) my bf true kd R.length ((R.map rwE).flatten)) 5 (some (.box 158 [(pI kd),(.own 12),(pI (((nr+1):Nat):Int)),(pI ((lsM (aL xl ([32]:List UInt8)) (bI (s.take bf))).1)),(pI ((lsM (aL xl ([32]:List UInt8)) (bI (s.take bf))).2))]))) 2 (some (.box 3 [(pI (((nr+1):Nat):Int))]))) 3 (some (.box 3 [(pI ((lsM (aL xl ([32]:List UInt8)) (bI (s.take bf))).1))]))) 4 (some (.box 27 [(pI ((lsM (aL xl ([32]:List UInt8)) (bI (s.take bf))).2))]))).m:=⟨⟨fr 149 [(1,(.ptr 0 0)),(2,(.ptr 1 0)),(3,(.ptr 2 0)),(4,(.ptr 3 0)),(5,(.ptr 4 0)),(6,(.ptr 6 0)),(7,(.ptr 7 0)),(8,(.ptr 8 0)),(9,(.ptr 9 0)),(10,(.ptr 10 0)),(24,(.ptr 5 0)),(26,(.fn 175 [] [(.ptr 11 0)]))],[some (.box 9 [(.p (aD s))]),some (.box 26 [(pI 0),(.p bO)]),some (.box 3 [(pI (((nr+1):Nat):Int))]),some (.box 3 [(pI ((lsM (aL xl ([32]:List UInt8)) (bI (s.take bf))).1))]),some (.box 27 [(pI ((lsM (aL xl ([32]:List UInt8)) (bI (s.take bf))).2))]),some (.box 158 [(pI kd),(.own 12),(pI (((nr+1):Nat):Int)),(pI ((lsM (aL xl ([32]:List UInt8)) (bI (s.take bf))).1)),(pI ((lsM (aL xl ([32]:List UInt8)) (bI (s.take bf))).2))]),some (.box 156 [(.ptr 5 0)]),some (.box 3 [(pI (((nr+1):Nat):Int))]),some (.box 3 [(pI my)]),some (.box 3 [(pI (bf:Int))]),some (.box 4 [(pB true)]),some .dead,some (.row 78 R.length ((R.map rwE).flatten))]⟩,⟨[],[12],[],[]⟩,aA.fin (g:=⟨(rng [(0,1),(11,13),(25,1),(27,109),(142,1)]),[],[],[(110000,0)]⟩) (o:=[.c (.fn 176 [] [(.ptr 13 0),(.ptr 14 0)]) [(5,(.box 158 [(pI kd),(.own 12),(pI 0),(pI 0),(pI 0)])),(12,(.row 78 R.length ((R.map rwE).flatten))),(13,(.box 156 [(.ptr 5 0)])),(14,(.box 3 [(pI (((nr+1):Nat):Int))]))],.c (.p (.sl ((aL xl ([32]:List UInt8)).length) (((aL xl ([32]:List UInt8)).map stE).flatten))) [],bF,bF,bF,bF,bF,bF,.c (.tup [(pI (bI (s.take bf))),(pI 0)]) [],.c (.tup []) [(13,(.box 156 [(.ptr 5 0)])),(14,(.box 3 [(pI (((nr+1):Nat):Int))])),(5,(.box 158 [(pI kd),(.own 12),(pI (((nr+1):Nat):Int)),(pI ((lsM (aL xl ([32]:List UInt8)) (bI (s.take bf))).1)),(pI ((lsM (aL xl ([32]:List UInt8)) (bI (s.take bf))).2))])),(12,(.row 78 R.length ((R.map rwE).flatten)))],bT,.c (.tup [(.p (.agg [(aB 0),bO])),(pI (((nr+1):Nat):Int)),(pI ((lsM (aL xl ([32]:List UInt8)) (bI (s.take bf))).1)),(pI ((lsM (aL xl ([32]:List UInt8)) (bI (s.take bf))).2))]) [(5,(.box 158 [(pI kd),(.own 12),(pI (((nr+1):Nat):Int)),(pI ((lsM (aL xl ([32]:List UInt8)) (bI (s.take bf))).1)),(pI ((lsM (aL xl ([32]:List UInt8)) (bI (s.take bf))).2))])),(12,(.row 78 R.length ((R.map rwE).flatten)))]]) (l:=[FC Tp 94 [(.ptr 5 0)] [(5,(.box 158 [(pI kd),(.own 12),(pI (((nr+1):Nat):Int)),(pI ((lsM (aL xl ([32]:List UInt8)) (bI (s.take bf))).1)),(pI ((lsM (aL xl ([32]:List UInt8)) (bI (s.take bf))).2))])),(12,(.row 78 R.length ((R.map rwE).flatten)))] 15 (.tup [(.p (.agg [(aB 0),bO])),(pI (((nr+1):Nat):Int)),(pI ((lsM (aL xl ([32]:List UInt8)) (bI (s.take bf))).1)),(pI ((lsM (aL xl ([32]:List UInt8)) (bI (s.take bf))).2))]) [(5,(.box 158 [(pI kd),(.own 12),(pI (((nr+1):Nat):Int)),(pI ((lsM (aL xl ([32]:List UInt8)) (bI (s.take bf))).1)),(pI ((lsM (aL xl ([32]:List UInt8)) (bI (s.take bf))).2))])),(12,(.row 78 R.length ((R.map rwE).flatten)))],_,FC Tp 93 [(.p (.sl ((aL xl ([32]:List UInt8)).length) (((aL xl ([32]:List UInt8)).map stE).flatten))),(pI (bI (s.take bf))),(.fn 176 [] [(.ptr 13 0),(.ptr 14 0)])] [(13,(.box 156 [(.ptr 5 0)])),(14,(.box 3 [(pI (((nr+1):Nat):Int))])),(5,(.box 158 [(pI kd),(.own 12),(pI 0),(pI 0),(pI 0)])),(12,(.row 78 R.length ((R.map rwE).flatten)))] 15 (.tup []) [(13,(.box 156 [(.ptr 5 0)])),(14,(.box 3 [(pI (((nr+1):Nat):Int))])),(5,(.box 158 [(pI kd),(.own 12),(pI (((nr+1):Nat):Int)),(pI ((lsM (aL xl ([32]:List UInt8)) (bI (s.take bf))).1)),(pI ((lsM (aL xl ([32]:List UInt8)) (bI (s.take bf))).2))])),(12,(.row 78 R.length ((R.map rwE).flatten)))],_,_,_,_,_,_,_,_,_,_,FC Tp 89 [(.ptr 5 0),(pI (((nr+1):Nat):Int))] [(5,(.box 158 [(pI kd),(.own 12),(pI 0),(pI 0),(pI 0)])),(12,(.row 78 R.length ((R.map rwE).flatten)))] 13 (.fn 176 [] [(.ptr 13 0),(.ptr 14 0)]) [(5,(.box 158 [(pI kd),(.own 12),(pI 0),(pI 0),(pI 0)])),(12,(.row 78 R.length ((R.map rwE).flatten))),(13,(.box 156 [(.ptr 5 0)])),(14,(.box 3 [(pI (((nr+1):Nat):Int))]))],_]) (by kernel_rfl) (gc (FMM.fc (ids:=[5,12]) (kG (k:=kd) (l:=(((nr+1):Nat):Int)) (f:=((lsM (aL xl ([32]:List UInt8)) (bI (s.take bf))).1)) (e:=((lsM (aL xl ([32]:List UInt8)) (bI (s.take bf))).2)) (n:=R.length) (cs:=((R.map rwE).flatten)) Ba) (by kernel_rfl)) (gc (fJ Ba) (gc (FMM.fc (ids:=[13,14,5,12]) (bYk (aL xl ([32]:List UInt8)) (bI (s.take bf)) (((nr+1):Nat):Int) kd R Je Jf) (by kernel_rfl)) (gc (fk 15 (jP (s.take bf) h9) rfl) (gc h8 (gc (eJ h7) (gc h6 (gc (bP h5) (gc (aU h4) (Ay h3 (gc (fk 15 (eE xl ([32]:List UInt8) h1 h2) rfl) (gc (FMM.fcN (k:=2) rfl (ids:=[5,12]) (fA (ln:=(((nr+1):Nat):Int)) (k:=kd) (l:=(0:Int)) (f:=(0:Int)) (e:=(0:Int)) (R:=R)) (by kernel_rfl)) (gc h0 gn))))))))))))),by kernel_rfl,(⟨fr 149 [(1,(.ptr 0 0)),(2,(.ptr 1 0)),(3,(.ptr 2 0)),(4,(.ptr 3 0)),(5,(.ptr 4 0)),(6,(.ptr 6 0)),(7,(.ptr 7 0)),(8,(.ptr 8 0)),(9,(.ptr 9 0)),(10,(.ptr 10 0)),(24,(.ptr 5 0)),(26,(.fn 175 [] [(.ptr 11 0)]))],[some (.box 9 [(.p (aD s))]),some (.box 26 [(pI 0),(.p bO)]),some (.box 3 [(pI (((nr+1):Nat):Int))]),some (.box 3 [(pI ((lsM (aL xl ([32]:List UInt8)) (bI (s.take bf))).1))]),some (.box 27 [(pI ((lsM (aL xl ([32]:List UInt8)) (bI (s.take bf))).2))]),some (.box 158 [(pI kd),(.own 12),(pI (((nr+1):Nat):Int)),(pI ((lsM (aL xl ([32]:List UInt8)) (bI (s.take bf))).1)),(pI ((lsM (aL xl ([32]:List UInt8)) (bI (s.take bf))).2))]),some (.box 156 [(.ptr 5 0)]),some (.box 3 [(pI (((nr+1):Nat):Int))]),some (.box 3 [(pI my)]),some (.box 3 [(pI (bf:Int))]),some (.box 4 [(pB true)]),some .dead,some (.row 78 R.length ((R.map rwE).flatten))]⟩:St).t,by kernel_rfl⟩
 exact raw
theorem aPu{s:List UInt8}{R:List (List Cel)}{xl:List UInt8}(h0:inR (((nr+1):Nat):Int))(h1:xl.length<4294967281)(h2:1≤([32]:List UInt8).length)(h3:dn=false)(h4:xb=true)(h5:(((nr+1):Nat):Int)≠1)(h6:inR (my+1))(h7:(my+1)<(((nr+1):Nat):Int))(h8:0≤(0:Int)∧(0:Int)≤(bf:Int)∧(bf:Int)≤(s.length:Int))(h9:(s.take bf).length≤65536)(Je:0<(aL xl ([32]:List UInt8)).length)(Jf:(lsM (aL xl ([32]:List UInt8)) (bI (s.take bf))).2=0)(Ba:inR (((xl.length+1):Nat):Int))(Cn:inR (((bf+(xl.length+1)):Nat):Int))(B1:Dw=(nr+1))(Fy:Gy=(bf+(xl.length+1))):bY Tp 13 12 fI (jX (bS s nr my bf dn kd R.length ((R.map rwE).flatten)) 27 28 11 12 xl xb) .normal (bS s Dw my Gy true kd R.length ((R.map rwE).flatten)).m:=by
 subst B1 Fy
 have raw:bY Tp 13 12 fI (jX (bS s nr my bf dn kd R.length ((R.map rwE).flatten)) 27 28 11 12 xl xb) .normal (bS s (nr+1) my (bf+(xl.length+1)) true kd R.length ((R.map rwE).flatten)).m:=⟨⟨fr 149 [(1,(.ptr 0 0)),(2,(.ptr 1 0)),(3,(.ptr 2 0)),(4,(.ptr 3 0)),(5,(.ptr 4 0)),(6,(.ptr 6 0)),(7,(.ptr 7 0)),(8,(.ptr 8 0)),(9,(.ptr 9 0)),(10,(.ptr 10 0)),(24,(.ptr 5 0)),(26,(.fn 175 [] [(.ptr 11 0)]))],[some (.box 9 [(.p (aD s))]),some (.box 26 [(pI 0),(.p bO)]),some (.box 3 [(pI 0)]),some (.box 3 [(pI 0)]),some (.box 27 [(pI 0)]),some (.box 158 [(pI kd),(.own 12),(pI 0),(pI 0),(pI 0)]),some (.box 156 [(.ptr 5 0)]),some (.box 3 [(pI (((nr+1):Nat):Int))]),some (.box 3 [(pI my)]),some (.box 3 [(pI (((bf+(xl.length+1)):Nat):Int))]),some (.box 4 [(pB true)]),some .dead,some (.row 78 R.length ((R.map rwE).flatten))]⟩,⟨[],[12],[],[]⟩,aA.fin (g:=⟨(rng [(0,1),(11,13),(25,1),(27,109),(142,1)]),[],[],[(110000,0)]⟩) (o:=[.c (.fn 176 [] [(.ptr 13 0),(.ptr 14 0)]) [(5,(.box 158 [(pI kd),(.own 12),(pI 0),(pI 0),(pI 0)])),(12,(.row 78 R.length ((R.map rwE).flatten))),(13,(.box 156 [(.ptr 5 0)])),(14,(.box 3 [(pI (((nr+1):Nat):Int))]))],.c (.p (.sl ((aL xl ([32]:List UInt8)).length) (((aL xl ([32]:List UInt8)).map stE).flatten))) [],bF,bF,bF,bF,bF,bF,.c (.tup [(pI (bI (s.take bf))),(pI 0)]) [],.c (.tup []) [(13,(.box 156 [(.ptr 5 0)])),(14,(.box 3 [(pI (((nr+1):Nat):Int))])),(5,(.box 158 [(pI kd),(.own 12),(pI 0),(pI 0),(pI 0)])),(12,(.row 78 R.length ((R.map rwE).flatten)))],bF]) (l:=[_,_,_,FC Tp 93 [(.p (.sl ((aL xl ([32]:List UInt8)).length) (((aL xl ([32]:List UInt8)).map stE).flatten))),(pI (bI (s.take bf))),(.fn 176 [] [(.ptr 13 0),(.ptr 14 0)])] [(13,(.box 156 [(.ptr 5 0)])),(14,(.box 3 [(pI (((nr+1):Nat):Int))])),(5,(.box 158 [(pI kd),(.own 12),(pI 0),(pI 0),(pI 0)])),(12,(.row 78 R.length ((R.map rwE).flatten)))] 15 (.tup []) [(13,(.box 156 [(.ptr 5 0)])),(14,(.box 3 [(pI (((nr+1):Nat):Int))])),(5,(.box 158 [(pI kd),(.own 12),(pI 0),(pI 0),(pI 0)])),(12,(.row 78 R.length ((R.map rwE).flatten)))],_,_,_,_,_,_,_,_,_,_,FC Tp 89 [(.ptr 5 0),(pI (((nr+1):Nat):Int))] [(5,(.box 158 [(pI kd),(.own 12),(pI 0),(pI 0),(pI 0)])),(12,(.row 78 R.length ((R.map rwE).flatten)))] 13 (.fn 176 [] [(.ptr 13 0),(.ptr 14 0)]) [(5,(.box 158 [(pI kd),(.own 12),(pI 0),(pI 0),(pI 0)])),(12,(.row 78 R.length ((R.map rwE).flatten))),(13,(.box 156 [(.ptr 5 0)])),(14,(.box 3 [(pI (((nr+1):Nat):Int))]))],_]) (by kernel_rfl) (gc Cn (gc Ba (gc aSr (gc (FMM.fc (ids:=[13,14,5,12]) (bYl (aL xl ([32]:List UInt8)) (bI (s.take bf)) (((nr+1):Nat):Int) kd R Je Jf) (by kernel_rfl)) (gc (fk 15 (jP (s.take bf) h9) rfl) (gc h8 (gc (eJ h7) (gc h6 (gc (bP h5) (gc (aU h4) (Ay h3 (gc (fk 15 (eE xl ([32]:List UInt8) h1 h2) rfl) (gc (FMM.fcN (k:=2) rfl (ids:=[5,12]) (fA (ln:=(((nr+1):Nat):Int)) (k:=kd) (l:=(0:Int)) (f:=(0:Int)) (e:=(0:Int)) (R:=R)) (by kernel_rfl)) (gc h0 gn)))))))))))))),by kernel_rfl,(⟨fr 149 [(1,(.ptr 0 0)),(2,(.ptr 1 0)),(3,(.ptr 2 0)),(4,(.ptr 3 0)),(5,(.ptr 4 0)),(6,(.ptr 6 0)),(7,(.ptr 7 0)),(8,(.ptr 8 0)),(9,(.ptr 9 0)),(10,(.ptr 10 0)),(24,(.ptr 5 0)),(26,(.fn 175 [] [(.ptr 11 0)]))],[some (.box 9 [(.p (aD s))]),some (.box 26 [(pI 0),(.p bO)]),some (.box 3 [(pI 0)]),some (.box 3 [(pI 0)]),some (.box 27 [(pI 0)]),some (.box 158 [(pI kd),(.own 12),(pI 0),(pI 0),(pI 0)]),some (.box 156 [(.ptr 5 0)]),some (.box 3 [(pI (((nr+1):Nat):Int))]),some (.box 3 [(pI my)]),some (.box 3 [(pI (((bf+(xl.length+1)):Nat):Int))]),some (.box 4 [(pB true)]),some .dead,some (.row 78 R.length ((R.map rwE).flatten))]⟩:St).t,by kernel_rfl⟩
 exact raw
end
end KV
end Go.Proofs
section
namespace Go.Proofs
open Go.RowKit
namespace KV
open Tryz
theorem aEs(sep:List UInt8):∀ (k:Nat) (s u:List UInt8),u∈Lib.splitK sep 0 k s→u.length≤s.length
 | 0,s,u,h=>by
  rw [Lib.splitK,List.mem_singleton] at h
  subst h;exact Bb _
 | k+1,s,u,h=>by
  rw [Lib.splitK] at h
  split at h
  ·rw [List.mem_singleton] at h
   subst h;exact Bb _
  ·rcases kD.1 h with rfl | h
   ·rw [vV];omega
   ·have:=aEs sep k _ u h
    rw [xV] at this
    omega
theorem bOi{s sep u:List UInt8}(h:u∈aL s sep):u.length≤s.length:=aEs _ _ _ _ h
theorem aPq(sep:List UInt8):∀ (k:Nat) (s:List UInt8),0<(Lib.splitK sep 0 k s).length
 | 0,s=>by simp [Lib.splitK]
 | k+1,s=>by rw [Lib.splitK];split <;> simp
theorem aLc(s sep:List UInt8):0<(aL s sep).length:=aPq _ _ _
theorem rN:∀ (ts:List Int) (us:List (List UInt8)) (i:Nat) (cs:List Cel),rdL ts us i = .inl cs→cs.length=ts.length
 | [],us,i,cs,h=>by cases h;rfl
 | t::ts,[],i,cs,h=>by cases h
 | t::ts,u::us,i,cs,h=>by
  unfold rdL at h
  split at h
  ·cases h
  ·split at h
   ·rename_i Bh h2
    cases h;rw [eY,eY,rN ts us (i+1) Bh h2]
   ·cases h
theorem aHh:∀ (ts:List Int) (us:List (List UInt8)) (i:Nat) (p:Int × Int),rdL ts us i = .inr p→p.2≠0
 | [],us,i,p,h=>by cases h
 | t::ts,[],i,p,h=>by cases h;exact (by decide:(11:Int)≠0)
 | t::ts,u::us,i,p,h=>by
  unfold rdL at h
  split at h
  ·cases h;assumption
  ·split at h
   ·cases h
   ·rename_i p' h2
    cases h;exact aHh ts us (i+1) p h2
theorem bYh(fs:List (List UInt8)):0≤(hdM fs).2.1∧(hdM fs).2.1≤200:=by
 have h:=lZ (fld fs 2) 200 (by decide)
 unfold hdM
 repeat' split
 all_goals dsimp only
 all_goals first | omega | exact ⟨h.1,h.2.1⟩
theorem aBe(a b c d e f:Int):Ev a b c d e f = -1∨Ev a b c d e f=0∨Ev a b c d e f=1:=by
 have h:∀ a b:Int,jJ a b = -1∨jJ a b=0∨jJ a b=1:=fun a b=>by
  unfold jJ
  repeat' split
  all_goals simp
 unfold Ev
 repeat' split
 all_goals exact h _ _
structure PS where
 nr:Nat
 my:Int
 bf:Nat
 dn:Bool
 kd:Int
 R:List (List Cel)
def prF(s:List UInt8)(a:PS)(x:List UInt8 × Bool):Except (PS × Int × Int × Int) PS :=
 if a.dn=true∨x.2=false then .error ({ a with nr:=a.nr+1 },((a.nr+1:Nat):Int),1,11)
 else if a.nr=0 then
  (if (hdM (aL x.1 [32])).2.2.2≠0 then .error ({ a with nr:=a.nr+1,my:=(hdM (aL x.1 [32])).2.1,kd:=Dl (hdM (aL x.1 [32])).1 },((a.nr+1:Nat):Int),(hdM (aL x.1 [32])).2.2.1,(hdM (aL x.1 [32])).2.2.2)
  else .ok { a with nr:=a.nr+1,my:=(hdM (aL x.1 [32])).2.1,kd:=Dl (hdM (aL x.1 [32])).1,bf:=a.bf+(x.1.length+1) })
 else if ((a.nr+1:Nat):Int)≤a.my+1 then
  match rdL (aJ a.kd) (aL x.1 [32]) 0 with
  | .inr p => .error ({ a with nr:=a.nr+1 },((a.nr+1:Nat):Int),p.1,p.2)
  | .inl cs =>
   if (aL x.1 [32]).length≠(aJ a.kd).length then .error ({ a with nr:=a.nr+1 },((a.nr+1:Nat):Int),(((aJ a.kd).length+1:Nat):Int),11)
   else match a.R.getLast? with
    | none => .ok { a with nr:=a.nr+1,R:=a.R++[cs],bf:=a.bf+(x.1.length+1) }
    | some c =>
     if bU a.kd c cs = -1 then .ok { a with nr:=a.nr+1,R:=a.R++[cs],bf:=a.bf+(x.1.length+1) }
     else .error ({ a with nr:=a.nr+1,R:=a.R++[cs] },((a.nr+1:Nat):Int),1,if bU a.kd c cs=0 then 5 else 4)
 else if (lsM (aL x.1 [32]) (bI (s.take a.bf))).2≠0 then .error ({ a with nr:=a.nr+1,dn:=true },((a.nr+1:Nat):Int),(lsM (aL x.1 [32]) (bI (s.take a.bf))).1,(lsM (aL x.1 [32]) (bI (s.take a.bf))).2)
 else .ok { a with nr:=a.nr+1,dn:=true,bf:=a.bf+(x.1.length+1) }
def prA:PS:=⟨0,0,0,false,0,[]⟩
def prM(s:List UInt8):Int × List (List Cel) × Int × Int × Int :=
 if 65536<s.length then (0,[],0,0,10) else match itB (prF s) prA (bW s) with
  | .error e=>(0,[],e.2.1,e.2.2.1,e.2.2.2)
  | .ok a=>if a.dn=true then (a.kd,a.R,0,0,0) else (0,[],((a.nr+1:Nat):Int),1,11)
structure aLd (pre:List (List UInt8 × Bool)) (a:PS):Prop where
 nr:a.nr=pre.length
 bf:a.bf=uZ pre
 ended:∀ y∈pre,y.2=true
 my:0≤a.my∧a.my≤200
 R:∀ r∈a.R,r.length=(aJ a.kd).length
 Rn:a.R.length≤a.nr
theorem aEt{s:List UInt8}{pre:List (List UInt8 × Bool)}{a a2:PS}{x:List UInt8 × Bool}(h:aLd pre a)(hf:prF s a x = .ok a2):aLd (pre++[x]) a2:=by
 obtain ⟨h1,h2,h3,h4,h5,h6⟩:=h;unfold prF at hf
 split at hf
 ·cases hf
 ·rename_i hc
  have hx:x.2=true:=by
   cases hx:x.2 with
   | true=>rfl
   | false=>exact absurd (.inr hx) hc
  have he:∀ y∈pre++[x],y.2=true:=fun y hy=>by
   rcases oG.1 hy with hy | hy
   ·exact h3 y hy
   ·rw [List.mem_singleton] at hy;subst hy;exact hx
  have hb:a.bf+(x.1.length+1)=uZ (pre++[x]):=by rw [aEn,h2]
  have hn:a.nr+1=(pre++[x]).length:=by rw [B4,h1];rfl
  split at hf
  ·rename_i h0
   split at hf
   ·cases hf
   ·cases hf
    have hR:a.R=[]:=pA (by omega)
    refine ⟨hn,hb,he,bYh _,?_,?_⟩
    ·intro r hr
     have Du:r∈a.R:=hr;rw [hR] at Du
     cases Du
    ·show a.R.length≤a.nr+1
     omega
  ·split at hf
   ·split at hf
    ·cases hf
    ·rename_i cs hcs
     have hl:=rN _ _ _ _ hcs;have hR:∀ r∈a.R++[cs],r.length=(aJ a.kd).length:=fun r hr=>by
      rcases oG.1 hr with hr | hr
      ·exact h5 r hr
      ·rw [List.mem_singleton] at hr;subst hr;exact hl
     split at hf
     ·cases hf
     ·split at hf
      ·cases hf
       exact ⟨hn,hb,he,h4,hR,by show (a.R++[cs]).length≤a.nr+1;rw [B4,List.length_singleton];omega⟩
      ·split at hf
       ·cases hf
        exact ⟨hn,hb,he,h4,hR,by show (a.R++[cs]).length≤a.nr+1;rw [B4,List.length_singleton];omega⟩
       ·cases hf
   ·split at hf
    ·cases hf
    ·cases hf
     exact ⟨hn,hb,he,h4,h5,by show a.R.length≤a.nr+1;omega⟩
theorem nO{s:List UInt8}:∀ (l pre:List (List UInt8 × Bool)) (a a2:PS),aLd pre a→itB (prF s) a l = .ok a2→aLd (pre++l) a2
 | [],pre,a,a2,h,hi=>by cases hi;rw [List.append_nil];exact h
 | x::l,pre,a,a2,h,hi=>by
  cases hf:prF s a x with
  | error e=>simp only [itB,hf] at hi;cases hi
  | ok a' =>
   simp only [itB,hf] at hi
   have:=nO l (pre++[x]) a' a2 (aEt h hf) hi;rw [List.append_assoc] at this
   exact this
theorem wH:aLd [] prA:=⟨rfl,rfl,fun y h=>(by simp at h),(by decide),fun r h=>(by cases h),Bb _⟩
abbrev prS(s:List UInt8)(a:PS):St:=bS s a.nr a.my a.bf a.dn a.kd a.R.length ((a.R.map rwE).flatten)
abbrev prR(s:List UInt8)(e:PS × Int × Int × Int):St:=bX (bX (bX (bX (prS s e.1) 5 (some (.box 158 [.p (aB e.1.kd),.own 12,.p (aB e.2.1),.p (aB e.2.2.1),.p (aB e.2.2.2)]))) 2 (some (.box 3 [.p (aB e.2.1)]))) 3 (some (.box 3 [.p (aB e.2.2.1)]))) 4 (some (.box 27 [.p (aB e.2.2.2)]))
theorem aSq(r:List Cel):iQ (rwE r)=true:=by
 show (iQ (r.map cE).flatten && true)=true;have:∀ l:List Cel,iQ (l.map cE).flatten=true:=fun l=>by
  induction l with
  | nil=>rfl
  | cons c l ih=>exact ih
 rw [this];rfl
theorem aLe:∀ {l m:List PV},iQ l=true→iQ m=true→iQ (l++m)=true
 | [],_,_,h=>h
 | x::l,m,h,h2=>by
  rw [iQ,Bv] at h
  rw [List.cons_append,iQ,h.1,aLe h.2 h2];rfl
theorem qL:∀ R:List (List Cel),iQ (R.map rwE).flatten=true
 | []=>rfl
 | r::R=>by rw [eZ,vU];exact aLe (aSq r) (qL R)
theorem nP(R:List (List Cel))(c:List Cel):((R++[c]).map rwE).flatten=(R.map rwE).flatten++[PV.sl c.length ((c.map cE).flatten)]:=by simp [rwE,aN]
theorem aZv{s:List UInt8}(hs:s.length≤65536){pre:List (List UInt8 × Bool)}{x:List UInt8 × Bool}{a:PS}(hp:pre++[x] <+: bW s)(h:aLd pre a) :
  (∀ a',prF s a x = .ok a'→bY Tp 13 12 (sub (cd Tryz.f15) [1,1,1,1,0,1,0,1]) (jX (prS s a) 27 28 11 12 x.1 x.2) .normal (prS s a').m) ∧
  (∀ e,prF s a x = .error e→bY Tp 13 12 (sub (cd Tryz.f15) [1,1,1,1,0,1,0,1]) (jX (prS s a) 27 28 11 12 x.1 x.2) .ret (prR s e).m):=by
 obtain ⟨xl,xb⟩:=x;obtain ⟨nr,my,bf,dn,kd,R⟩:=a;obtain ⟨h1,h2,h3,h4,h5,h6⟩:=h;dsimp only at h1 h2 h3 h4 h5 h6
 have hfar:=aEo pre (xl,xb) s hp h3;dsimp only at hfar
 have hfg:=aSo pre;have i1:inR (((nr+1:Nat)):Int):=aV (by omega)
 have i2:inR (((xl.length+1:Nat)):Int):=aV (by omega)
 have i3:inR (((bf+(xl.length+1):Nat)):Int):=aV (by omega)
 have i4:inR (my+1):=by unfold inR;omega
 have Gk:xl.length<4294967281:=by omega
 have Fc:1≤([32]:List UInt8).length:=by decide
 have hf:∀ u∈aL xl [32],u.length≤90000:=fun u hu=>by have:=bOi hu;omega
 unfold prF;dsimp only
 by_cases hd:dn=true
 ·rw [if_pos (.inl hd)]
  refine ⟨fun _ h=>(by cases h),fun _ h => ?_⟩
  cases h;exact aZw i1 Gk Fc hd rfl
 ·have Gd:dn=false:=by simpa using hd
  by_cases hb:xb=false
  ·rw [if_pos (.inr hb)]
   refine ⟨fun _ h=>(by cases h),fun _ h => ?_⟩
   cases h;exact aZx i1 Gk Fc Gd hb rfl
  ·have Ap:xb=true:=by simpa using hb
   rw [if_neg (by simp [Gd,Ap])]
   by_cases h0:nr=0
   ·rw [if_pos h0]
    have z1:(((nr+1:Nat)):Int)=(1:Int):=by omega
    by_cases he:(hdM (aL xl [32])).2.2.2=0
    ·rw [if_neg (by simp [he])]
     refine ⟨fun _ h => ?_,fun _ h=>(by cases h)⟩
     cases h;exact aZz i1 Gk Fc Gd Ap z1 he i2 i3 rfl rfl rfl rfl
    ·rw [if_pos he]
     refine ⟨fun _ h=>(by cases h),fun _ h => ?_⟩
     cases h;exact aZy i1 Gk Fc Gd Ap z1 he he rfl rfl rfl
   ·rw [if_neg h0]
    have z2:(((nr+1:Nat)):Int)≠(1:Int):=by omega
    by_cases hm:(((nr+1:Nat)):Int)≤my+1
    ·rw [if_pos hm]
     cases hr:rdL (aJ kd) (aL xl [32]) 0 with
     | inr p =>
      obtain ⟨fd,er⟩:=p;refine ⟨fun _ h=>(by cases h),fun _ h => ?_⟩
      cases h;exact aPs i1 Gk Fc Gd Ap z2 i4 hm hf hr (aHh _ _ _ _ hr) rfl
     | inl cs =>
      have hl:=rN _ _ _ _ hr;dsimp only
      by_cases hfl:(aL xl [32]).length=(aJ kd).length
      ·rw [if_neg (by simp [hfl])]
       have hkc:aO kd≤(cs.length:Int):=by rw [hl];exact uQ kd
       cases hg:R.getLast? with
       | none =>
        have hR:R=[]:=List.getLast?_eq_none_iff.1 hg;refine ⟨fun _ h => ?_,fun _ h=>(by cases h)⟩
        cases h;subst hR;exact bAd i1 Gk Fc Gd Ap z2 i4 hm hf hr hfl (by simp) (by simp) i2 i3 rfl rfl rfl (by simp [rwE,aN])
       | some c =>
        have hRn:0<R.length:=by
         cases R with
         | nil=>simp at hg
         | cons y l=>simp
        have hc:R[R.length-1]? = some c:=by rw [List.getLast?_eq_getElem?] at hg;exact hg
        have hat:R[((R.length:Int)-(1:Int)).toNat]? = some c:=by
         rw [show ((R.length:Int)-(1:Int)).toNat=R.length-1 by omega];exact hc
        have hkl:aO kd≤(c.length:Int):=by rw [h5 c (Cj hc)];exact uQ kd
        have i5:inR ((R.length:Int)-(1:Int)):=by unfold inR;omega
        have z3:(0:Int)<(R.length:Int):=by omega
        have z4:0≤((R.length:Int)-(1:Int))∧((R.length:Int)-(1:Int))<(R.length:Int):=by omega
        have hap:[(PV.sl cs.length ((cs.map cE).flatten))].length=1*1∧R.length+1≤1000000:=⟨rfl,by omega⟩
        dsimp only
        rcases aBe (aK kd c 0) (aK kd c 1) (aK kd c 2) (aK kd cs 0) (aK kd cs 1) (aK kd cs 2) with hk | hk | hk
        ·have Gb:bU kd c cs = -1:=hk
         rw [if_pos Gb];refine ⟨fun _ h => ?_,fun _ h=>(by cases h)⟩
         cases h;exact bAa i1 Gk Fc Gd Ap z2 i4 hm hf hr hfl z3 i5 z4 hat hkl hkc Gb hap i2 i3 rfl rfl (by simp) (nP R cs)
        ·have Gb:bU kd c cs=0:=hk
         rw [if_neg (by rw [Gb];decide),if_pos Gb]
         refine ⟨fun _ h=>(by cases h),fun _ h => ?_⟩
         cases h;exact bAb i1 Gk Fc Gd Ap z2 i4 hm hf hr hfl z3 i5 z4 hat hkl hkc Gb hap rfl (by simp) (nP R cs)
        ·have Gb:bU kd c cs=1:=hk
         rw [if_neg (by rw [Gb];decide),if_neg (by rw [Gb];decide)]
         refine ⟨fun _ h=>(by cases h),fun _ h => ?_⟩
         cases h;exact bAc i1 Gk Fc Gd Ap z2 i4 hm hf hr hfl z3 i5 z4 hat hkl hkc Gb hap rfl (by simp) (nP R cs)
      ·rw [if_pos hfl]
       refine ⟨fun _ h=>(by cases h),fun _ h => ?_⟩
       cases h;exact bAe i1 Gk Fc Gd Ap z2 i4 hm hf hr hfl rfl
    ·rw [if_neg hm]
     have z5:(my+(1:Int))<(((nr+1:Nat)):Int):=by omega
     have z6:0≤(0:Int)∧(0:Int)≤(bf:Int)∧(bf:Int)≤(s.length:Int):=by omega
     have hbf:(bf:Int)≤(s.length:Int):=by omega
     have htk:(s.take bf).length≤65536:=by rw [vV];omega
     by_cases hz:(lsM (aL xl [32]) (bI (s.take bf))).2=0
     ·rw [if_neg (by simp [hz])]
      refine ⟨fun _ h => ?_,fun _ h=>(by cases h)⟩
      cases h;exact aPu i1 Gk Fc Gd Ap z2 i4 z5 z6 htk (aLc _ _) hz i2 i3 rfl rfl
     ·rw [if_pos hz]
      refine ⟨fun _ h=>(by cases h),fun _ h => ?_⟩
      cases h;exact aPt i1 Gk Fc Gd Ap z2 i4 z5 z6 htk (aLc _ _) hz hz rfl
theorem bIb{s:List UInt8}(hs:s.length≤65536) :
  (∀ a,itB (prF s) prA (bW s) = .ok a→aA Tp 0 (sub (cd Tryz.f15) [1,1,1,1,0,1,0]) (qO s) .normal (prS s a))∧(∀ e,itB (prF s) prA (bW s) = .error e→aA Tp 0 (sub (cd Tryz.f15) [1,1,1,1,0,1,0]) (qO s) .ret (prR s e)):=by
 refine aBd (k:=0) (kb:=13) (kk:=12) (gi:=26) (p1:=27) (p2:=28) (bx:=11) (g0:=⟨[],[12],[],[(105001,78),(110000,0)]⟩) s (by omega) (qO s) (prS s) (prR s) (qO s).t (prF s) prA
  (s2T 27 28 11 12) (Jb 27 28 11 12) (asg := .seq (aPv 6 27 11 9 "read.go:128") (aPv 7 28 12 4 "read.go:128")) (body := sub (cd Tryz.f15) [1, 1, 1, 1, 0, 1, 0, 1]) (by kernel_rfl) rfl rfl rfl (by show 12 ≤ 12; omega) ⟨(qO s).t, by kernel_rfl⟩ (fun _ => rfl) (fun _ => rfl)
  (fun a => .no (by rfl)) (fun e => .no (by rfl)) (fun a=>(eR (by rfl)).2) (fun e=>(eR (by rfl)).2) (eR (by rfl)).2 (fun a => ?_) (fun e => ?_) (fun a=>by show 13≤13;omega) (by kernel_rfl)
  (fun a x l K W h=>Nk a x l K W h) (fun a x C M W h=>bOj (fun _=>rfl) (fun _=>rfl) a x h) (fun _ _=>rfl) (fun pre x a hp hi=>aZv hs hp (by have:=nO pre [] prA a wH hi;exact this))
 ·show (iQ (a.R.map rwE).flatten && true)=true
  rw [qL];rfl
 ·show (iQ (e.1.R.map rwE).flatten && true)=true
  rw [qL];rfl
theorem wI(s:List UInt8){base:Nat}:FV Tp 15 [.p (aD s)] base (.tup [.p (.agg [aB (prM s).1,cD (prM s).2.1]),.p (aB (prM s).2.2.1),.p (aB (prM s).2.2.2.1),.p (aB (prM s).2.2.2.2)]) []:=by
 refine FV.frz ?_ (by rfl)
 unfold prM
 by_cases hs:65536<s.length
 ·rw [if_pos hs]
  exact FMM.wk (bYm (by omega)) rfl
 ·rw [if_neg hs]
  have hL:=bIb (s:=s) (by omega)
  cases hi:itB (prF s) prA (bW s) with
  | error e =>
   exact FMM.wk (bYp (by omega) (hL.2 e hi)) rfl
  | ok a =>
   have hok:=nO (bW s) [] prA a wH hi;have hnr:a.nr≤65536:=by
    have h1:=hok.nr;rw [List.nil_append] at h1
    have:=tC _ s (Bb _);omega
   dsimp only
   by_cases hd:a.dn=true
   ·rw [if_pos hd]
    have:=bYo (s:=s) (by omega) (hL.1 a hi) hd
    rw [fH] at this
    exact this
   ·rw [if_neg hd]
    exact FMM.wk (bYn (by omega) (hL.1 a hi) (by simpa using hd) (aV (by omega)) rfl) rfl
end KV
end Go.Proofs
end
section
namespace Go.Proofs
open Go.RowKit
namespace KV
open Tryz
theorem qG(a sep:List UInt8):Lib.join [a] sep=a:=by simp [Lib.join,List.intercalate]
theorem uV:∀ (fs:List (List UInt8)),fs≠[]→(∀ u∈fs,Cln u)→spB (Lib.join fs [32])=fs
 | [],h,_=>absurd rfl h
 | [a],_,h=>by
  rw [qG];exact (aHg a fun b hb=>(h a (iK ..) b hb).1).1
 | a::b::r,_,h=>by
  rw [gP,List.append_assoc];rw [show a++([32]++Lib.join (b::r) [32])=a++32::Lib.join (b::r) [32] from rfl]
  rw [(aHg a fun c hc=>(h a (iK ..) c hc).1).2,uV (b::r) (by simp) (fun u hu=>h u (Ci _ hu))]
theorem uW:∀ s:List UInt8,Lib.join (spB s) [32]=s
 | []=>by rw [spB,qG]
 | c::r=>by
  have ih:=uW r;obtain ⟨f,fs,he⟩:∃ f fs,spB r=f::fs:=by
   cases e:spB r with
   | nil=>exact absurd e (bYf r)
   | cons f fs=>exact ⟨f,fs,rfl⟩
  rw [spB];rw [he] at ih ⊢
  by_cases h:c=32
  ·subst h
   rw [if_pos rfl,gP,ih];rfl
  ·rw [if_neg h]
   dsimp only;cases fs with
   | nil=>rw [qG] at ih ⊢;rw [ih]
   | cons g gs=>rw [gP] at ih ⊢;rw [← ih];rfl
theorem nK:∀ (fs:List (List UInt8)),(∀ u∈fs,Cln u)→∀ b∈Lib.join fs [32],b≠10
 | [],_,b,hb=>by simp [Lib.join,List.intercalate] at hb
 | [a],h,b,hb=>by rw [qG] at hb;exact (h a (iK ..) b hb).2
 | a::c::r,h,b,hb=>by
  rw [gP] at hb
  rcases oG.1 hb with hb | hb
  ·rcases oG.1 hb with hb | hb
   ·exact (h a (iK ..) b hb).2
   ·rw [List.mem_singleton] at hb;subst hb;decide
  ·exact nK (c::r) (fun u hu=>h u (Ci _ hu)) b hb
def txL(ls:List (List UInt8)):List UInt8:=(ls.map (· ++ [10])).flatten
theorem gJ(l:List UInt8)(ls:List (List UInt8)):txL (l::ls)=l++10::txL ls:=by simp [txL]
theorem rK(a b:List (List UInt8)):txL (a++b)=txL a++txL b:=by simp [txL]
theorem aKr:∀ ls:List (List UInt8),(∀ l∈ls,∀ b∈l,b≠10)→bW (txL ls)=ls.map (fun l=>(l,true))
 | [],_=>rfl
 | l::ls,h=>by
  rw [gJ,eO (by simp),qC (fun q=>h l (iK ..) 10 q rfl)]
  rw [eZ,aKr ls fun l' hl=>h l' (Ci _ hl)]
theorem aPk:∀ ls:List (List UInt8),uZ (ls.map (fun l=>(l,true)))=(txL ls).length
 | []=>rfl
 | l::ls=>by
  rw [eZ,uZ,aPk ls,gJ];simp;omega
theorem aKs:∀ (k:Nat) (s:List UInt8),s.length≤k→(∀ y∈bW s,y.2=true)→txL ((bW s).map (·.1))=s
 | 0,s,h,_=>by
  have:s=[]:=pA (by omega)
  subst this;rfl
 | k+1,s,h,hy=>by
  by_cases hs:s=[]
  ·subst hs;rfl
  ·have hlt:=tB (s:=s) (x:=[10]) hs (by simp)
   rw [eO hs] at hy ⊢
   have ht:=hy ((Lib.cut s [10]).1,(Lib.cut s [10]).2.2) (iK ..);have ih:=aKs k (Lib.cut s [10]).2.1 (by omega) (fun y h=>hy y (Ci _ h))
   rw [eZ,gJ,ih]
   rcases (bHw s).1 with ⟨_,h3⟩ | ⟨h3,_⟩
   ·exact h3.symm
   ·rw [h3] at ht;cases ht
def uX(k:Int)(x:List Cel):List UInt8:=Lib.join (fQ k x) [32]
def lG(k n:Int):List UInt8:=Lib.join [[107,108,105,115,116,101,114],iT k,Lib.itoa n] [32]
def iR(v:Int):List UInt8:=Lib.join [[115,117,109],Lib.itoa v] [32]
structure aAw (k:Int) (x:List Cel):Prop where
 len:x.length=(aJ k).length
 ck:∀ (j:Nat) t c,(aJ k)[j]? = some t→x[j]? = some c→ckM t c=0
theorem bHo:∀ (ts:List Int) (x:List Cel) (i:Nat),x.length=ts.length→(∀ t∈ts,t=0∨t=1∨t=2∨t=3)→(∀ (j:Nat) t c,ts[j]? = some t→x[j]? = some c→ckM t c=0)→rdL ts (List.zipWith wrM ts x) i = .inl x
 | [],[],i,_,_,_=>rfl
 | [],_::_,i,h,_,_=>by simp at h
 | _::_,[],i,h,_,_=>by simp at h
 | t::ts,c::x,i,h,ht,hc=>by
  have h0:=cCn (ht t (iK ..)) (hc 0 t c rfl rfl);have ih:=bHo ts x (i+1) (by simpa using h) (fun t h=>ht t (Ci _ h)) (fun j t c h1 h2=>hc (j+1) t c h1 h2)
  rw [List.zipWith_cons_cons,rdL,h0,if_neg (by simp),ih]
theorem bHp:∀ (ts:List Int) (us:List (List UInt8)) (i:Nat) (x:List Cel),(∀ t∈ts,t=0∨t=1∨t=2∨t=3)→us.length=ts.length→rdL ts us i = .inl x→List.zipWith wrM ts x=us∧(∀ (j:Nat) t c,ts[j]? = some t→x[j]? = some c→ckM t c=0)
 | [],us,i,x,_,hl,h=>by
  cases h;have:us=[]:=pA (by simpa using hl)
  subst this;exact ⟨rfl,fun j t c h=>by simp at h⟩
 | t::ts,[],i,x,_,hl,h=>by cases h
 | t::ts,u::us,i,x,ht,hl,h=>by
  unfold rdL at h
  split at h
  ·cases h
  ·rename_i hz
   split at h
   ·rename_i cs h2
    cases h;obtain ⟨q1,q2⟩:=bHp ts us (i+1) cs (fun t h=>ht t (Ci _ h)) (by simpa using hl) h2
    have hq:rdM t u=((rdM t u).1,0):=Prod.ext rfl (by simpa using hz)
    obtain ⟨p1,p2⟩:=cCo (ht t (iK ..)) hq;refine ⟨by rw [List.zipWith_cons_cons,p1,q1],fun j t' c h1 h2 => ?_⟩
    cases j with
    | zero=>cases h1;cases h2;exact p2
    | succ j=>exact q2 j t' c h1 h2
   ·cases h
theorem aKt(k:Int):∀ t∈aJ k,t=0∨t=1∨t=2∨t=3:=fun t h=>by
 obtain ⟨j,hj⟩:=List.mem_iff_getElem?.1 h;exact iP hj
theorem aKu{k:Int}{x:List Cel}(h:aAw k x):∀ u∈fQ k x,Cln u:=fun u hu=>by
 obtain ⟨j,t,c,h1,h2,rfl⟩:=aRw hu;exact bYe (iP h1) (h.ck j t c h1 h2)
theorem aAx(k:Int):0<(aJ k).length:=by
 unfold aJ
 repeat' split
 all_goals decide
theorem aSn{k:Int}{x:List Cel}(h:aAw k x):(fQ k x).length=(aJ k).length:=by
 unfold fQ;rw [List.length_zipWith,h.len,Nat.min_self]
theorem bHq{k:Int}{x:List Cel}(h:aAw k x)(i:Nat):spB (uX k x)=fQ k x∧rdL (aJ k) (fQ k x) i = .inl x:=by
 have hp:=aAx k;have hl:=aSn h;exact ⟨uV _ (fun e=>by rw [e] at hl;simp at hl;omega) (aKu h),bHo _ _ _ h.len (aKt k) h.ck⟩
theorem aZn{k:Int}{u:List UInt8}{x:List Cel}{i:Nat}(hl:(spB u).length=(aJ k).length)(h:rdL (aJ k) (spB u) i = .inl x):aAw k x∧u=uX k x:=by
 obtain ⟨q1,q2⟩:=bHp _ _ _ _ (aKt k) hl h;refine ⟨⟨rN _ _ _ _ h,q2⟩,?_⟩;have:uX k x=Lib.join (spB u) [32]:=by unfold uX fQ;rw [q1]
 rw [this,uW]
theorem bHr(k:Int):Cln (iT k):=by
 have:(iT k).all isl=true:=by
  unfold iT
  repeat' split
  all_goals decide
 exact oK this (by decide) (by decide)
theorem aZo{k:Int}(h:within k 0 4=true):dU (iT k)=k:=by
 have:=cK.1 h;have:k=0∨k=1∨k=2∨k=3∨k=4:=by omega
 rcases this with rfl | rfl | rfl | rfl | rfl
 all_goals decide
theorem bOe{u:List UInt8}(h:¬ dU u<0):within (dU u) 0 4=true∧iT (dU u)=u:=by
 unfold dU at h ⊢
 by_cases h0:u=([115,116,97,114,116,115]:List UInt8)
 ·subst h0;decide
 ·rw [if_neg h0] at h ⊢
  by_cases h1:u=([112,97,115,115,101,115]:List UInt8)
  ·subst h1;decide
  ·rw [if_neg h1] at h ⊢
   by_cases h2:u=([116,97,114,103,101,116,115]:List UInt8)
   ·subst h2;decide
   ·rw [if_neg h2] at h ⊢
    by_cases h3:u=([106,117,100,103,101,109,101,110,116,115]:List UInt8)
    ·subst h3;decide
    ·rw [if_neg h3] at h ⊢
     by_cases h4:u=([99,117,112,115]:List UInt8)
     ·subst h4;decide
     ·rw [if_neg h4] at h
      exact absurd (by decide) h
theorem bYb:Cln [107,108,105,115,116,101,114]:=oK (p:=isl) (by decide) (by decide) (by decide)
theorem bYc:Cln [115,117,109]:=oK (p:=isl) (by decide) (by decide) (by decide)
theorem aKv{k n:Int}(h:0≤n):∀ u∈[[107,108,105,115,116,101,114],iT k,Lib.itoa n],Cln u:=fun u hu=>by
 simp only [kD,List.mem_nil_iff,or_false] at hu
 rcases hu with rfl | rfl | rfl
 ·exact bYb
 ·exact bHr k
 ·exact aAz h
theorem aGz{v:Int}(h:0≤v):∀ u∈[[115,117,109],Lib.itoa v],Cln u:=fun u hu=>by
 simp only [kD,List.mem_nil_iff,or_false] at hu
 rcases hu with rfl | rfl
 ·exact bYc
 ·exact aAz h
theorem bHs{k:Int}(h:within k 0 4=true):Dl k=k:=by
 have:=cK.1 h;unfold Dl;split <;> omega
theorem aZp{k n:Int}(hk:within k 0 4=true)(h0:0≤n)(h:n≤200):hdM (spB (lG k n))=(k,n,0,0):=by
 unfold lG;rw [uV _ (by simp) (aKv h0)]
 have e1:fld [[107,108,105,115,116,101,114],iT k,Lib.itoa n] 0=[107,108,105,115,116,101,114]:=rfl;have e2:fld [[107,108,105,115,116,101,114],iT k,Lib.itoa n] 1=iT k:=rfl;have e3:fld [[107,108,105,115,116,101,114],iT k,Lib.itoa n] 2=Lib.itoa n:=rfl;have hb:=cK.1 hk;unfold hdM;rw [e1,e2,e3,aZo hk,aAy h0 h,if_neg (by simp),if_neg (by simp),if_neg (by omega),if_neg (by simp),if_neg (by simp),if_neg (by simp)]
theorem aPl{u:List UInt8}(h:(hdM (spB u)).2.2.2=0):within (hdM (spB u)).1 0 4=true∧0≤(hdM (spB u)).2.1∧(hdM (spB u)).2.1≤200∧u=lG (hdM (spB u)).1 (hdM (spB u)).2.1:=by
 have hj:=uW u;generalize spB u=fs at h hj ⊢
 have hb:=lZ (fld fs 2) 200 (by decide)
 unfold hdM at h ⊢
 by_cases c1:fs.length=0∨fld fs 0≠[107,108,105,115,116,101,114]
 ·rw [if_pos c1] at h;exact absurd h (by decide)
 ·rw [if_neg c1] at h ⊢
  by_cases c2:fs.length=1
  ·rw [if_pos c2] at h;exact absurd h (by decide)
  ·rw [if_neg c2] at h ⊢
   by_cases c3:dU (fld fs 1)<0
   ·rw [if_pos c3] at h;exact absurd h (show ¬ ((12:Int)=0) by decide)
   ·rw [if_neg c3] at h ⊢
    by_cases c4:fs.length=2
    ·rw [if_pos c4] at h;exact absurd h (show ¬ ((11:Int)=0) by decide)
    ·rw [if_neg c4] at h ⊢
     by_cases c5:(bJ (fld fs 2) 200).2≠0
     ·rw [if_pos c5] at h;exact absurd h c5
     ·rw [if_neg c5] at h ⊢
      by_cases c6:3<fs.length
      ·rw [if_pos c6] at h;exact absurd h (show ¬ ((11:Int)=0) by decide)
      ·rw [if_neg c6]
       dsimp only;obtain ⟨w1,w2⟩:=bOe c3;have hn:bJ (fld fs 2) 200=((bJ (fld fs 2) 200).1,0):=Prod.ext rfl (by simpa using c5)
       obtain ⟨_,_,n3⟩:=aHc (by decide) hn
       refine ⟨w1,hb.1,hb.2.1,?_⟩
       match fs,c1,c2,c4,c6,hj,w2,n3 with
       | [],c1,_,_,_,_,_,_=>exact absurd (.inl rfl) c1
       | [_],_,c2,_,_,_,_,_=>exact absurd rfl c2
       | [_,_],_,_,c4,_,_,_,_=>exact absurd rfl c4
       | [a,b,c],c1,_,_,_,hj,w2,n3 =>
        have ea:a=[107,108,105,115,116,101,114]:=by
         apply Classical.byContradiction;exact fun q=>c1 (.inr q)
        unfold lG;rw [w2,n3,← ea];exact hj.symm
       | _::_::_::_::_,_,_,_,c6,_,_,_=>exact absurd (by simp) c6
theorem aZq{v:Int}(h0:0≤v)(h:v≤65520):lsM (spB (iR v)) v=(0,0):=by
 unfold iR;rw [uV _ (by simp) (aGz h0)]
 have e1:fld [[115,117,109],Lib.itoa v] 0=[115,117,109]:=rfl;have e2:fld [[115,117,109],Lib.itoa v] 1=Lib.itoa v:=rfl;have ec:lsC [[115,117,109],Lib.itoa v] v=0:=by unfold lsC;rw [e2,aAy h0 h];simp
 unfold lsM;rw [e1,ec,if_neg (by simp),if_neg (by simp),if_neg (by simp),if_neg (by simp)]
theorem aPm{u:List UInt8}{v:Int}(h:(lsM (spB u) v).2=0):u=iR v:=by
 have hj:=uW u;generalize spB u=fs at h hj ⊢
 unfold lsM at h
 by_cases c1:fld fs 0≠[115,117,109]
 ·rw [if_pos c1] at h;exact absurd h (by decide)
 ·rw [if_neg c1] at h
  by_cases c2:fs.length<2
  ·rw [if_pos c2] at h;exact absurd h (by decide)
  ·rw [if_neg c2] at h
   by_cases c3:lsC fs v≠0
   ·rw [if_pos c3] at h;exact absurd h c3
   ·rw [if_neg c3] at h
    by_cases c4:2<fs.length
    ·rw [if_pos c4] at h;exact absurd h (by decide)
    ·have c3:lsC fs v=0:=by simpa using c3
     have hn:bJ (fld fs 1) 65520=(v,0):=by
      unfold lsC at c3
      split at c3
      ·exact absurd c3 (by decide)
      ·rename_i q
       refine Prod.ext ?_ c3;apply Classical.byContradiction;exact fun e=>q (.inr ⟨c3,e⟩)
     obtain ⟨_,_,n3⟩:=aHc (by decide) hn
     match fs,c1,c2,c4,hj,n3 with
     | [],_,c2,_,_,_=>exact absurd (by simp) c2
     | [_],_,c2,_,_,_=>exact absurd (by simp) c2
     | [a,b],c1,_,_,hj,n3 =>
      have ea:a=[115,117,109]:=by
       apply Classical.byContradiction;exact c1
      unfold iR;rw [n3,← ea];exact hj.symm
     | _::_::_::_,_,_,c4,_,_=>exact absurd (by simp) c4
def eF(k:Int)(R:List (List Cel)):List (List UInt8):=lG k (R.length:Int)::R.map (uX k)
theorem aKw(k:Int):∀ (R:List (List Cel)) (h:List UInt8),R.foldl (fun o x=>o++lnM (fQ k x)) h=h++txL (R.map (uX k))
 | [],h=>by simp [txL]
 | x::R,h=>by
  rw [bLl,aKw k R,eZ,gJ,List.append_assoc]
  congr 1
  show lnM (fQ k x)++_=_;unfold lnM uX;simp
theorem lH(k:Int)(R:List (List Cel)):dX k R=txL (eF k R):=by
 unfold dX eF;rw [aKw,gJ];show lX k R.length++_=_;unfold lX lnM lG;simp
theorem sZ{k:Int}{R:List (List Cel)}(h:dW k R=0):bE k R=(txL (eF k R++[iR (lE (dX k R))]),0):=by
 unfold bE;rw [if_neg (by simp [h]),lH,rK]
 congr 2
 show lnM _=_;rw [gJ];unfold lnM iR;simp [txL]
end KV
end Go.Proofs
end
section
namespace Go.Proofs
open Go.RowKit
namespace KV
open Tryz
theorem aGw{k:Int}:∀ (done:List (List Cel)) (c x:List Cel) (r:List (List Cel)),oJ k (done++c::x::r)=0→bU k c x = -1
 | [],c,x,r,h=>by
  rw [List.nil_append,oJ] at h
  split at h
  ·cases h
  ·split at h
   ·cases h
   ·rcases aBe (aK k c 0) (aK k c 1) (aK k c 2) (aK k x 0) (aK k x 1) (aK k x 2) with q | q | q
    ·exact q
    ·exact absurd q (by assumption)
    ·have:bU k c x=1:=q
     omega
 | [a],c,x,r,h=>by
  rw [List.cons_append,List.nil_append,oJ] at h
  split at h
  ·cases h
  ·split at h
   ·cases h
   ·exact aGw [] c x r h
 | a::b::l,c,x,r,h=>by
  rw [List.cons_append,List.cons_append,oJ] at h
  split at h
  ·cases h
  ·split at h
   ·cases h
   ·exact aGw (b::l) c x r h
theorem aAu{k:Int}:∀ (done:List (List Cel)) (x:List Cel),oJ k done=0→(∀ c,done.getLast? = some c→bU k c x = -1)→oJ k (done++[x])=0
 | [],x,_,_=>rfl
 | [a],x,_,h=>by
  have:=h a rfl;rw [List.cons_append,List.nil_append,oJ,if_neg (by omega),if_neg (by omega)]
  rfl
 | a::b::l,x,h0,h=>by
  rw [oJ] at h0
  rw [List.cons_append,List.cons_append,oJ]
  split at h0
  ·cases h0
  ·split at h0
   ·cases h0
   ·rename_i h1 h2
    rw [if_neg h1,if_neg h2];exact aAu (b::l) x h0 (fun c hc=>h c (by rw [List.getLast?_cons_cons];exact hc))
structure aAv (k:Int) (R:List (List Cel)):Prop where
 w:within k 0 4=true
 n:R.length≤200
 ok:∀ x∈R,aAw k x
 ord:oJ k R=0
theorem aSk{k:Int}{R:List (List Cel)}(h:dW k R=0):aAv k R:=by
 have hR:=aAn h;refine ⟨hR.w,hR.n,fun x hx=>⟨hR.len x hx,hR.ck x hx⟩,?_⟩
 unfold dW at h
 split at h
 ·cases h
 ·split at h
  ·cases h
  ·split at h
   ·rename_i q;exact absurd h q
   ·exact h
theorem aPj{k:Int}{R:List (List Cel)}(h:aAv k R):dW k R=0:=by
 have hp:=aAx k;have hne:R.all Dv=true:=hZ.2 fun x hx=>by
  have:=(h.ok x hx).len;unfold Dv;exact decide_eq_true (by omega)
 have hfit:R.all (fD k)=true:=hZ.2 fun x hx=>by
  have:=(h.ok x hx).len;unfold fD;simp [this]
 have hno:∀ e:Int,e≠0→R.any (aAs k e)=false:=fun e he=>by
  cases q:R.any (aAs k e) with
  | false=>rfl
  | true =>
   exfalso
   obtain ⟨x,hx,q2⟩:=List.any_eq_true.1 q;unfold aAs at q2
   obtain ⟨c,hc,q3⟩:=List.any_eq_true.1 q2;obtain ⟨j,hj⟩:=List.mem_iff_getElem?.1 hc;obtain ⟨t,a,z,h1,h2,rfl⟩:=aGo hj;have:=(h.ok x hx).ck j t (a,z) h1 h2;have q4:ckM t (a,z)=e:=by simpa using q3
   omega
 have hch:lF k R=0:=by
  unfold lF;rw [if_neg (by rw [hfit];simp),if_neg (by rw [hno 3 (by decide)];simp),if_neg (by rw [hno 11 (by decide)];simp)]
 unfold dW;rw [if_neg (by rw [h.w];simp),if_neg (by rw [hne];have:=h.n;simp;omega),if_neg (by rw [hch];simp)]
 exact h.ord
theorem aEi{s:List UInt8}{k n:Int}{R:List (List Cel)}(hG:aAv k R)(hn:n=(R.length:Int)):∀ (l done:List (List Cel)) (bf:Nat),done++l=R →
  ∃ Gy,itB (prF s) ⟨done.length+1,n,bf,false,k,done⟩ (l.map fun x=>(uX k x,true)) = .ok ⟨R.length+1,n,Gy,false,k,R⟩
 | [],done,bf,h=>by
  rw [List.append_nil] at h
  subst h;exact ⟨bf,rfl⟩
 | x::l,done,bf,h=>by
  have hx:x∈R:=by rw [← h];simp
  have hok:=hG.ok x hx;obtain ⟨q1,q2⟩:=bHq hok 0;have hlen:=congrArg List.length h;rw [B4,eY] at hlen
  have hrl:=aSn hok;obtain ⟨Gy,ih⟩:=aEi (s:=s) hG hn l (done++[x]) (bf+((uX k x).length+1)) (by rw [← h];simp)
  rw [B4,List.length_singleton] at ih
  refine ⟨Gy,?_⟩;have hf:prF s ⟨done.length+1,n,bf,false,k,done⟩ (uX k x,true) = .ok ⟨done.length+1+1,n,bf+((uX k x).length+1),false,k,done++[x]⟩:=by
   unfold prF;rw [if_neg (by simp),if_neg (by simp),if_pos (by dsimp only;omega)]
   dsimp only;rw [oL,q1,q2];dsimp only;rw [if_neg (by simp [hrl])]
   cases hg:done.getLast? with
   | none=>rfl
   | some c =>
    dsimp only;have:done=done.dropLast++[c]:=by
     have hne:done≠[]:=fun e=>by rw [e] at hg;cases hg
     rw [List.getLast?_eq_some_getLast hne] at hg
     have:=List.dropLast_concat_getLast hne;rw [Option.some.inj hg] at this
     exact this.symm
    have ho:=hG.ord;rw [← h,this,List.append_assoc] at ho
    have:=aGw done.dropLast c x l ho;rw [if_pos this]
  rw [eZ,qH _ hf];exact ih
theorem aSl{X β ε:Type}(f:β→X→Except ε β):∀ (l r:List X) (a a':β),itB f a l = .ok a'→itB f a (l++r)=itB f a' r
 | [],r,a,a',h=>by cases h;rfl
 | x::l,r,a,a',h=>by
  cases e:f a x with
  | ok b=>rw [qH _ e] at h;rw [List.cons_append,qH _ e];exact aSl f l r b a' h
  | error e'=>rw [aHf _ e] at h;cases h
theorem aGx(b:List UInt8):0≤lE b∧lE b≤65520:=by
 unfold lE
 split
 ·have:=aRx b;omega
 ·omega
theorem aEj{k:Int}{R:List (List Cel)}(hG:aAv k R):∀ l∈eF k R,∀ b∈l,b≠10:=fun l hl=>by
 unfold eF at hl
 rcases kD.1 hl with rfl | hl
 ·exact nK _ (aKv (by omega))
 ·obtain ⟨x,hx,rfl⟩:=sY.1 hl
  exact nK _ (aKu (hG.ok x hx))
theorem aZm(k:Int):(iT k).length≤10:=by
 unfold iT
 repeat' split
 all_goals simp
theorem bHm{k:Int}{R:List (List Cel)}(hG:aAv k R):(lX k R.length).length≤1000:=by
 have hn:=hG.n;have hw:=aZm k;have hi:=itl (n:=(R.length:Int)) (by omega)
 have:=nJ 30 [[107,108,105,115,116,101,114],iT k,Lib.itoa (R.length:Int)] (fun s hs=>by
  simp only [kD,List.not_mem_nil,or_false] at hs
  rcases hs with rfl | rfl | rfl
  ·simp
  ·omega
  ·omega)
 simp only [eY,List.length_nil] at this
 unfold lX lnM;rw [B4];simp;omega
theorem uU{k:Int}{R:List (List Cel)}(hc:dW k R=0):(dX k R).length≤61000:=by
 have hG:=aSk hc;have:=aAo (aAn hc) R (lX k R.length) (fun x hx=>hx)
 have h1:=bHm hG;have h2:=hG.n;have ev:dX k R=R.foldl (fun o x=>o++lnM (fQ k x)) (lX k R.length):=rfl
 rw [← ev] at this
 omega
theorem aKq{v:Int}(h0:0≤v)(h:v≤65520):(iR v).length≤100:=by
 have hs:=itl (n:=v) (by omega)
 have:=nJ 30 [[115,117,109],Lib.itoa v] (fun s hs=>by
  simp only [kD,List.not_mem_nil,or_false] at hs
  rcases hs with rfl | rfl
  ·simp
  ·omega)
 simp only [eY,List.length_nil] at this
 unfold iR;omega
theorem bOa{k:Int}{R:List (List Cel)}(hc:dW k R=0):(bE k R).1.length≤62000:=by
 rw [sZ hc,rK,← lH];have h1:=uU hc;obtain ⟨h2,h3⟩:=aGx (dX k R);have:=aKq h2 h3;rw [B4,gJ];simp [txL];omega
theorem bOb{k:Int}{R:List (List Cel)}(hc:dW k R=0):prM (bE k R).1=(k,R,0,0,0):=by
 have hG:=aSk hc;have hl:=bOa hc;have hbl:=uU hc;have hp:=sZ hc;rw [hp] at hl ⊢
 dsimp only at hl ⊢
 generalize hv:lE (dX k R)=v at hl ⊢
 have hvb:0≤v∧v≤65520:=by rw [← hv];exact aGx _
 have hsv:v=bI (dX k R):=by rw [← hv];exact if_pos (by omega)
 have hno:∀ l∈eF k R++[iR v],∀ b∈l,b≠10:=fun l hl=>by
  rcases oG.1 hl with h | h
  ·exact aEj hG l h
  ·rw [List.mem_singleton] at h;subst h
   exact nK _ (aGz hvb.1)
 generalize hs:txL (eF k R++[iR v])=s at hl ⊢
 have hlines:bW s=(eF k R++[iR v]).map (fun l=>(l,true)):=by rw [← hs];exact aKr _ hno
 have Cl:s.take (txL (eF k R)).length=dX k R:=by
  rw [← hs,rK,List.take_left,lH]
 have hh:=aZp (n:=(R.length:Int)) hG.w (by omega) (by have:=hG.n;omega)
 have Ll:prF s prA (lG k (R.length:Int),true) = .ok ⟨1,(R.length:Int),0+((lG k (R.length:Int)).length+1),false,k,[]⟩:=by
  unfold prF;rw [if_neg (by simp [prA]),if_pos (show prA.nr=0 from rfl)]
  dsimp only [prA];rw [oL,hh,if_neg (by simp)]
  dsimp only;rw [bHs hG.w]
 obtain ⟨bf,hrows⟩:=aEi (s:=s) (n:=(R.length:Int)) hG rfl R [] (0+((lG k (R.length:Int)).length+1)) rfl;have hbody:itB (prF s) prA ((eF k R).map fun l=>(l,true)) = .ok ⟨R.length+1,(R.length:Int),bf,false,k,R⟩:=by
  unfold eF;rw [eZ,xW];rw [qH _ Ll];exact hrows
 have hbf:bf=(txL (eF k R)).length:=by
  have:=(nO _ [] prA _ wH hbody).bf;rw [List.nil_append,aPk] at this
  exact this
 have G4:prF s ⟨R.length+1,(R.length:Int),bf,false,k,R⟩ (iR v,true) = .ok ⟨R.length+1+1,(R.length:Int),bf+((iR v).length+1),true,k,R⟩:=by
  unfold prF;rw [if_neg (by simp),if_neg (by simp),if_neg (by dsimp only;omega)]
  dsimp only;rw [oL,hbf,Cl,← hsv,aZq hvb.1 hvb.2,if_neg (by simp)]
 have hall:itB (prF s) prA (bW s) = .ok ⟨R.length+1+1,(R.length:Int),bf+((iR v).length+1),true,k,R⟩:=by
  rw [hlines,pT,aSl _ _ _ _ _ hbody,eZ,qH _ G4];rfl
 unfold prM;rw [if_neg (by omega),hall]
 rfl
theorem bOc{s:List UInt8}{a:PS}{x:List UInt8 × Bool}{e:PS × Int × Int × Int}(h:prF s a x = .error e):e.2.2.2≠0∧1≤e.2.1∧e.2.1=((a.nr+1:Nat):Int):=by
 unfold prF at h
 split at h
 ·cases h;exact ⟨(show (11:Int)≠0 by decide),by dsimp only;omega,rfl⟩
 ·split at h
  ·split at h
   ·rename_i q
    cases h;exact ⟨q,by dsimp only;omega,rfl⟩
   ·cases h
  ·split at h
   ·split at h
    ·rename_i p q
     cases h;exact ⟨aHh _ _ _ _ q,by dsimp only;omega,rfl⟩
    ·split at h
     ·cases h;exact ⟨(show (11:Int)≠0 by decide),by dsimp only;omega,rfl⟩
     ·split at h
      ·cases h
      ·split at h
       ·cases h
       ·cases h
        refine ⟨?_,by dsimp only;omega,rfl⟩
        dsimp only
        split <;> decide
   ·split at h
    ·rename_i q
     cases h;exact ⟨q,by dsimp only;omega,rfl⟩
    ·cases h
structure PrT (s:List UInt8) (pre:List (List UInt8 × Bool)) (a:PS):Prop where
 z:a.nr=0→pre=[]∧a.dn=false∧a.R=[]∧a.kd=0
 w:within a.kd 0 4=true
 ok:∀ x∈a.R,aAw a.kd x
 ord:oJ a.kd a.R=0
 ex:0<a.nr→∃ my:Int,a.my=my∧0≤my∧my≤200∧(a.R.length:Int)≤my ∧
  (a.dn=false→a.nr=a.R.length+1∧pre=((lG a.kd my::a.R.map (uX a.kd)).map fun l=>(l,true))) ∧
  (a.dn=true→my=(a.R.length:Int)∧pre=((eF a.kd a.R++[iR (bI (s.take (txL (eF a.kd a.R)).length))]).map fun l=>(l,true)))
theorem cCl(s:List UInt8):PrT s [] prA:=⟨fun _=>⟨rfl,rfl,rfl,rfl⟩,by decide,fun x h=>(by cases h),rfl,fun h=>absurd h (by decide)⟩
theorem bHn{s:List UInt8}{pre:List (List UInt8 × Bool)}{a a2:PS}{x:List UInt8 × Bool}(h:PrT s pre a)(hO:aLd pre a)(hf:prF s a x = .ok a2):PrT s (pre++[x]) a2:=by
 obtain ⟨hz,hw,hok,hord,hex⟩:=h;unfold prF at hf
 split at hf
 ·cases hf
 ·rename_i hc
  have hd:a.dn=false:=by
   cases e:a.dn with
   | false=>rfl
   | true=>exact absurd (.inl e) hc
  have Fc:x.2=true:=by
   cases e:x.2 with
   | true=>rfl
   | false=>exact absurd (.inr e) hc
  have ex:x=(x.1,true):=Prod.ext rfl Fc
  split at hf
  ·rename_i h0
   obtain ⟨z1,z2,z3,z4⟩:=hz h0
   split at hf
   ·cases hf
   ·rename_i hh
    cases hf;rw [oL] at hh ⊢
    obtain ⟨q1,q2,q3,q4⟩:=aPl (by simpa using hh)
    have hm:=bHs q1;refine ⟨fun e=>by simp at e,by rw [hm];exact q1,fun y hy => ?_,?_,fun _=>⟨_,rfl,q2,q3,?_,fun _=>⟨?_,?_⟩,fun e => ?_⟩⟩
    ·have H6:y∈a.R:=hy
     rw [z3] at H6;cases H6
    ·show oJ _ a.R=0
     rw [z3];rfl
    ·show (a.R.length:Int)≤_
     rw [z3];exact q2
    ·show a.nr+1=a.R.length+1
     rw [h0,z3];rfl
    ·show pre++[x]=(lG (Dl (hdM (spB x.1)).1) (hdM (spB x.1)).2.1::a.R.map (uX (Dl (hdM (spB x.1)).1))).map fun l=>(l,true)
     rw [z1,z3,hm,← q4];show [x]=[(x.1,true)];rw [← ex]
    ·have e':a.dn=true:=e
     rw [hd] at e';cases e'
  ·rename_i h0
   obtain ⟨my,m1,m2,m3,m4,m5,m6⟩:=hex (by omega)
   obtain ⟨p1,p2⟩:=m5 hd
   split at hf
   ·rename_i hle
    split at hf
    ·cases hf
    ·rename_i cs hcs
     rw [oL] at hcs
     split at hf
     ·cases hf
     ·rename_i hl
      rw [oL] at hl
      have hl:(spB x.1).length=(aJ a.kd).length:=by
       apply Classical.byContradiction;exact hl
      obtain ⟨r1,r2⟩:=aZn hl hcs;have key:(∀ c,a.R.getLast? = some c→bU a.kd c cs = -1)→PrT s (pre++[x]) { a with nr:=a.nr+1,R:=a.R++[cs],bf:=a.bf+(x.1.length+1) }:=fun hlast=>by
       refine ⟨fun e=>by simp at e,hw,fun y hy => ?_,aAu _ _ hord hlast,fun _=>⟨my,m1,m2,m3,?_,fun _=>⟨?_,?_⟩,fun e => ?_⟩⟩
       ·have H6:y∈a.R++[cs]:=hy
        rcases oG.1 H6 with H6 | H6
        ·exact hok y H6
        ·rw [List.mem_singleton] at H6;subst H6;exact r1
       ·show ((a.R++[cs]).length:Int)≤my
        rw [B4,List.length_singleton];omega
       ·show a.nr+1=(a.R++[cs]).length+1
        rw [B4,List.length_singleton];omega
       ·show pre++[x]=(lG a.kd my::(a.R++[cs]).map (uX a.kd)).map fun l=>(l,true)
        rw [p2,pT,eZ,eZ,pT,eZ,List.map_nil,eZ,List.map_nil,← r2,← ex];rfl
       ·have e':a.dn=true:=e
        rw [hd] at e';cases e'
      split at hf
      ·rename_i hg
       cases hf;exact key fun c hc=>by rw [hg] at hc;cases hc
      ·rename_i c hg
       split at hf
       ·rename_i Jy
        cases hf;exact key fun c' Dp=>by rw [hg] at Dp;cases Dp;exact Jy
       ·cases hf
   ·rename_i hle
    split at hf
    ·cases hf
    ·rename_i hl
     cases hf;rw [oL] at hl
     have hq:=aPm (by simpa using hl)
     have hmy:my=(a.R.length:Int):=by omega
     refine ⟨fun e=>by simp at e,hw,hok,hord,fun _=>⟨my,m1,m2,m3,m4,fun e=>(by cases e),fun _=>⟨hmy,?_⟩⟩⟩
     show pre++[x]=(eF a.kd a.R++[iR (bI (s.take (txL (eF a.kd a.R)).length))]).map fun l=>(l,true)
     have hb:pre=(eF a.kd a.R).map fun l=>(l,true):=by rw [p2,hmy];rfl
     have hbf:a.bf=(txL (eF a.kd a.R)).length:=by rw [hO.bf,hb,aPk]
     rw [hbf] at hq
     rw [pT,← hb,eZ,List.map_nil,← hq,← ex]
theorem aSm{s:List UInt8}:∀ (l pre:List (List UInt8 × Bool)) (a a2:PS),PrT s pre a→aLd pre a→itB (prF s) a l = .ok a2→PrT s (pre++l) a2
 | [],pre,a,a2,h,_,hi=>by cases hi;rw [List.append_nil];exact h
 | x::l,pre,a,a2,h,hO,hi=>by
  cases hf:prF s a x with
  | error e=>rw [aHf _ hf] at hi;cases hi
  | ok b =>
   rw [qH _ hf] at hi
   have:=aSm l (pre++[x]) b a2 (bHn h hO hf) (aEt hO hf) hi
   rwa [List.append_assoc] at this
theorem aGy{s:List UInt8}:∀ (l:List (List UInt8 × Bool)) (a:PS) (e:PS × Int × Int × Int),itB (prF s) a l = .error e→e.2.2.2≠0∧1≤e.2.1∧e.2.1≤(a.nr+l.length:Int)
 | [],a,e,h=>by cases h
 | x::l,a,e,h=>by
  cases hf:prF s a x with
  | error e' =>
   rw [aHf _ hf] at h;cases h
   obtain ⟨q1,q2,q3⟩:=bOc hf;exact ⟨q1,q2,by rw [q3,eY];omega⟩
  | ok b =>
   rw [qH _ hf] at h
   obtain ⟨q1,q2,q3⟩:=aGy l b e h;have:b.nr=a.nr+1:=by
    unfold prF at hf
    repeat' split at hf
    all_goals first | (cases hf;done) | (cases hf;rfl)
   exact ⟨q1,q2,by rw [eY];omega⟩
theorem bOd{s:List UInt8}(h:(prM s).2.2.2.2=0):dW (prM s).1 (prM s).2.1=0∧bE (prM s).1 (prM s).2.1=(s,0)∧(prM s).2.2.1=0∧(prM s).2.2.2.1=0:=by
 unfold prM at h ⊢
 by_cases hs:65536<s.length
 ·rw [if_pos hs] at h;exact absurd h (by decide)
 ·rw [if_neg hs] at h ⊢
  cases hi:itB (prF s) prA (bW s) with
  | error e =>
   rw [hi] at h
   exact absurd h (aGy _ _ _ hi).1
  | ok a =>
   rw [hi] at h
   dsimp only at h ⊢
   by_cases hd:a.dn=true
   ·rw [if_pos hd] at h ⊢
    have hO:=nO (bW s) [] prA a wH hi;have hT:=aSm (bW s) [] prA a (cCl s) wH hi;rw [List.nil_append] at hO hT
    have hn:0<a.nr:=by
     apply Nat.pos_of_ne_zero;intro e;obtain ⟨_,z2,_⟩:=hT.z e;rw [z2] at hd;cases hd
    obtain ⟨my,m1,m2,m3,m4,_,m6⟩:=hT.ex hn;obtain ⟨p1,p2⟩:=m6 hd;have hG:aAv a.kd a.R:=⟨hT.w,by omega,hT.ok,hT.ord⟩
    have hc:=aPj hG;have htx:=aKs _ s (Bb _) hO.ended;rw [p2,xW] at htx
    have hid:(eF a.kd a.R++[iR (bI (s.take (txL (eF a.kd a.R)).length))]).map ((fun y:List UInt8 × Bool=>y.1) ∘ fun l=>(l,true))=eF a.kd a.R++[iR (bI (s.take (txL (eF a.kd a.R)).length))]:=by
     rw [show ((fun y:List UInt8 × Bool=>y.1) ∘ fun l=>(l,true))=id from rfl,List.map_id]
    rw [hid] at htx
    have htk:s.take (txL (eF a.kd a.R)).length=dX a.kd a.R:=by
     rw [← htx,rK,List.take_left,lH]
    rw [htk] at htx
    have hbl:=uU hc;have hsv:lE (dX a.kd a.R)=bI (dX a.kd a.R):=if_pos (by omega)
    refine ⟨hc,?_,rfl,rfl⟩;rw [sZ hc,hsv,htx]
   ·rw [if_neg hd] at h
    exact absurd h (show ¬ ((11:Int)=0) by decide)
end KV
end Go.Proofs
end
namespace Go.Proofs
namespace KV
open Tryz
section

theorem bIj(k:Int):1≤aO k∧aO k≤3:=by
 unfold aO
 repeat' split
 all_goals decide
end
section

theorem bOk(R:List (List Cel))(cs:List Cel):((R++[cs]).map rwE).flatten=(R.map rwE).flatten++[PV.sl cs.length ((cs.map cE).flatten)]:=by simp [rwE,aN]
end
end KV
end Go.Proofs
section
namespace Go.Proofs
open Go.RowKit
namespace KV
open Tryz
theorem cBv{d:Int}(h:0≤d∧(d<2∨d=0)):∃ b,(([120,111]:List UInt8).drop d.toNat).take 1=[b]∧isr b=true∧1≤(([120,111]:List UInt8).drop d.toNat).length:=by
 have:d=0∨d=1:=by omega
 rcases this with rfl | rfl
 ·exact ⟨120,rfl,by decide,by decide⟩
 ·exact ⟨111,rfl,by decide,by decide⟩
theorem bSr{d:Int}(h:0≤d∧(d<26∨d=0)):isl (UInt8.ofNat (IntKind.wrap .i32 (97+d)).toNat)=true∧0≤IntKind.wrap .i32 (97+d)∧IntKind.wrap .i32 (97+d)<128:=by
 have hw:=aAj (x:=97+d) (by omega)
 rw [hw];refine ⟨?_,by omega,by omega⟩
 have e:(UInt8.ofNat (97+d).toNat).toNat=(97+d).toNat:=by rw [UInt8.toNat_ofNat'];omega
 simp only [isl,e,Bv,decide_eq_true_eq];omega
section
variable {l:List Int} {nx st k most:Int} {i:Nat} {R:List (List Cel)}
theorem bFc{j:Nat}{r:List Cel}{mb tb:Int}:∀ (m q:Nat) (z:List UInt8) (mc tc:Int),(((dL 5 8 l mb tb).1)-(q:Int)).toNat=m→(q:Int)≤(dL 5 8 l mb tb).1→q≤8→z.length=q→(∀ b∈z,isr b=true)→0≤mc→mc≤900000000+q →
  ∃ z' E7 Gf,aF Tp 1 (sub (cd Tryz.f25) aa) (pW l nx st k most i R j r mb tb q z mc tc) (.exit 7) (pW l nx st k most i R j r mb tb ((dL 5 8 l mb tb).1).toNat z' E7 Gf)∧(z'.length:Int)=(dL 5 8 l mb tb).1∧(∀ b∈z',isr b=true)∧mc≤E7∧E7≤mc+m
 | 0,q,z,mc,tc,hm,hq,h8,hz,ha,h0,h1=>by
  have e:((dL 5 8 l mb tb).1).toNat=q:=by omega
  rw [e];exact ⟨z,mc,tc,.exit (aWn (by omega)) (by simp),by omega,ha,by omega,by omega⟩
 | m+1,q,z,mc,tc,hm,hq,h8,hz,ha,h0,h1=>by
  have hb:=oI 5 8 l mb tb;have hd:=jT 2 l mc tc;obtain ⟨b,e1,e2,e3⟩:=cBv ⟨hd.1,hd.2.1⟩;obtain ⟨z',E7,Gf,L,p1,p2,p3,p4⟩:=bFc (j:=j) (r:=r) (mb:=mb) (tb:=tb) m (q+1) (z++[b]) (aW 2 l mc tc).2.1 (aW 2 l mc tc).2.2 (by omega) (by omega) (by omega) (by rw [B4,hz];rfl) (fun c hc=>by
   rcases oG.1 hc with h | h
   ·exact ha c h
   ·rw [List.mem_singleton] at h;subst h;exact e2) (by omega) (by omega)
  exact ⟨z',E7,Gf,.step (aWm (by omega) (by omega) (by omega) (by omega) (by rw [e1];simp;omega) (aV (by omega)) rfl (by rw [e1]) rfl rfl) L,p1,p2,by omega,by omega⟩
theorem bFd{j:Nat}{r:List Cel}{mb tb:Int}:∀ (m q:Nat) (z:List UInt8) (mc tc:Int),(((dL 1 12 l mb tb).1)-(q:Int)).toNat=m→(q:Int)≤(dL 1 12 l mb tb).1→q≤12→z.length=q→(∀ b∈z,isl b=true)→0≤mc→mc≤900000000+q →
  ∃ z' E7 Gf,aF Tp 1 (sub (cd Tryz.f25) ab) (pX l nx st k most i R j r mb tb q z mc tc) (.exit 5) (pX l nx st k most i R j r mb tb ((dL 1 12 l mb tb).1).toNat z' E7 Gf)∧(z'.length:Int)=(dL 1 12 l mb tb).1∧(∀ b∈z',isl b=true)∧mc≤E7∧E7≤mc+m
 | 0,q,z,mc,tc,hm,hq,h8,hz,ha,h0,h1=>by
  have e:((dL 1 12 l mb tb).1).toNat=q:=by omega
  rw [e];exact ⟨z,mc,tc,.exit (aWp (by omega)) (by simp),by omega,ha,by omega,by omega⟩
 | m+1,q,z,mc,tc,hm,hq,h8,hz,ha,h0,h1=>by
  have hb:=oI 1 12 l mb tb;have hd:=jT 26 l mc tc;obtain ⟨e2,e3,e4⟩:=bSr ⟨hd.1,hd.2.1⟩;obtain ⟨z',E7,Gf,L,p1,p2,p3,p4⟩:=bFd (j:=j) (r:=r) (mb:=mb) (tb:=tb) m (q+1) (z++[UInt8.ofNat (IntKind.wrap .i32 (97+(aW 26 l mc tc).1)).toNat]) (aW 26 l mc tc).2.1 (aW 26 l mc tc).2.2 (by omega) (by omega) (by omega) (by rw [B4,hz];rfl) (fun c hc=>by
   rcases oG.1 hc with h | h
   ·exact ha c h
   ·rw [List.mem_singleton] at h;subst h;exact e2) (by omega) (by omega)
  exact ⟨z',E7,Gf,.step (aWo (by omega) (by omega) (by show _∧_;omega) ⟨e3,e4⟩ (by rw [List.length_singleton];omega) (aV (by omega)) rfl rfl rfl rfl) L,p1,p2,by omega,by omega⟩
theorem uN(r:List Cel)(a:Int)(z:List UInt8):((r++[(a,z)]).map cE).flatten=(r.map cE).flatten++[aB a,aD z]:=by simp [cE]
structure aWa (k:Int) (i j:Nat) (r:List Cel):Prop where
 len:r.length=j
 ck:∀ (q:Nat) t c,(aJ k)[q]? = some t→r[q]? = some c→ckM t c=0
 key:0<j→∃ e:Int,0≤e∧e≤2∧r[0]? = some (3*(i:Int)+e,[])
theorem aWb{j:Nat}{r:List Cel}{t a:Int}{z:List UInt8}(h:aWa k i j r)(ht:(aJ k)[j]? = some t)(hc:ckM t (a,z)=0)(hk:j=0→∃ e:Int,0≤e∧e≤2∧a=3*(i:Int)+e∧z=[]):aWa k i (j+1) (r++[(a,z)]):=by
 obtain ⟨h1,h2,h3⟩:=h;refine ⟨by rw [B4,h1];rfl,fun q t' c g1 g2 => ?_,fun _ => ?_⟩
 ·by_cases hq:q<r.length
  ·rw [aCd hq] at g2
   exact h2 q t' c g1 g2
  ·rw [aGi (by omega)] at g2
   have Ar:q-r.length=0:=by
    apply Classical.byContradiction;intro e;rw [List.getElem?_eq_none (by simp;omega)] at g2;cases g2
   rw [Ar] at g2
   cases g2;have:q=j:=by omega
   subst this;rw [ht] at g1;cases g1
   exact hc
 ·by_cases hj:j=0
  ·obtain ⟨e,e1,e2,e3,e4⟩:=hk hj
   have:r=[]:=pA (by omega)
   subst this;exact ⟨e,e1,e2,by rw [e3,e4];rfl⟩
  ·obtain ⟨e,e1,e2,e3⟩:=h3 (by omega)
   exact ⟨e,e1,e2,by rw [aCd (by omega)];exact e3⟩
theorem aWc(k:Int):(aJ k)[0]? = some 0:=by
 unfold aJ
 repeat' split
 all_goals rfl
theorem bFe{a:Int}(h:0≤a∧a≤999999):ckM 0 (a,[])=0:=by
 have:within a 0 999999=true:=cK.2 h;simp [ckM,this]
theorem bSs{a:Int}(h:0≤a∧a≤360000):ckM 1 (a,[])=0:=by
 have:within a 0 360000=true:=cK.2 h;simp [ckM,this]
theorem bSt{z:List UInt8}(h:5≤(z.length:Int)∧(z.length:Int)≤8)(ha:∀ b∈z,isr b=true):ckM 2 (0,z)=0:=by
 have:mH z=true:=by
  unfold mH;rw [cK.2 h,hZ.2 ha];rfl
 simp [ckM,this]
theorem bSu{z:List UInt8}(h:1≤(z.length:Int)∧(z.length:Int)≤12)(ha:∀ b∈z,isl b=true):ckM 3 (0,z)=0:=by
 have:mI z=true:=by
  unfold mI;rw [cK.2 h,hZ.2 ha];rfl
 simp [ckM,this]
theorem bFf{a b:Int}(h1:0≤a)(h2:a≤60)(h3:0≤b)(h4:b≤99):0≤a*b∧a*b≤5940:=⟨Int.mul_nonneg h1 h3,by have:=Int.mul_le_mul h2 h4 h3 (by omega);omega⟩
theorem bFg(hi:i≤100000):∀ (m j:Nat) (r:List Cel) (mb tb:Int),(aJ k).length-j=m→j≤(aJ k).length→aWa k i j r→0≤mb→mb+20*m≤900000000 →
  ∃ r' Em Gg,aF Tp 1 (sub (cd Tryz.f25) ap) (eN l nx st k most i R j r.length ((r.map cE).flatten) mb tb) (.exit 2) (eN l nx st k most i R (aJ k).length r'.length ((r'.map cE).flatten) Em Gg)∧aWa k i (aJ k).length r'∧mb≤Em∧Em≤mb+20*m
 | 0,j,r,mb,tb,hm,hj,hr,h0,h1=>by
  have:j=(aJ k).length:=by omega
  subst this;exact ⟨r,mb,tb,.exit (aWl (by omega)) (by simp),hr,by omega,by omega⟩
 | m+1,j,r,mb,tb,hm,hj,hr,h0,h1=>by
  have hcl:=jW k;have hrl:=hr.len;obtain ⟨t,ht⟩:∃ t,(aJ k)[j]? = some t:=⟨(aJ k)[j]'(by omega),B3 (by omega)⟩
  have Lp:(aJ k).length-(j+1)=m:=by omega
  have Pr:j+1≤(aJ k).length:=by omega
  have go:∀ (a:Int) (z:List UInt8) (Em Gg:Int),ckM t (a,z)=0→(j=0→∃ e:Int,0≤e∧e≤2∧a=3*(i:Int)+e∧z=[])→mb≤Em→Em≤mb+20 →
    aA Tp 1 (sub (cd Tryz.f25) ap) (eN l nx st k most i R j r.length ((r.map cE).flatten) mb tb) .normal (eN l nx st k most i R (j+1) (r++[(a,z)]).length (((r++[(a,z)]).map cE).flatten) Em Gg) →
    ∃ r' Em Gg,aF Tp 1 (sub (cd Tryz.f25) ap) (eN l nx st k most i R j r.length ((r.map cE).flatten) mb tb) (.exit 2) (eN l nx st k most i R (aJ k).length r'.length ((r'.map cE).flatten) Em Gg)∧aWa k i (aJ k).length r'∧mb≤Em∧Em≤mb+20*((m+1:Nat):Int):=fun a z Ps Pt hc hk g1 g2 hs=>by
   obtain ⟨r',Em,Gg,L,q1,q2,q3⟩:=bFg hi m (j+1) (r++[(a,z)]) Ps Pt Lp Pr (aWb hr ht hc hk) (by omega) (by omega)
   exact ⟨r',Em,Gg,.step hs L,q1,by omega,by omega⟩
  by_cases Mv:j=0
  ·have Lq:=aWc k
   rw [Mv,Lq] at ht
   obtain rfl:=(Option.some.inj ht);have Pu:(aJ k)[j]? = some 0:=by rw [Mv];exact Lq
   have d1:=jT 60 l mb tb;have d2:=oI 1 99 l (aW 60 l mb tb).2.1 (aW 60 l mb tb).2.2;have d3:=jT 3 l (dL 1 99 l (aW 60 l mb tb).2.1 (aW 60 l mb tb).2.2).2.1 (dL 1 99 l (aW 60 l mb tb).2.1 (aW 60 l mb tb).2.2).2.2;have hmul:=bFf d1.1 (b:=(dL 1 99 l (aW 60 l mb tb).2.1 (aW 60 l mb tb).2.2).1) (by omega) (by omega) (by omega)
   exact go _ [] _ _ (bFe (by omega)) (fun _=>⟨_,d3.1,by omega,rfl,rfl⟩) (by omega) (by omega)
    (aWg (by omega) Pu (by omega) (by omega) (by decide) (by show _∧_;omega) (by omega) (by show _∧_;omega) (by omega) (by show _∧_;omega) ⟨rfl,by omega⟩ (aV (by omega)) rfl (by simp) (uN _ _ _) rfl rfl)
  ·have nk:∀ {p:Prop},j=0→p:=fun e=>absurd e Mv
   rcases iP ht with rfl | rfl | rfl | rfl
   ·have d1:=jT 60 l mb tb
    have d2:=oI 1 99 l (aW 60 l mb tb).2.1 (aW 60 l mb tb).2.2;have hmul:=bFf d1.1 (b:=(dL 1 99 l (aW 60 l mb tb).2.1 (aW 60 l mb tb).2.2).1) (by omega) (by omega) (by omega)
    exact go _ [] _ _ (bFe (by omega)) (fun e=>nk e) (by omega) (by omega)
     (aWh (by omega) ht (by omega) (by omega) (by decide) (by show _∧_;omega) (by omega) ⟨rfl,by omega⟩ (aV (by omega)) rfl (by simp) (uN _ _ _) rfl rfl)
   ·have d1:=jT 360001 l mb tb
    exact go _ [] _ _ (bSs (by omega)) (fun e=>nk e) (by omega) (by omega)
     (aWi (by omega) ht (by omega) (by omega) ⟨rfl,by omega⟩ (aV (by omega)) rfl (by simp) (uN _ _ _) rfl rfl)
   ·have d1:=oI 5 8 l mb tb
    obtain ⟨z',E7,Gf,L,p1,p2,p3,p4⟩:=bFc (l:=l) (nx:=nx) (st:=st) (k:=k) (most:=most) (i:=i) (R:=R) (j:=j) (r:=r) (mb:=mb) (tb:=tb) _ 0 [] (dL 5 8 l mb tb).2.1 (dL 5 8 l mb tb).2.2 rfl (by omega) (by omega) rfl (fun b hb=>by simp at hb) (by omega) (by omega)
    exact go 0 z' E7 Gf (bSt (by omega) p2) (fun e=>nk e) (by omega) (by omega)
     (aWj (by omega) ht (by omega) (by decide) L (by omega) ⟨rfl,by omega⟩ (aV (by omega)) rfl (by simp) (uN _ _ _))
   ·have d1:=oI 1 12 l mb tb
    obtain ⟨z',E7,Gf,L,p1,p2,p3,p4⟩:=bFd (l:=l) (nx:=nx) (st:=st) (k:=k) (most:=most) (i:=i) (R:=R) (j:=j) (r:=r) (mb:=mb) (tb:=tb) _ 0 [] (dL 1 12 l mb tb).2.1 (dL 1 12 l mb tb).2.2 rfl (by omega) (by omega) rfl (fun b hb=>by simp at hb) (by omega) (by omega)
    exact go 0 z' E7 Gf (bSu (by omega) p2) (fun e=>nk e) (by omega) (by omega)
     (aWk (by omega) ht (by omega) (by decide) L (by omega) ⟨rfl,by omega⟩ (aV (by omega)) rfl (by simp) (uN _ _ _))
structure bLt (k:Int) (i:Nat) (R:List (List Cel)):Prop where
 len:R.length=i
 ok:∀ x∈R,aAw k x
 ord:oJ k R=0
 key:∀ c,R.getLast? = some c→∃ v z,c[0]? = some (v,z)∧v<3*(i:Int)
theorem aWd{r:List Cel}(h:bLt k i R)(hr:aWa k i (aJ k).length r):bLt k (i+1) (R++[r]):=by
 obtain ⟨h1,h2,h3,h4⟩:=h;have hp:=aAx k;obtain ⟨e,e1,e2,e3⟩:=hr.key hp;have kb:=bIj k;refine ⟨by rw [B4,h1];rfl,fun x hx => ?_,aAu R r h3 fun c hc => ?_,fun c hc => ?_⟩
 ·rcases oG.1 hx with hx | hx
  ·exact h2 x hx
  ·rw [List.mem_singleton] at hx;subst hx
   exact ⟨hr.len,hr.ck⟩
 ·obtain ⟨v,z,hv,hlt⟩:=h4 c hc
  have k1:aK k c 0=v:=by unfold aK;rw [if_pos (by omega),hv];rfl
  have k2:aK k r 0=3*(i:Int)+e:=by unfold aK;rw [if_pos (by omega),e3];rfl
  have:jJ (aK k c 0) (aK k r 0) = -1:=by unfold jJ;rw [if_pos (by omega)]
  unfold bU Ev;rw [this,if_pos (by decide)]
 ·rw [List.getLast?_concat] at hc
  cases hc;exact ⟨_,_,e3,by omega⟩
theorem bFh(N:Nat)(hN:(aW (most+1) l nx st).1=(N:Int))(Pv:N≤100000):∀ (m i:Nat) (R:List (List Cel)) (ma ta:Int),N-i=m→i≤N→bLt k i R→0≤ma→ma+80*m≤800000000 →
  ∃ R' Kf Mw,aF Tp 1 (sub (cd Tryz.f25) bm) (pV l nx st k most i R.length ((R.map rwE).flatten) ma ta) (.exit 0) (pV l nx st k most N R'.length ((R'.map rwE).flatten) Kf Mw)∧bLt k N R'∧ma≤Kf∧Kf≤ma+80*m
 | 0,i,R,ma,ta,hm,hi,hR,h0,h1=>by
  have:i=N:=by omega
  subst this;exact ⟨R,ma,ta,.exit (aWf (by omega)) (by simp),hR,by omega,by omega⟩
 | m+1,i,R,ma,ta,hm,hi,hR,h0,h1=>by
  have hcl:=jW k;have hRl:=hR.len;obtain ⟨r,mb,tb,L,q1,q2,q3⟩:=bFg (l:=l) (nx:=nx) (st:=st) (k:=k) (most:=most) (i:=i) (R:=R) (by omega) _ 0 [] ma ta rfl (by omega) ⟨rfl,fun q t c _ g=>by simp at g,fun g=>by omega⟩ h0 (by omega)
  obtain ⟨R',Kf,Mw,L2,p1,p2,p3⟩:=bFh N hN Pv m (i+1) (R++[r]) mb tb (by omega) (by omega) (aWd hR q1) (by omega) (by omega)
  exact ⟨R',Kf,Mw,.step (aWe (by omega) L ⟨rfl,by omega⟩ (aV (by omega)) rfl (by simp) (bOk _ _)) L2,p1,by omega,by omega⟩
end
theorem bSv(l:List Int)(nx st k most:Int)(hk:within k 0 4=true)(hn:0≤nx∧nx≤1000000)(hm:0≤most∧most≤200):∃ R Kg Ai,aAv k R∧(R.length:Int)≤most∧nx≤Kg∧Kg≤nx+100000 ∧
  FMM Tp 25 [.ptr 0 0,.p (aB k),.p (aB most)] [some (pY l nx st)] (.p (.agg [aB k,cD R])) [some (pY l Kg Ai)]:=by
 have d:=jT (most+1) l nx st;obtain ⟨N,hN⟩:∃ N:Nat,(aW (most+1) l nx st).1=(N:Int):=⟨((aW (most+1) l nx st).1).toNat,by omega⟩
 obtain ⟨R,Kg,Ai,L,h1,h2,h3⟩:=bFh (l:=l) (nx:=nx) (st:=st) (k:=k) (most:=most) N hN (by omega) _ 0 [] (aW (most+1) l nx st).2.1 (aW (most+1) l nx st).2.2 rfl (by omega) ⟨rfl,fun x h=>by simp at h,rfl,fun c h=>by simp at h⟩ (by omega) (by omega)
 have:=bSw (l:=l) (nx:=nx) (st:=st) (k:=k) (most:=most) (by show _∧_;omega) (by omega) L
 rw [fH] at this
 exact ⟨R,Kg,Ai,⟨hk,by rw [h1.len];omega,h1.ok,h1.ord⟩,by rw [h1.len];omega,by omega,by omega,this⟩
end KV
end Go.Proofs
end
namespace Go.Proofs
namespace KV
open Tryz
section
variable {v m1 t2:Int}{l:List Int}{base:Nat}
open Go.RowKit
theorem bPw:((0:Int) != 0)=false:=by first | decide | simp
abbrev aOb(l:List Int)(nx st k most:Int)(R:List (List Cel))(m t:Int):Prop:=FMM Tp 25 [.ptr 0 0,.p (aB k),.p (aB most)] [some (pY l nx st)] (.p (.agg [aB k,cD R])) [some (pY l m t)]
theorem aRo(k most:Int)(l:List Int)(nx st:Int){R:List (List Cel)}{m t:Int}(h:aOb l nx st k most R m t):FMM Tp 25 [.ptr 0 0,.p (aB k),.p (aB most)] [some (pY l nx st)] (.p (.agg [aB k,cD R])) [some (pY l m t)]:=h
theorem bPx(l:List Int):FMM Tp 26 [.p (.sl l.length (l.map dV))] [] (.ptr 0 0) [some (pY l 0 17)]:=cBw
theorem bSq(s:List UInt8){base:Nat}:FV Tp 33 [.p (aD s),.p (aD [10])] base (pI ((s.count 10:Nat):Int)) []:=FV.ofc rfl fun C w us hus hM=>by
 obtain rfl:=Gl rfl rfl hus;refine (Tryz.strings_Count_one ⟨s.toArray⟩ 10 w).mono ?_;rintro e w' ⟨rfl,rfl⟩;exact ⟨_,rfl,Below.refl _ _,.p _ _ (.v _)⟩
theorem cQ.wkS{C:Cx}{M:Mem}{w:World}:∀ {args:List AV} {us:List Value},cQ C M w args us→cQ C M w (args.map I3) us
 | [],_,h=>by cases h;exact .nil
 | x::l,_,h=>by
  cases h with
  | cons _ _ u us h1 h2=>exact .cons _ _ _ _ (yD h1) (cQ.wkS h2)
theorem FV.argw{P:Program}{f base:Nat}{args Am:List AV}{y:AV}{L:Upd}(h:FV P f Am base y L)(e:args.map I3=Am):FV P f args base y L:=by
 obtain ⟨r,M1,h1,h2⟩:=h;exact ⟨r,M1,fun C w us hus hM n=>h1 C w us (e ▸ hus.wkS) hM n,h2⟩
theorem aRp(k:Int){base:Nat}:FV Tp 28 [.p (.agg [aB k,bO])] base (.tup [.p (aD (bE k []).1),.p (aB (bE k []).2)]) []:=FV.argw (aAp k []) rfl
section
variable{R0:List (List Cel)}{u3 u4:List UInt8}(h0:aOb l 0 17 (bB v) 30 R0 m1 t2)(h1:((bE (bB v) R0).2)=0)(h2:((prM ((bE (bB v) R0).1)).2.2.2.2)=0)(h3:((prM ((bE (bB v) R0).1)).2.2.1)=0)(h4:((prM ((bE (bB v) R0).1)).2.2.2.1)=0)(h5:((prM ((bE (bB v) R0).1)).2.1).length≤100000)(h6:∀ r∈((prM ((bE (bB v) R0).1)).2.1),r.length≤100000)(h7:(decide (((prM ((bE (bB v) R0).1)).1)=(bB v)∧((prM ((bE (bB v) R0).1)).2.1)=R0))=true)(h8:((bE (bB v) R0).1).length<4294967281)(h9:1≤([10]:List UInt8).length)(A5:inR (((R0.length+3):Nat):Int))(Cm:((aL ((bE (bB v) R0).1) ([10]:List UInt8)).length:Int)=(((R0.length+3):Nat):Int))(Ba:inR (((aL ((bE (bB v) R0).1) ([10]:List UInt8)).length:Int)-1))(Cn:(aL ((bE (bB v) R0).1) ([10]:List UInt8))[(((aL ((bE (bB v) R0).1) ([10]:List UInt8)).length:Int)-1).toNat]? = some (u3))(D3:0≤(((aL ((bE (bB v) R0).1) ([10]:List UInt8)).length:Int)-1))(Eu:u3=([]:List UInt8))(Gs:inR (((aL ((bE (bB v) R0).1) ([10]:List UInt8)).length:Int)-2))(Ff:(aL ((bE (bB v) R0).1) ([10]:List UInt8))[(((aL ((bE (bB v) R0).1) ([10]:List UInt8)).length:Int)-2).toNat]? = some (u4))(H3:0≤(((aL ((bE (bB v) R0).1) ([10]:List UInt8)).length:Int)-2))(Ka:inR ((((bE (bB v) R0).1).length:Int)-(u4.length:Int)))(Kb:inR (((((bE (bB v) R0).1).length:Int)-(u4.length:Int))-1))(Mn:0≤(0:Int)∧(0:Int)≤(((((bE (bB v) R0).1).length:Int)-(u4.length:Int))-1)∧(((((bE (bB v) R0).1).length:Int)-(u4.length:Int))-1)≤(((bE (bB v) R0).1).length:Int))(Mo:(((bE (bB v) R0).1).take ((((((bE (bB v) R0).1).length:Int)-(u4.length:Int))-1).toNat)).length≤65536)(I4:((bE (bB v) []).2)=0)(Mp:0≤(bI (((bE (bB v) R0).1).take ((((((bE (bB v) R0).1).length:Int)-(u4.length:Int))-1).toNat)))∧(bI (((bE (bB v) R0).1).take ((((((bE (bB v) R0).1).length:Int)-(u4.length:Int))-1).toNat)))≤1000000000)(Mq:([115,117,109,32]:List UInt8).length+(Lib.itoa (bI (((bE (bB v) R0).1).take ((((((bE (bB v) R0).1).length:Int)-(u4.length:Int))-1).toNat)))).length≤4611686018427387904)(Kc:u4=(([115,117,109,32]:List UInt8)++(Lib.itoa (bI (((bE (bB v) R0).1).take ((((((bE (bB v) R0).1).length:Int)-(u4.length:Int))-1).toNat))))))(Mr:(Lib.hasPrefix ((bE (bB v) []).1) ([107,108,105,115,116,101,114,32]:List UInt8))=true)
include h0 h1 h2 h3 h4 h5 h6 h7 h8 h9 A5 Cm Ba Cn D3 Eu Gs Ff H3 Ka Kb Mn Mo I4 Mp Mq Kc Mr
theorem bLr{x:List UInt8}(Ms:((prM x).2.2.2.2)=0)(Mt:((bE ((prM x).1) ((prM x).2.1)).2)=0)(Kd:((bE ((prM x).1) ((prM x).2.1)).1)=x)(Ke:((prM x).2.2.1)=0)(Lo:((prM x).2.2.2.1)=0)(Mu:bHd):FV Tp 5 [(.p (.sl l.length (l.map dV))),(pI v),(.p (aD x))] base (pB true) []:=by
 have k1:=mq [] 0 (bPx l);have k2:=mq [0] 1 (aRo (bB v) 30 l 0 17 h0);have k3:=fk 2 (aAp (bB v) R0) rfl;have k4:=fk 2 (wI ((bE (bB v) R0).1)) rfl;have k5:=fk 3 (aOc ((prM ((bE (bB v) R0).1)).1) ((prM ((bE (bB v) R0).1)).2.1) (bB v) R0 h5 h6) rfl;have k6:=fk 3 (eE ((bE (bB v) R0).1) ([10]:List UInt8) h8 h9) rfl;have k7:=fk 3 (jP (((bE (bB v) R0).1).take ((((((bE (bB v) R0).1).length:Int)-(u4.length:Int))-1).toNat)) Mo) rfl;have k8:=fk 3 (aRp (bB v)) rfl;have k9:=fk 3 (bFp (bI (((bE (bB v) R0).1).take ((((((bE (bB v) R0).1).length:Int)-(u4.length:Int))-1).toNat))) Mp) rfl;have Il:=fk 3 (aLz ((bE (bB v) []).1) ([107,108,105,115,116,101,114,32]:List UInt8)) rfl;have F9:=fk 3 (wI x) rfl;have Ga:=fk 4 (aAp ((prM x).1) ((prM x).2.1)) rfl;exact FV.fi func5 ([k1.o,.c (pI (bB v)) [],k2.o,k3.o,k4.o]++rF 12++[k5.o,bF,bF,bF,k6.o]++rF 6++[.x (aD u3),bF,bF,bF,.x (aD u4),k7.o,k8.o]++rF 6++[k9.o]++rF 5++[Il.o,bF,bF,bF,F9.o,bT,Ga.o]++rT 11++[.c (pB true) [],bT]) (gc (dC Lo) (gc (fk 4 (Mu _) rfl) (gc (dC Lo) (Ay (dC Ke) (gt ((decide (((bE ((prM x).1) ((prM x).2.1)).1)=x))=true) (decide_eq_true Kd) (gt ((decide (((bE ((prM x).1) ((prM x).2.1)).1)=x))=true) (decide_eq_true Kd) (gt ((decide (((bE ((prM x).1) ((prM x).2.1)).1)=x))=true) (decide_eq_true Kd) (Gm (dC Mt) (gc Ga (gc (dC Ms) (gc F9 (gc (aU Mr) (A2 (aU (decide_eq_true Kc)) (gc Il (A2 (aU (decide_eq_true Kc)) (A2 (bK I4) (gc Mq (gc (bK I4) (gc k9 (Ay (bK I4) (Ay bPw (gc k8 (gc k7 (gc Mn (gc Kb (gc Ka (gt ((((aL ((bE (bB v) R0).1) ([10]:List UInt8)).map stE).flatten)[((((aL ((bE (bB v) R0).1) ([10]:List UInt8)).length:Int)-2).toNat*1)]? = some (aD u4)) (aM (E:=stE) (i:=(((aL ((bE (bB v) R0).1) ([10]:List UInt8)).length:Int)-2).toNat) (f:=0) (k:=1) (fun _=>rfl) Ff rfl) (gc (bC (E:=stE) (k:=1) (i:=(((aL ((bE (bB v) R0).1) ([10]:List UInt8)).length:Int)-2)) (fun _=>rfl) (by decide) H3 Ff) (gc Gs (gc (aU (decide_eq_true Eu)) (A2 (bK Cm) (gt ((((aL ((bE (bB v) R0).1) ([10]:List UInt8)).map stE).flatten)[((((aL ((bE (bB v) R0).1) ([10]:List UInt8)).length:Int)-1).toNat*1)]? = some (aD u3)) (aM (E:=stE) (i:=(((aL ((bE (bB v) R0).1) ([10]:List UInt8)).length:Int)-1).toNat) (f:=0) (k:=1) (fun _=>rfl) Cn rfl) (gc (bK Cm) (gc (bC (E:=stE) (k:=1) (i:=(((aL ((bE (bB v) R0).1) ([10]:List UInt8)).length:Int)-1)) (fun _=>rfl) (by decide) D3 Cn) (gc (bK Cm) (gc Ba (Gm (bK Cm) (gc A5 (gc k6 (gc (aU h7) (A2 (bK h4) (gc k5 (Ay (bK h4) (Ay (bK h3) (Ay (bK h2) (Ay (bK h1) (gc k4 (gc k3 (gc k2 (gc (fk 1 (bFn v) rfl) (gc k1 gn)))))))))))))))))))))))))))))))))))))))))))))))))))
theorem bLs{x:List UInt8}(Ms:((prM x).2.2.2.2)≠0)(Mt:((((prM x).2.2.2.2) == 10) == (decide ((x.length:Int) > 65536)))=true)(Kd:((decide (((prM x).2.2.1) > 0)) == (((prM x).2.2.2.2) != 10))=true)(Ke:((decide (((prM x).2.2.2.1) > 0)) == (decide (((prM x).2.2.1) > 0)))=true)(Lo:inR (((x.count 10:Nat):Int)+1))(Mu:((prM x).2.2.1)≤(((x.count 10:Nat):Int)+1))(Ol:(((prM x).2.1).length:Int)=0)(Pq:bHd):FV Tp 5 [(.p (.sl l.length (l.map dV))),(pI v),(.p (aD x))] base (pB true) []:=by
 have k1:=mq [] 0 (bPx l);have k2:=mq [0] 1 (aRo (bB v) 30 l 0 17 h0);have k3:=fk 2 (aAp (bB v) R0) rfl;have k4:=fk 2 (wI ((bE (bB v) R0).1)) rfl;have k5:=fk 3 (aOc ((prM ((bE (bB v) R0).1)).1) ((prM ((bE (bB v) R0).1)).2.1) (bB v) R0 h5 h6) rfl;have k6:=fk 3 (eE ((bE (bB v) R0).1) ([10]:List UInt8) h8 h9) rfl;have k7:=fk 3 (jP (((bE (bB v) R0).1).take ((((((bE (bB v) R0).1).length:Int)-(u4.length:Int))-1).toNat)) Mo) rfl;have k8:=fk 3 (aRp (bB v)) rfl;have k9:=fk 3 (bFp (bI (((bE (bB v) R0).1).take ((((((bE (bB v) R0).1).length:Int)-(u4.length:Int))-1).toNat))) Mp) rfl;have Il:=fk 3 (aLz ((bE (bB v) []).1) ([107,108,105,115,116,101,114,32]:List UInt8)) rfl;have F9:=fk 3 (wI x) rfl;have Ga:=fk 4 (bSq x) rfl;exact FV.fi func5 ([k1.o,.c (pI (bB v)) [],k2.o,k3.o,k4.o]++rF 12++[k5.o,bF,bF,bF,k6.o]++rF 6++[.x (aD u3),bF,bF,bF,.x (aD u4),k7.o,k8.o]++rF 6++[k9.o]++rF 5++[Il.o,bF,bF,bF,F9.o,bF]++rT 15++[Ga.o]++rT 9++[.c (pB true) [],bT]) (gc (dC Ol) (gc (fk 4 (Pq _) rfl) (gc (dC Ol) (Cw (mB Mu) (A2 Ke (gc Lo (gc Ke (gc Ga (Ay Ke (Hq Kd (Hq Mt (gc (bP Ms) (gc F9 (gc (aU Mr) (A2 (aU (decide_eq_true Kc)) (gc Il (A2 (aU (decide_eq_true Kc)) (A2 (bK I4) (gc Mq (gc (bK I4) (gc k9 (Ay (bK I4) (Ay bPw (gc k8 (gc k7 (gc Mn (gc Kb (gc Ka (gt ((((aL ((bE (bB v) R0).1) ([10]:List UInt8)).map stE).flatten)[((((aL ((bE (bB v) R0).1) ([10]:List UInt8)).length:Int)-2).toNat*1)]? = some (aD u4)) (aM (E:=stE) (i:=(((aL ((bE (bB v) R0).1) ([10]:List UInt8)).length:Int)-2).toNat) (f:=0) (k:=1) (fun _=>rfl) Ff rfl) (gc (bC (E:=stE) (k:=1) (i:=(((aL ((bE (bB v) R0).1) ([10]:List UInt8)).length:Int)-2)) (fun _=>rfl) (by decide) H3 Ff) (gc Gs (gc (aU (decide_eq_true Eu)) (A2 (bK Cm) (gt ((((aL ((bE (bB v) R0).1) ([10]:List UInt8)).map stE).flatten)[((((aL ((bE (bB v) R0).1) ([10]:List UInt8)).length:Int)-1).toNat*1)]? = some (aD u3)) (aM (E:=stE) (i:=(((aL ((bE (bB v) R0).1) ([10]:List UInt8)).length:Int)-1).toNat) (f:=0) (k:=1) (fun _=>rfl) Cn rfl) (gc (bK Cm) (gc (bC (E:=stE) (k:=1) (i:=(((aL ((bE (bB v) R0).1) ([10]:List UInt8)).length:Int)-1)) (fun _=>rfl) (by decide) D3 Cn) (gc (bK Cm) (gc Ba (Gm (bK Cm) (gc A5 (gc k6 (gc (aU h7) (A2 (bK h4) (gc k5 (Ay (bK h4) (Ay (bK h3) (Ay (bK h2) (Ay (bK h1) (gc k4 (gc k3 (gc k2 (gc (fk 1 (bFn v) rfl) (gc k1 gn)))))))))))))))))))))))))))))))))))))))))))))))))))))
end
end
end KV
end Go.Proofs
section
namespace Go.Proofs
open Go.RowKit
namespace KV
open Tryz
theorem aDs:∀ (k:Nat) (s:List UInt8),s.length≤k→(bW s).length≤s.count 10+1∧((∀ y∈bW s,y.2=true)→(bW s).length≤s.count 10)
 | 0,s,h=>by
  have:s=[]:=pA (by omega)
  subst this;exact ⟨Nat.zero_le _,fun _=>Bb _⟩
 | k+1,s,h=>by
  by_cases hs:s=[]
  ·subst hs;exact ⟨Nat.zero_le _,fun _=>Bb _⟩
  ·have hlt:=tB (s:=s) (x:=[10]) hs (by simp)
   obtain ⟨i1,i2⟩:=aDs k (Lib.cut s [10]).2.1 (by omega)
   rw [eO hs,eY]
   rcases (bHw s).1 with ⟨_,h3⟩ | ⟨h3,_,h5⟩
   ·have hc:s.count 10=(Lib.cut s [10]).1.count 10+((Lib.cut s [10]).2.1.count 10+1):=by
     conv=>lhs;rw [h3]
     rw [List.count_append,List.count_cons_self]
    exact ⟨by omega,fun hy=>by
     have:=i2 fun y hm=>hy y (Ci _ hm)
     omega⟩
   ·rw [h5,lI]
    refine ⟨by simp,fun hy => ?_⟩
    have:=hy ((Lib.cut s [10]).1,(Lib.cut s [10]).2.2) (iK ..);rw [h3] at this;cases this
theorem aVy{u v:List UInt8}(h:10∉u):Lib.splitK [10] 0 (Lib.count (u++10::v) [10]) (u++10::v)=u::Lib.splitK [10] 0 (Lib.count v [10]) v:=by
 have hi:=aAt 10 v u h;have hd:(u++10::v).drop (u.length+1)=v:=by
  rw [show u.length+1=(u++[10]).length by simp,show u++10::v=(u++[10])++v by simp,List.drop_left]
 rw [Lib.count_hit (i:=u.length) (by simp) hi,List.length_singleton,hd,Nat.add_comm 1,Lib.splitK,hi,List.length_singleton,Int.toNat_natCast,hd,Nat.add_zero,List.take_left]
 have:¬ ((u.length:Int) == -1)=true:=by simp
 rw [if_neg this]
theorem aKb:∀ ls:List (List UInt8),(∀ l∈ls,∀ b∈l,b≠10)→aL (txL ls) [10]=ls++[[]]
 | [],_=>by decide
 | l::ls,h=>by
  rw [gJ];have:=aVy (u:=l) (v:=txL ls) (fun q=>h l (iK ..) 10 q rfl)
  show Lib.splitK [10] 0 (Lib.count (l++10::txL ls) [10]) (l++10::txL ls)=_;rw [this];have ih:=aKb ls fun l' hl=>h l' (Ci _ hl)
  show l::aL (txL ls) [10]=_;rw [ih];rfl
theorem bSm(fs:List (List UInt8)):(hdM fs).2.2.2≠10∧((hdM fs).2.2.2≠0→1≤(hdM fs).2.2.1):=by
 have hb:=lZ (fld fs 2) 200 (by decide)
 unfold hdM
 repeat' split
 all_goals refine ⟨?_,fun h => ?_⟩
 all_goals dsimp only at *
 all_goals omega
theorem bSn(t:Int)(u:List UInt8):(rdM t u).2≠10:=by
 have hb:=lZ u 999999 (by decide)
 have hp:(paM u).2≠10:=by
  unfold paM
  repeat' split
  all_goals (dsimp only;decide)
 unfold rdM
 repeat' split
 all_goals dsimp only
 all_goals first | exact hp | omega
theorem aRl:∀ (ts:List Int) (us:List (List UInt8)) (i:Nat) (p:Int × Int),rdL ts us i = .inr p→p.2≠10∧1≤p.1
 | [],us,i,p,h=>by cases h
 | t::ts,[],i,p,h=>by cases h;exact ⟨show (11:Int)≠10 by decide,by dsimp only;omega⟩
 | t::ts,u::us,i,p,h=>by
  unfold rdL at h
  split at h
  ·cases h;exact ⟨bSn t u,by dsimp only;omega⟩
  ·split at h
   ·cases h
   ·rename_i p' h2
    cases h;exact aRl ts us (i+1) p h2
theorem bSo(fs:List (List UInt8))(v:Int):(lsM fs v).2≠10∧((lsM fs v).2≠0→1≤(lsM fs v).1):=by
 have hb:=lZ (fld fs 1) 65520 (by decide)
 have hc:lsC fs v≠10:=by
  unfold lsC
  split <;> omega
 unfold lsM
 repeat' split
 all_goals refine ⟨?_,fun h => ?_⟩
 all_goals dsimp only at *
 all_goals first | exact hc | omega
theorem bLp{s:List UInt8}{a:PS}{x:List UInt8 × Bool}{e:PS × Int × Int × Int}(h:prF s a x = .error e):e.2.2.2≠10∧1≤e.2.2.1:=by
 unfold prF at h
 split at h
 ·cases h;exact ⟨show (11:Int)≠10 by decide,show (1:Int)≤1 by decide⟩
 ·split at h
  ·split at h
   ·rename_i q
    cases h;have:=bSm (aL x.1 [32]);exact ⟨this.1,this.2 q⟩
   ·cases h
  ·split at h
   ·split at h
    ·rename_i p q
     cases h;exact aRl _ _ _ _ q
    ·split at h
     ·cases h;exact ⟨show (11:Int)≠10 by decide,by dsimp only;omega⟩
     ·split at h
      ·cases h
      ·split at h
       ·cases h
       ·cases h
        refine ⟨?_,show (1:Int)≤1 by decide⟩
        dsimp only
        split <;> decide
   ·split at h
    ·rename_i q
     cases h;have:=bSo (aL x.1 [32]) (bI (s.take a.bf));exact ⟨this.1,this.2 q⟩
    ·cases h
theorem aRm{s:List UInt8}:∀ (l:List (List UInt8 × Bool)) (a:PS) (e:PS × Int × Int × Int),itB (prF s) a l = .error e→e.2.2.2≠10∧1≤e.2.2.1
 | [],a,e,h=>by cases h
 | x::l,a,e,h=>by
  cases hf:prF s a x with
  | error e'=>rw [aHf _ hf] at h;cases h;exact bLp hf
  | ok b=>rw [qH _ hf] at h;exact aRm l b e h
theorem bFb{s:List UInt8}(h:(prM s).2.2.2.2≠0):((prM s).2.2.2.2=10↔65536<s.length)∧(0<(prM s).2.2.1↔(prM s).2.2.2.2≠10)∧(0<(prM s).2.2.2.1↔0<(prM s).2.2.1)∧(prM s).2.2.1≤((s.count 10:Nat):Int)+1∧(prM s).2.1=[]:=by
 obtain ⟨c1,c2⟩:=aDs _ s (Bb _);unfold prM at h ⊢
 by_cases hs:65536<s.length
 ·rw [if_pos hs]
  dsimp only;refine ⟨by simp [hs],by simp,by simp,by omega,rfl⟩
 ·rw [if_neg hs] at h ⊢
  cases hi:itB (prF s) prA (bW s) with
  | error e =>
   obtain ⟨q1,q2,q3⟩:=aGy _ _ _ hi;obtain ⟨q4,q5⟩:=aRm _ _ _ hi;have:prA.nr=0:=rfl;dsimp only;exact ⟨⟨fun e=>absurd e q4,fun e=>absurd e hs⟩,⟨fun _=>q4,fun _=>by omega⟩,⟨fun _=>by omega,fun _=>by omega⟩,by omega,rfl⟩
  | ok a =>
   rw [hi] at h
   dsimp only at h ⊢
   by_cases hd:a.dn=true
   ·rw [if_pos hd] at h;exact absurd rfl h
   ·rw [if_neg hd]
    have hO:=nO (bW s) [] prA a wH hi;have hnr:=hO.nr;have hen:=hO.ended;rw [List.nil_append] at hnr hen
    have:=c2 hen;dsimp only;exact ⟨⟨fun e=>absurd e (show ¬ ((11:Int)=10) by decide),fun e=>absurd e hs⟩,⟨fun _=>show (11:Int)≠10 by decide,fun _=>by omega⟩,⟨fun _=>by omega,fun _=>by decide⟩,by omega,rfl⟩
theorem aRn(v:Int):iR v=[115,117,109,32]++Lib.itoa v:=by
 unfold iR;rw [gP,qG];rfl
theorem aVz(k n:Int):∃ r,lG k n=[107,108,105,115,116,101,114,32]++r:=by
 unfold lG;rw [gP];exact ⟨_,rfl⟩
theorem bLq(p r:List UInt8):Lib.hasPrefix (p++r) p=true:=by
 unfold Lib.hasPrefix
 induction p with
 | nil=>simp
 | cons c p ih=>simp
theorem cBu(b:Bool){p q:Prop}[Decidable p][Decidable q](h:p↔q):(decide p == decide q)=true:=by
 by_cases hp:p
 ·rw [decide_eq_true hp,decide_eq_true (h.1 hp)];rfl
 ·rw [decide_eq_false hp,decide_eq_false (fun e=>hp (h.2 e))];rfl
theorem bSp(l:List Int)(v:Int)(x:List UInt8)(hx:x.length≤1000000000000000)(ha:bHd){base:Nat}:FV Tp 5 [.p (.sl l.length (l.map dV)),.p (aB v),.p (aD x)] base (.p (blP true)) []:=by
 obtain ⟨R,m,t,hG,hn,_,_,hM⟩:=bSv l 0 17 (bB v) 30 (aRr v) (by decide) (by decide)
 have hc:=aPj hG;have hp:=bOb hc;have hbl:=uU hc;have hV:=aGx (dX (bB v) R);have hsv:lE (dX (bB v) R)=bI (dX (bB v) R):=if_pos (by omega)
 have hpe:(bE (bB v) R).2=0:=by rw [sZ hc]
 have htx:(bE (bB v) R).1=txL (eF (bB v) R++[iR (bI (dX (bB v) R))]):=by rw [sZ hc,hsv]
 rw [hsv] at hV
 have hsl:=aKq hV.1 hV.2;have htl:(bE (bB v) R).1.length=(dX (bB v) R).length+((iR (bI (dX (bB v) R))).length+1):=by
  rw [htx,rK,← lH,B4,gJ];simp [txL]
 have hno:∀ y∈eF (bB v) R++[iR (bI (dX (bB v) R))],∀ b∈y,b≠10:=fun y hy=>by
  rcases oG.1 hy with h | h
  ·exact aEj hG y h
  ·rw [List.mem_singleton] at h;subst h
   exact nK _ (aGz hV.1)
 have hs:aL (bE (bB v) R).1 [10]=eF (bB v) R++[iR (bI (dX (bB v) R))]++[[]]:=by rw [htx,aKb _ hno]
 have Cl:(eF (bB v) R).length=R.length+1:=by unfold eF;rw [eY,mE]
 have hlen:(aL (bE (bB v) R).1 [10]).length=R.length+3:=by rw [hs,B4,B4,Cl];rfl
 have i1:(((aL (bE (bB v) R).1 ([10]:List UInt8)).length:Int)-(1:Int)).toNat=R.length+2:=by rw [hlen];omega
 have i2:(((aL (bE (bB v) R).1 ([10]:List UInt8)).length:Int)-(2:Int)).toNat=R.length+1:=by rw [hlen];omega
 have g1:(aL (bE (bB v) R).1 ([10]:List UInt8))[R.length+2]? = some []:=by
  rw [hs,aGi (by rw [B4,Cl];exact Bb _),B4,Cl,show R.length+2-(R.length+1+[iR (bI (dX (bB v) R))].length)=0 by rw [List.length_singleton];omega]
  rfl
 have g2:(aL (bE (bB v) R).1 ([10]:List UInt8))[R.length+1]? = some (iR (bI (dX (bB v) R))):=by
  rw [hs,List.append_assoc,aGi (by omega),Cl,aVs]
  rfl
 have hk:(bE (bB v) R).1.take ((((bE (bB v) R).1.length:Int)-((iR (bI (dX (bB v) R))).length:Int))-(1:Int)).toNat=dX (bB v) R:=by
  rw [show ((((bE (bB v) R).1.length:Int)-((iR (bI (dX (bB v) R))).length:Int))-(1:Int)).toNat=(txL (eF (bB v) R)).length by rw [htl,lH];omega,htx,rK,List.take_left,lH]
 have hnil:dW (bB v) []=0:=aPj ⟨aRr v,by decide,fun y h=>by simp at h,rfl⟩
 have hpn:(bE (bB v) []).2=0:=by rw [sZ hnil]
 have hpp:Lib.hasPrefix (bE (bB v) []).1 ([107,108,105,115,116,101,114,32]:List UInt8)=true:=by
  rw [sZ hnil];obtain ⟨r,hr⟩:=aVz (bB v) 0;show Lib.hasPrefix (txL (lG (bB v) 0::_)) _=true;rw [gJ,hr,List.append_assoc];exact bLq _ _
 have hil:=itl (n:=bI (dX (bB v) R)) (by omega)
 have hrow:∀ r∈R,r.length≤100000:=fun r hr=>by
  rw [(hG.ok r hr).len];have:=jW (bB v);omega
 have hRn:=hG.n;have a2:(prM (bE (bB v) R).1).2.2.2.2=0:=by rw [hp]
 have a3:(prM (bE (bB v) R).1).2.2.1=0:=by rw [hp]
 have a4:(prM (bE (bB v) R).1).2.2.2.1=0:=by rw [hp]
 have a5:(prM (bE (bB v) R).1).2.1.length≤100000:=by rw [hp];dsimp only;omega
 have a6:∀ r∈(prM (bE (bB v) R).1).2.1,r.length≤100000:=by rw [hp];exact hrow
 have a7:decide ((prM (bE (bB v) R).1).1=bB v∧(prM (bE (bB v) R).1).2.1=R)=true:=by rw [hp];simp
 by_cases he:(prM x).2.2.2.2=0
 ·obtain ⟨p1,p2,p3,p4⟩:=bOd he
  exact bLr hM hpe a2 a3 a4 a5 a6 a7 (by omega) (by decide) (aV (by omega)) (by rw [hlen]) (by show _∧_;omega) (by rw [i1];exact g1) (by omega) rfl (by show _∧_;omega) (by rw [i2];exact g2) (by omega)
   (by show _∧_;omega) (by show _∧_;omega) (by omega) (by rw [hk];omega) hpn (by rw [hk];omega) (by rw [hk];simp;omega) (by rw [hk];exact aRn _) hpp he (by rw [p2]) (by rw [p2]) p3 p4 ha
 ·obtain ⟨q1,q2,q3,q4,q5⟩:=bFb he
  have hcx:x.count 10≤x.length:=List.count_le_length;have e1:(((prM x).2.2.2.2 == (10:Int)) == decide ((x.length:Int) > (65536:Int)))=true:=by
   by_cases h:(prM x).2.2.2.2=10
   ·have:=q1.1 h
    rw [show ((prM x).2.2.2.2 == (10:Int))=true by simpa using h,decide_eq_true (by omega)];rfl
   ·have:¬ 65536<x.length:=fun e=>h (q1.2 e)
    rw [show ((prM x).2.2.2.2 == (10:Int))=false by simpa using h,decide_eq_false (by omega)];rfl
  have e2:(decide ((prM x).2.2.1 > (0:Int)) == ((prM x).2.2.2.2 != (10:Int)))=true:=by
   by_cases h:(prM x).2.2.2.2=10
   ·have:¬ 0<(prM x).2.2.1:=fun e=>q2.1 e h
    rw [show ((prM x).2.2.2.2 != (10:Int))=false by simpa using h,decide_eq_false (by omega)];rfl
   ·have:=q2.2 h
    rw [show ((prM x).2.2.2.2 != (10:Int))=true by simpa using h,decide_eq_true (by omega)];rfl
  exact bLs hM hpe a2 a3 a4 a5 a6 a7 (by omega) (by decide) (aV (by omega)) (by rw [hlen]) (by show _∧_;omega) (by rw [i1];exact g1) (by omega) rfl (by show _∧_;omega) (by rw [i2];exact g2) (by omega)
   (by show _∧_;omega) (by show _∧_;omega) (by omega) (by rw [hk];omega) hpn (by rw [hk];omega) (by rw [hk];simp;omega) (by rw [hk];exact aRn _) hpp he e1 e2 (cBu true q3) (by show _∧_;omega) q4 (by rw [q5];rfl) ha
end KV
end Go.Proofs
end
section
namespace Go.Proofs
open Go.RowKit
namespace KV
open Tryz
abbrev itV(it:Nat):Value := .pointer (some ⟨it,0,none⟩)
def iU(W:World)(it:Nat)(s:ByteArray)(pos:Nat):World:={ W with heap:=W.heap.setIfInBounds it (.stringIter s pos) }
theorem bBc{P:Program}{W:World}{it pos:Nat}{s:ByteArray}{ty:TypeId}(h:W.heap[it]? = some (.stringIter s pos))(hp:pos<s.size) :
  (Instr.next (itV it) true ty).run P W = .ok (.tuple #[.bool true,.int .i64 pos,.int .i32 (Utf8.decode s pos).1]) (iU W it s (pos+(Utf8.decode s pos).2)):=by
 simp only [Instr.next,getObj,setObj,Sem.run_bind,Sem.run,h,Result.andThen,hp,if_true];simp [goInt,Sem.run,h,iU]
theorem bBd{P:Program}{W:World}{it pos:Nat}{s:ByteArray}{ty:TypeId}(h:W.heap[it]? = some (.stringIter s pos))(hp:¬ pos<s.size) :
  (Instr.next (itV it) true ty).run P W = .ok (.tuple #[.bool false]) W:=by
 simp [Instr.next,getObj,Sem.run,h,hp]
theorem jY{W:World}{it pos c:Nat}{s:ByteArray}(h:c≠it):(iU W it s pos).heap[c]? = W.heap[c]? := by
 simp [iU,Array.getElem?_setIfInBounds,Ne.symm h]
theorem bIv{W:World}{it pos:Nat}{s:ByteArray}(h:it<W.heap.size):(iU W it s pos).heap[it]? = some (.stringIter s pos):=by
 simp [iU,h]
theorem tG{W:World}{it pos:Nat}{s:ByteArray}:(iU W it s pos).heap.size=W.heap.size:=by simp [iU]
structure aTa (C:Cx) (M:Mem) (w0 W:World) (it:Nat):Prop where
 nF:¬ C.F it
 nL:∀ (id:Nat) (o:AO),M[id]? = some (some o)→o.live=true→C.ι id≠some it
 lt:it<W.heap.size
 ge:w0.heap.size≤it
variable {P:Program} {C C0:Cx} {M M0:Mem} {w0 W:World}
theorem bZr{it pos:Nat}{s:ByteArray}(hM:aX P C M W)(hL:aTa C M w0 W it):aX P C M (iU W it s pos):=by
 have hFz:∀ c,C.F c→(iU W it s pos).heap[c]? = W.heap[c]? := fun c hc=>jY (fun e=>hL.nF (e ▸ hc))
 have hLe:Le C C M M W (iU W it s pos):=⟨fun _ o h=>⟨o,h⟩,fun _ _ _ _ _ cs h=>⟨cs,h⟩,fun _ o h o' h' hl=>by rw [h] at h';cases h';exact ⟨hl,rfl,rfl⟩,fun _ h=>h,hFz⟩
 refine ⟨fun i ty n cs hm => ?_,fun i ty cs hm => ?_,fun i es cl hm => ?_,hM.inj,hM.nF,fun c hc=>by rw [tG];exact hM.Fs c hc,fun i o c ho hl hb=>by rw [tG];exact hM.lt i o c ho hl hb,hM.lib.le hLe⟩
 ·rcases hM.row _ _ _ _ hm with h4 | ⟨c,arr,inf,q0,q1,q2,q3,q4,q5,q6,q7,q8⟩
  ·exact .inl h4
  ·exact .inr ⟨c,arr,inf,q0,(jY (fun (e:c=it)=>hL.nL _ _ hm rfl (by rw [← e];exact q0))).trans q1,q2,q3,q4,q5,q6,fun j hj=>(q7 j hj).mono hLe.F hLe.fz,q8⟩
 ·obtain ⟨c,arr,q0,q1,q2,q3,q4⟩:=hM.box _ _ _ hm
  exact ⟨c,arr,q0,(jY (fun (e:c=it)=>hL.nL _ _ hm rfl (by rw [← e];exact q0))).trans q1,q2,fun j hj=>(q3 j hj).mono hLe,q4⟩
 ·obtain ⟨c,arr,q0,q1,q2,q3⟩:=hM.mp _ _ _ hm
  refine ⟨c,arr,q0,(jY (fun (e:c=it)=>hL.nL _ _ hm rfl (by rw [← e];exact q0))).trans q1,q2,fun j hj => ?_⟩
  obtain ⟨en,r1,r2,r3,r4⟩:=q3 j hj;exact ⟨en,r1,r2,r3,r4.mono hLe.F hLe.fz⟩
theorem cCy{it pos:Nat}{s:ByteArray}(hL:aTa C M w0 W it):Le C C M M W (iU W it s pos) :=
 ⟨fun _ o h=>⟨o,h⟩,fun _ _ _ _ _ cs h=>⟨cs,h⟩,fun _ o h o' h' hl=>by rw [h] at h';cases h';exact ⟨hl,rfl,rfl⟩,fun _ h=>h,fun c hc=>jY (fun e=>hL.nF (e ▸ hc))⟩
theorem cCz{it pos:Nat}{s:ByteArray}(f:Fr C0 M0 w0 C M W)(hL:aTa C M w0 W it):Fr C0 M0 w0 C M (iU W it s pos):=by
 refine ⟨f.os,f.tape,f.out,by rw [tG];exact f.size,fun c hc hn=>(jY (fun e => ?_)).trans (f.keep c hc hn),f.ids,f.row,f.liv,f.new,f.F1,f.F2⟩
 have:=hL.ge;omega
inductive Runes (s:ByteArray):Nat→List (Nat × Nat)→Prop
 | nil {pos:Nat} (h:¬ pos<s.size):Runes s pos []
 | cons {pos:Nat} {c wd:Nat} {l:List (Nat × Nat)} (h:pos<s.size) (hd:Utf8.decode s pos=(c,wd)) (hr:Runes s (pos+wd) l):Runes s pos ((pos,c)::l)
abbrev nxR(id gi d c El Ej:Nat)(p1 p2:String):Code := .region id #[{ dst:=some d,op := .next (.tmp gi) true,type:=El,pos:=p1,after := #[],guard:=none },{ dst:=some c,op := .extract (.tmp d) 0,type:=Ej,pos:=p2,after := #[{ on:=0,ground:=Ground.data }],guard:=none }] false
def nxT(T:List AV)(d c pos r:Nat):List AV:=put (put T (some d) (.tup [.p (blP true),.p (aB (pos:Int)),.p (.v (.int .i32 (r:Int)))])) (some c) (.p (blP true))
theorem cDa{ro:Option Nat}{n id gi d c El Ej pos:Nat}{p1 p2:String}{s:ByteArray}{Q:Exit→Act→World→Prop}{a:Act}{it:Nat}(hg:a.eval (.tmp gi)=itV it)(hW:W.heap[it]? = some (.stringIter s pos))(hp:pos<s.size){K:Act→World→Prop}
  (hd:d<a.tmps.size)
  (h:K ((a.put (some d) (.tuple #[.bool true,.int .i64 pos,.int .i32 (Utf8.decode s pos).1])).put (some c) (.bool true)) (iU W it s (pos+(Utf8.decode s pos).2))):(nxR id gi d c El Ej p1 p2).wpIn (Fen ro) n Tp (Exit.then K Q) a W:=by
 refine wpIn_region_lit (wpListIn_plain rfl fun K' H7 => ?_)
 unfold Oper.wpIn;refine ⟨fun f hf => ?_,?_⟩
 ·simp [Oper.about] at hf
 rw [Oper.semAt_plain _ _ _ (by intro c Dp;cases Dp)]
 simp only [execOp,hg,Sem.run_bind,bBc hW hp,Result.andThen,Sem.run_pure];refine H7 _ _ (wpListIn_plain rfl fun K2 Jk => ?_)
 unfold Oper.wpIn;refine ⟨fun f hf => ?_,?_⟩
 ·simp [Oper.about] at hf
 rw [Oper.semAt_plain _ _ _ (by intro c Dp;cases Dp)]
 have he:(a.put (some d) (.tuple #[.bool true,.int .i64 pos,.int .i32 (Utf8.decode s pos).1])).eval (.tmp d) = .tuple #[.bool true,.int .i64 pos,.int .i32 (Utf8.decode s pos).1]:=by
  simp [Act.put,Act.eval,hd]
 simp only [execOp,he];simp [Instr.extract,Sem.run];exact Jk _ _ (wpListIn_nil h)
theorem bZs{ro:Option Nat}{n id gi d c El Ej pos:Nat}{p1 p2:String}{s:ByteArray}{Q:Exit→Act→World→Prop}{a:Act}{it:Nat}(hg:a.eval (.tmp gi)=itV it)(hW:W.heap[it]? = some (.stringIter s pos))(hp:¬ pos<s.size){K:Act→World→Prop}
  (hd:d<a.tmps.size)
  (h:K ((a.put (some d) (.tuple #[.bool false])).put (some c) (.bool false)) W):(nxR id gi d c El Ej p1 p2).wpIn (Fen ro) n Tp (Exit.then K Q) a W:=by
 refine wpIn_region_lit (wpListIn_plain rfl fun K' H7 => ?_)
 unfold Oper.wpIn;refine ⟨fun f hf => ?_,?_⟩
 ·simp [Oper.about] at hf
 rw [Oper.semAt_plain _ _ _ (by intro c Dp;cases Dp)]
 simp only [execOp,hg,Sem.run_bind,bBd hW hp,Result.andThen,Sem.run_pure];refine H7 _ _ (wpListIn_plain rfl fun K2 Jk => ?_)
 unfold Oper.wpIn;refine ⟨fun f hf => ?_,?_⟩
 ·simp [Oper.about] at hf
 rw [Oper.semAt_plain _ _ _ (by intro c Dp;cases Dp)]
 have he:(a.put (some d) (.tuple #[.bool false])).eval (.tmp d) = .tuple #[.bool false]:=by
  simp [Act.put,Act.eval,hd]
 simp only [execOp,he];simp [Instr.extract,Sem.run];exact Jk _ _ (wpListIn_nil h)
abbrev rgR(id i0 m gi El Ej tx:Nat)(p1 p2:String):Code := .region id #[{ dst:=some m,op := .move (.tmp i0),type:=El,pos:=p1,after := #[],guard:=none },{ dst:=some gi,op := .range tx (.tmp m),type:=Ej,pos:=p2,after := #[{ on:=0,ground:=Ground.data }],guard:=none }] false
theorem cDb{ro:Option Nat}{n id i0 m gi El Ej:Nat}{p1 p2:String}{s:ByteArray}{Q:Exit→Act→World→Prop}{a:Act}(hi:a.eval (.tmp i0) = .string s){K:Act→World→Prop}(hm:m<a.tmps.size)
  (h:K ((a.put (some m) (.string s)).put (some gi) (itV W.heap.size)) (W.alloc (.stringIter s 0))):(rgR id i0 m gi El Ej 9 p1 p2).wpIn (Fen ro) n Tp (Exit.then K Q) a W:=by
 refine wpIn_region_lit (wpListIn_plain rfl fun K' H7 => ?_)
 unfold Oper.wpIn;refine ⟨fun f hf => ?_,?_⟩
 ·simp [Oper.about] at hf
 rw [Oper.semAt_plain _ _ _ (by intro c Dp;cases Dp)]
 simp only [execOp,hi,Sem.run_pure];refine H7 _ _ (wpListIn_plain rfl fun K2 Jk => ?_)
 unfold Oper.wpIn;refine ⟨fun f hf => ?_,?_⟩
 ·simp [Oper.about] at hf
 rw [Oper.semAt_plain _ _ _ (by intro c Dp;cases Dp)]
 have he:(a.put (some m) (.string s)).eval (.tmp m) = .string s:=by
  simp [Act.put,Act.eval,hm]
 simp only [execOp,he];have hr:(Instr.range 9 (.string s)).run Tp W = .ok (itV W.heap.size) (W.alloc (.stringIter s 0)):=by
  exact run_range_string W 9 s Tryz.underlying9
 simp only [Sem.run_bind,hr,Result.andThen,Sem.run_pure];exact Jk _ _ (wpListIn_nil h)
theorem aTb{u v:Value}(h:Rep C M W (.p (.v u)) v):v=u:=by cases h with | p _ _ h=>cases h;rfl
theorem aLo{F:Fence}{n:Nat}{c:Code}{Q Q':Exit→Act→World→Prop}{a:Act}{w:World}(h:LoopIn F n P c Q a w)(hq:∀ e a w,Q e a w→Q' e a w):LoopIn F n P c Q' a w:=fun b k cs hro hb hr=>let ⟨e,a',w',q,r⟩:=h b k cs hro hb hr;⟨e,a',w',hq _ _ _ q,r⟩
abbrev aPz(C0:Cx)(M0:Mem)(w0:World)(st:St)(a:Act)(W:World)(it pos:Nat)(s:ByteArray):Prop:=Sim Tp (C0.with ((it,.stringIter s pos)::C0.R)) M0 w0 st a W
theorem aTc{st:St}{a:Act}{it pos:Nat}{s:ByteArray}(h:aPz C0 M0 w0 st a W it pos s):W.heap[it]? = some (.stringIter s pos):=by
 obtain ⟨C,_,_,_,_,hR,_⟩:=h;exact (hR (it,.stringIter s pos) (iK ..)).1
theorem bBe{st:St}{a a':Act}{T':List AV}{it pos F4:Nat}{s:ByteArray}(hR:∀ p∈C0.R,p.1≠it)(hpk:xR st.m)(h:aPz C0 M0 w0 st a W it pos s)(ha:a'.defers=a.defers)
  (hT:∀ C,cT C st.m (iU W it s F4) st.t a.tmps→cT C st.m (iU W it s F4) T' a'.tmps):aPz C0 M0 w0 ⟨T',st.m⟩ a' (iU W it s F4) it F4 s:=by
 obtain ⟨C,hS,hM,hF,⟨l,e1,e2,e3⟩,hRes,_⟩:=h;obtain ⟨q1,q2,q3,q4,q5⟩:=hRes (it,.stringIter s pos) (iK ..);have hlt:it<W.heap.size:=(mD.1 q1).1;have hL:aTa C st.m w0 W it:=⟨q4,q5,hlt,q2⟩;refine ⟨C,hT C (hS.le (cCy hL)),bZr hM hL,(cCz hF.unbased hL).based _,⟨l,by rw [ha];exact e1,e2,fun D hD => ?_⟩,fun p hp => ?_,.no hpk⟩
 ·obtain ⟨r1,r2,r3⟩:=e3 D hD
  refine ⟨(jY (fun e => ?_)).trans r1,r2,r3⟩
  subst e;have:=q1.symm.trans r1;cases this
 ·rcases kD.1 hp with rfl | hp
  ·exact ⟨bIv hlt,q2,by simp,q4,q5⟩
  ·obtain ⟨r1,r2,r3,r4,r5⟩:=hRes p (Ci _ hp)
   exact ⟨(jY (hR p hp)).trans r1,r2,r3,r4,r5⟩
theorem eS{a:Act}{d:Option Nat}{u:Value}:(a.put d u).defers=a.defers:=by unfold Act.put;split <;> rfl
theorem aBl{a:Act}{d:Option Nat}{u:Value}:(a.put d u).tmps.size=a.tmps.size:=by unfold Act.put;split <;> simp
theorem bIw{a:Act}{d:Nat}(h:d<a.tmps.size):(a.put (some d) (a.tmps.getD d undef)).tmps=a.tmps:=by
 simp only [Act.put];apply Array.ext_getElem?;intro i
 by_cases e:d=i
 ·subst e
  simp [h,Array.getD]
 ·simp [e]
theorem aHo{a:Act}{d:Nat}{u:Value}(h:d<a.tmps.size):(a.put (some d) u).eval (.tmp d)=u:=by simp [Act.put,Act.eval,h]
theorem bOs{β:Type}{k id gi d c El Ej e0 it:Nat}{p1 p2:String}{body LB:Code}{s:ByteArray}(S:β→PV→St)(f:β→Nat × Nat→β)(b0:β)(L:List (Nat × Nat))
  (hLB:LB = .seq (nxR id gi d c El Ej p1 p2) (.seq (.cond (.tmp c) .skip (.exit e0)) body)) (hnrf:nrf body=true)
  (hg:∀ b g,(S b g).t[gi]? = some (.p g)) (hd:∀ b g,d<(S b g).t.length) (hc:∀ b g,c<(S b g).t.length) (hT:∀ b g,put (put (S b g).t (some d) .any) (some c) .any=(S b g).t) (hpk:∀ b g,xR (S b g).m)
  (hb:∀ pre x g,pre++[x] <+: L→aA Tp k body ⟨nxT (S (pre.foldl f b0) g).t d c x.1 x.2,(S (pre.foldl f b0) g).m⟩ .normal (S (f (pre.foldl f b0) x) g))
  (hR:∀ p∈C0.R,p.1≠it) (hk:M0.length≤k) {ro:Option Nat} {n:Nat}:∀ (l:List (Nat × Nat)) (pos:Nat) (pre:List (Nat × Nat)) (a:Act) (W:World),Runes s pos l→pre++l=L→aPz C0 M0 w0 (S (pre.foldl f b0) (.v (itV it))) a W it pos s →
   LoopIn (Fen ro) n Tp LB (fun e' a' w'=>e' = .exit e0∧∃ F4,aPz C0 M0 w0 (S (L.foldl f b0) (.v (itV it))) a' w' it F4 s) a W:=by
 intro l
 induction l with
 | nil =>
  intro pos pre a W hr hp hs;have hn:¬ pos<s.size:=by cases hr;assumption
  rw [List.append_nil] at hp
  subst hp;subst hLB;have hat:=aTc hs;obtain ⟨C,hS,hM,hF,hD⟩:=hs;have hsz:a.tmps.size=(S (pre.foldl f b0) (.v (itV it))).t.length:=hS.size;have hgi:a.eval (.tmp gi)=itV it:=aTb (hS.at (hg (pre.foldl f b0) (.v (itV it))))
  refine LoopIn.step (wpIn_seq (bZs hgi hat hn (by rw [hsz];exact hd _ _) (wpIn_seq (wpIn_cond_false (aHo (by rw [aBl,hsz];exact hc _ _)) (wpIn_exit ?_)))))
  refine ⟨rfl,pos,C,?_,hM,hF,by rw [eS,eS];exact hD⟩
  have:=cT.put (d:=some c) (cT.put (d:=some d) (v := .tuple #[.bool false]) hS (.any _)) (v := .bool false) (.any _);rw [hT] at this
  exact this
 | cons x l ih =>
  intro pos pre a W hr hp hs;subst hLB;have hat:=aTc hs;have Hr:=hs;obtain ⟨C,hS,hM,hF,hD⟩:=Hr;have hsz:a.tmps.size=(S (pre.foldl f b0) (.v (itV it))).t.length:=hS.size;have hgi:a.eval (.tmp gi)=itV it:=aTb (hS.at (hg (pre.foldl f b0) (.v (itV it))))
  cases hr with
  | cons hlt hdc Du =>
  rename_i r wd;refine LoopIn.step (wpIn_seq (cDa hgi hat hlt (by rw [hsz];exact hd _ _) (wpIn_seq (wpIn_cond_true (aHo (by rw [aBl,hsz];exact hc _ _)) (wpIn_skip ?_)))))
  rw [hdc];have Df:aPz C0 M0 w0 ⟨nxT (S (pre.foldl f b0) (.v (itV it))).t d c pos r,(S (pre.foldl f b0) (.v (itV it))).m⟩ ((a.put (some d) (.tuple #[.bool true,.int .i64 pos,.int .i32 (r:Int)])).put (some c) (.bool true)) (iU W it s (pos+wd)) it (pos+wd) s:=by
   refine bBe hR (hpk _ _) hs (by rw [eS,eS]) fun C' L5 => ?_
   refine cT.put (cT.put L5 (.tup _ _ rfl fun i hi => ?_)) (.p _ _ (.v _))
   match i,hi with
   | 0,_=>exact .p _ _ (.v _)
   | 1,_=>exact .p _ _ (.v _)
   | 2,_=>exact .p _ _ (.v _)
  refine wpIn_mono (hb pre (pos,r) (.v (itV it)) ⟨l,by rw [← hp];simp⟩ _ _ _ _ _ hk Df ro (.inr hnrf) n) ?_
  rintro e' a' w' ⟨rfl,Fl⟩;exact ih (pos+wd) (pre++[(pos,r)]) a' w' Du (by rw [← hp];simp) (by rw [List.foldl_append];exact Fl)
theorem bIx{β:Type}{k i0 m O0 id gi d c El Ej Jh O1 e0:Nat}{p1 p2 p3 p4:String}{body cc:Code}(s:List UInt8)(S:β→St)(G:β→PV→St)(f:β→Nat × Nat→β)(b0:β)(L:List (Nat × Nat))(hLr:Runes ⟨s.toArray⟩ 0 L)
  (hcc:cc = .seq (rgR O0 i0 m gi Jh O1 9 p3 p4) (.block e0 (.loop (.seq (nxR id gi d c El Ej p1 p2) (.seq (.cond (.tmp c) .skip (.exit e0)) body))))) (hnrf:nrf body=true)
  (Qk:(S b0).t[i0]? = some (.p (aD s))) (hm:m<(S b0).t.length) (Ql:∀ g,put (put (S b0).t (some m) .any) (some gi) (.p g)=(G b0 g).t) (hGm:∀ b g,(G b g).m=(S b).m) (hGe:∀ b g,put (G b g).t (some gi) .any=(S b).t)
  (hg:∀ b g,(G b g).t[gi]? = some (.p g)) (hgs:∀ b g,gi<(G b g).t.length) (hd:∀ b g,d<(G b g).t.length) (hc:∀ b g,c<(G b g).t.length) (hT:∀ b g,put (put (G b g).t (some d) .any) (some c) .any=(G b g).t) (hpk:∀ b,xR (S b).m)
  (hb:∀ pre x g,pre++[x] <+: L→aA Tp k body ⟨nxT (G (pre.foldl f b0) g).t d c x.1 x.2,(G (pre.foldl f b0) g).m⟩ .normal (G (f (pre.foldl f b0) x) g)) :
  aA Tp k cc (S b0) .normal (S (L.foldl f b0)):=by
 intro C0 M0 w0 a w hk hs ro hro n;subst hcc;obtain ⟨C,hS,hM,hF,⟨l,e1,e2,e3⟩,hRes,hP⟩:=hs;have hsz:a.tmps.size=(S b0).t.length:=hS.size;have hst:a.eval (.tmp i0) = .string ⟨s.toArray⟩:=aTb (hS.at Qk)
 obtain ⟨W,hW⟩:∃ W,W=w.alloc (.stringIter ⟨s.toArray⟩ 0):=⟨_,rfl⟩;have hWs:W.heap.size=w.heap.size+1:=by rw [hW];simp [World.alloc,-World.alloc_eq]
 have hWo:∀ b,b<w.heap.size→W.heap[b]? = w.heap[b]? := fun b hb=>by rw [hW];simp [World.alloc,-World.alloc_eq,Array.getElem?_push];omega
 have hWa:W.heap[w.heap.size]? = some (.stringIter ⟨s.toArray⟩ 0):=by rw [hW];simp [World.alloc,-World.alloc_eq]
 obtain ⟨f1,m1⟩:=pE (C:=C) (kb:=some w.heap.size) (w':=W) hM (by rw [hW];rfl) (by rw [hW];rfl) (by rw [hW];rfl) (by omega) hWo
 have hnl:∀ (i:Nat) (o:AO),(S b0).m[i]? = some (some o)→o.live=true→C.ι i≠some w.heap.size:=fun i o ho hl he=>absurd (hM.lt i o _ ho hl he) (Nat.lt_irrefl _)
 have hRne:∀ p∈C0.R,p.1≠w.heap.size:=fun p hp e=>by
  have:=(hRes p hp).1;rw [e,Array.getElem?_eq_none (Bb _)] at this
  cases this
 refine wpIn_seq (cDb hst (by rw [hsz];exact hm) ?_)
 rw [← hW];have Db:aPz C0 M0 w0 (G b0 (.v (itV w.heap.size))) ((a.put (some m) (.string ⟨s.toArray⟩)).put (some gi) (itV w.heap.size)) W w.heap.size 0 ⟨s.toArray⟩:=by
  have hSl:cT (C.after w W (some w.heap.size)) (S b0).m W (G b0 (.v (itV w.heap.size))).t ((a.put (some m) (.string ⟨s.toArray⟩)).put (some gi) (itV w.heap.size)).tmps:=by
   rw [← Ql];exact cT.put (cT.put (hS.le (hM.le f1)) (.any _)) (.p _ _ (.v _))
  refine ⟨C.after w W (some w.heap.size),by rw [hGm];exact hSl,by rw [hGm];exact m1,by rw [hGm];exact (hF.trans f1).based _,?_⟩
  rw [eS,eS,hGm];obtain ⟨h1,h2,h3⟩:=kP.fr (C0:=C0) ⟨⟨l,e1,e2,e3⟩,hRes,hP⟩ hM .refl f1;refine ⟨h1,fun p hp => ?_,.no (hpk _)⟩
  rcases kD.1 hp with rfl | hp
  ·refine ⟨hWa,hF.size,by simp,fun hf => ?_,hnl⟩
   rcases hf with hf | ⟨_,hf⟩
   ·exact absurd (hM.Fs _ hf) (Nat.lt_irrefl _)
   ·simp at hf
  ·exact h2 p hp
 refine wpIn_block (LoopIn.wp (aLo (bOs G f b0 L rfl hnrf hg hd hc hT (fun b g=>by rw [hGm];exact hpk b) hb hRne hk L 0 [] _ W hLr rfl Db) ?_))
 rintro e' a' w' ⟨rfl,F4,Df⟩;simp only [Exit.inBlock,if_true];refine ⟨rfl,?_⟩;obtain ⟨C2,I8,F7,Er,Cr,Dn,_⟩:=Df;rw [hGm] at I8 F7 Er Dn
 refine ⟨C2,?_,F7,Er.unbased,Cr,fun p hp=>Dn p (Ci _ hp),.no (hpk _)⟩
 have:=cT.put (d:=some gi) (v:=a'.tmps.getD gi undef) I8 (.any _);rw [hGe,bIw (by rw [I8.size];exact hgs _ _)] at this
 exact this
end KV
end Go.Proofs
end
section
namespace Go.Proofs
open Go.RowKit
namespace KV
open Tryz
def aBk(cs:List UInt8)(r:Nat):Bool:=decide (0≤Lib.indexByte cs r.toUInt8)
theorem bZp(cs:List UInt8)(r:Nat)(h:r<128){base:Nat}:FV Tp 216 [.p (aD cs),.p (.v (.int .i32 (r:Int)))] base (.p (blP (aBk cs r))) []:=FV.ofc rfl fun C w us hus hM=>by
 obtain rfl:=Gl rfl rfl hus;refine (Tryz.strings_ContainsRune_ascii ⟨cs.toArray⟩ (r:Int) w (by omega) (by omega)).mono ?_
 rintro e w' ⟨rfl,rfl⟩;exact ⟨_,rfl,Below.refl _ _,.p _ _ (.v _)⟩
abbrev xoR(id i j k El Ej Jh:Nat)(p1 p2 p3:String)(q:Array Edge):Code := .region id #[{ dst:=some j,op := .move (.tmp i),type:=El,pos:=p1,after := #[],guard:=none },{ dst:=some k,op := .unOp .xor 3 (.tmp j),type:=Ej,pos:=p2,after := #[{ on:=0,ground:=Ground.data }],guard:=none },{ dst:=some i,op := .assign (.tmp k),type:=Jh,pos:=p3,after:=q,guard:=none }] false
theorem bZq{kk id i j k El Ej Jh:Nat}{p1 p2 p3:String}{q:Array Edge}{cc:Code}{st Ai:St}{v:Int}(hcc:cc=xoR id i j k El Ej Jh p1 p2 p3 q)(hi:st.t[i]? = some (.p (aB v)))(hj:j<st.t.length)(hk:k<st.t.length)(hv:0≤v∧v<9223372036854775808)
  (hp:put (put (put st.t (some j) .any) (some k) .any) (some i) (.p (aB (-1-v)))=Ai.t) (hm:Ai.m=st.m):aA Tp kk cc st .normal Ai:=by
 intro C0 M0 w0 a w hk0 hs ro hro n;subst hcc;obtain ⟨C,hS,hM,hF,hD⟩:=hs;have hsz:a.tmps.size=st.t.length:=hS.size;have Qi:a.eval (.tmp i) = .int .i64 v:=aTb (hS.at hi)
 refine wpIn_region_lit (wpListIn_plain rfl fun K' H7 => ?_)
 unfold Oper.wpIn;refine ⟨fun f hf => ?_,?_⟩
 ·simp [Oper.about] at hf
 rw [Oper.semAt_plain _ _ _ (by intro c Dp;cases Dp)]
 simp only [execOp,Qi,Sem.run_pure];refine H7 _ _ (wpListIn_plain rfl fun K2 Jk => ?_)
 unfold Oper.wpIn;refine ⟨fun f hf => ?_,?_⟩
 ·simp [Oper.about] at hf
 rw [Oper.semAt_plain _ _ _ (by intro c Dp;cases Dp)]
 have he:(a.put (some j) (.int .i64 v)).eval (.tmp j) = .int .i64 v:=aHo (by rw [hsz];exact hj)
 have hb:bits .xor .i64 (-1) v = -1-v:=by
  have:=i64_not v.toNat (by omega)
  rw [show ((v.toNat:Nat):Int)=v from by omega] at this
  exact this
 have hx:(Op.unary .xor (.int .i64 v)).run Tp w = .ok (.int .i64 (-1-v)) w:=by
  rw [unary_xor,← hb];rfl
 simp only [execOp,he,Sem.run_bind,hx,Result.andThen,Sem.run_pure];refine Jk _ _ (wpListIn_plain rfl fun K3 Ku => ?_)
 unfold Oper.wpIn;refine ⟨fun f hf => ?_,?_⟩
 ·simp [Oper.about] at hf
 rw [Oper.semAt_plain _ _ _ (by intro c Dp;cases Dp)]
 have Qj:((a.put (some j) (.int .i64 v)).put (some k) (.int .i64 (-1-v))).eval (.tmp k) = .int .i64 (-1-v):=aHo (by rw [aBl,hsz];exact hk)
 simp only [execOp,Qj,Sem.run_pure];refine Ku _ _ (wpListIn_nil ⟨rfl,C,?_,by rw [hm];exact hM,by rw [hm];exact hF,by rw [eS,eS,eS,hm];exact hD⟩)
 rw [hm,← hp];exact cT.put (cT.put (cT.put hS (.any _)) (.any _)) (.p _ _ (.v _))
def gF:Nat→List UInt8→List (Nat × Nat)
 | _,[]=>[]
 | i,b::r=>(i,b.toNat)::gF (i+1) r
theorem aEw(s:List UInt8)(h:∀ b∈s,b.toNat<128):∀ (l:List UInt8) (i:Nat),s.drop i=l→Runes ⟨s.toArray⟩ i (gF i l)
 | [],i,hl => .nil (by
  have:=congrArg List.length hl;simp [ByteArray.size] at this ⊢;omega)
 | b::r,i,hl=>by
  have h0:i<s.length:=by
   have:=congrArg List.length hl;simp at this;omega
  have hb:s[i]=b:=by
   have:=congrArg (·[0]?) hl
   simpa [h0] using this
  have hsz:i<(⟨s.toArray⟩:ByteArray).size:=by simpa [ByteArray.size] using h0
  have hg:(⟨s.toArray⟩:ByteArray)[i]'hsz=b:=hb;refine .cons hsz ((decode_ascii ⟨s.toArray⟩ i hsz (by rw [hg,← hb];exact h _ (gX h0))).trans (by rw [hg])) (aEw s h r (i+1) ?_)
  rw [← List.tail_drop,hl];rfl
end KV
end Go.Proofs
end
section
namespace Go.Proofs
open Go.RowKit Go.Maps
namespace KV
open Tryz
set_option maxRecDepth 1000000
abbrev k3V(a b c:Int):Value := .agg #[.int .i64 a,.int .i64 b,.int .i64 c]
theorem Jp:Tryz.prog.underlying 186=some (.array 3 3):=by kernel_rfl
theorem u3:Tryz.prog.underlying 3=some (.int .i64):=by kernel_rfl
theorem It:Tryz.prog.keyType 186=true:=by kernel_rfl
theorem N8:Tryz.prog.cellsOf 186=3:=by kernel_rfl
theorem c3:Tryz.prog.cellsOf 3=1:=by kernel_rfl
theorem laid:laidOutB Tp=true:=by kernel_rfl
theorem tsz:Nat.ble (Tryz.prog.types.size+2) 10000=true:=by kernel_rfl
theorem K7:Nat.ble 187 Tryz.prog.types.size=true:=by kernel_rfl
theorem Eb:Keyed Tp 186:=Keyed.of_law (deep_law_gate laid (Nat.le_of_ble_eq_true tsz) (Nat.le_of_ble_eq_true K7) It (by rw [Jp]))
theorem N9(a b c:Int):(k3V a b c).formed Tp 186=true:=by kernel_rfl
theorem K8{d:Nat}{a:Int}(ha:(Lit.int .i64 a).wf=true):Tryz.prog.keyLits (d+1) 3 [.int .i64 a]=some [.int .i64 a]:=by
 rw [Program.keyLits]
 rotate_left
 ·exact .i64
 ·exact u3
 simp [ha]
theorem Ic{d:Nat}{a b c:Int}(ha:(Lit.int .i64 a).wf=true)(hb:(Lit.int .i64 b).wf=true)(hc:(Lit.int .i64 c).wf=true):Tryz.prog.keyLits (d+2) 186 [.int .i64 a,.int .i64 b,.int .i64 c]=some [.int .i64 a,.int .i64 b,.int .i64 c]:=by
 have h:∀ x∈[a,b,c],Tryz.prog.keyLits (d+1) 3 [.int .i64 x]=some [.int .i64 x]:=fun x hx=>by
  simp at hx
  rcases hx with rfl | rfl | rfl <;> exact K8 (by assumption)
 have h0:=h a (by simp)
 have h1:=h b (by simp)
 have h2:=h c (by simp)
 rw [Program.keyLits]
 rotate_left
 ·exact 3
 ·exact 3
 ·exact Jp
 simp [N8,c3,List.range_succ,h0,h1,h2]
theorem cBh{a b c:Int}(ha:(Lit.int .i64 a).wf=true)(hb:(Lit.int .i64 b).wf=true)(hc:(Lit.int .i64 c).wf=true):∃ l,keyOf Tp 186 (k3V a b c)=some l:=by
 obtain ⟨d,hd⟩:∃ d,Tryz.prog.types.size+1=d+2:=⟨Tryz.prog.types.size-1,by have:=Nat.le_of_ble_eq_true K7;omega⟩
 unfold keyOf;rw [Jp];simp only [It,N9,Bool.and_self,if_true,hd];have:(k3V a b c).cells.toList=[.int .i64 a,.int .i64 b,.int .i64 c]:=rfl;rw [this,Ic ha hb hc];exact ⟨_,rfl⟩
theorem Jo{a:Int}(h : -1000000000≤a∧a≤1000000000):(Lit.int .i64 a).wf=true:=by
 have e1:IntKind.i64.min = -9223372036854775808:=rfl;have e2:IntKind.i64.max=9223372036854775807:=rfl;simp only [Lit.wf,e1,e2,Bv,decide_eq_true_eq];omega
end KV
end Go.Proofs
end
namespace Go.Proofs
namespace KV
open Tryz
section
variable {k:Int}{i base:Nat}

noncomputable abbrev bKc:Code:=sub (cd Tryz.f149) [1,1,0,1,0,0]
theorem cBc{r:List Cel}(h0:(r.length:Int)=0):FMM Tp 150 [(.p (.sl r.length ((r.map cE).flatten)))] [] (.p bO) []:=FMM.fi 0 gE func150 [bT] (gc (dC h0) gn)
theorem cBd{r:List Cel}(h0:(r.length:Int)≠0)(h1:0≤(r.length:Int)∧(r.length:Int)≤(r.length:Int)∧(r.length:Int)≤1000000)(h2:((r.map cE).flatten).length=r.length*2∧r.length=r.length):FMM Tp 150 [(.p (.sl r.length ((r.map cE).flatten)))] [] (.p (.sl r.length ((r.map cE).flatten))) []:=FMM.fi 0 ⟨[],[],[0],[]⟩ func150 [bF] (gc h2 (gc h1 (gc (bP h0) gn)))
theorem cBe{r t:List Cel}(h0:(0:Int)<(r.length:Int)):FV Tp 106 [(.p (.agg [(.sl r.length ((r.map cE).flatten)),(.sl t.length ((t.map cE).flatten))]))] base (.p (.sl r.length ((r.map cE).flatten))) []:=FV.fi func106 [bT] (g0 h0)
theorem cBf{r t:List Cel}(h0:(r.length:Int)≤0):FV Tp 106 [(.p (.agg [(.sl r.length ((r.map cE).flatten)),(.sl t.length ((t.map cE).flatten))]))] base (.p (.sl t.length ((t.map cE).flatten))) []:=FV.fi func106 [bF] (gc (bL h0) gn)
abbrev iS(k:Int)(r:List Cel):Value:=k3V (aK k r 0) (aK k r 1) (aK k r 2)
def bQ(k:Int)(L:List (List Cel)):List (Value × PV):=L.map fun r=>(iS k r,aN r)
def qX(k:Int)(R:List (List Cel))(i:Nat)(me:List (Value × PV))(mk:Nat):St:=⟨fr 22 [(1,(.ptr 0 0)),(2,(.p (.v (.map none)))),(3,(.mp 1)),(8,(.p (.sl R.length (R.map aN)))),(9,(pI (R.length:Int))),(10,(pI (i:Int)))],[some (.box 26 [(pI k),(.p (.sl R.length (R.map aN)))]),some (.mp me mk)]⟩
theorem cBg{R:List (List Cel)}{Aq:Nat}{Cv:List (List Cel)}(hl0:aF Tp 0 bKc (qX k R 0 [] 0) (.exit 0) (qX k R Aq ((bQ k) Cv) Cv.length)):FMM Tp 149 [(.p (.agg [(aB k),(.sl R.length (R.map aN))]))] [] (.mp 0) [some (.mp ((bQ k) Cv) Cv.length)]:=FMM.fi 0 ⟨[],[1],[],[]⟩ func149 [hl0.k 8 (gI [0,1,4,4,11,10] [0,1])] (gc hl0.code gn)
theorem bCr{R m:List (List Cel)}{Ab:List Cel}{i':Nat}{m':List (List Cel)}(h0:(i:Int)<(R.length:Int))(h1:R[i]? = some Ab)(h2:aO k≤(Ab.length:Int))(h3:eM Tp 186 ((bQ k) m) (k3V (aK k Ab 0) (aK k Ab 1) (aK k Ab 2)))(h4:(gW ((bQ k) m) (k3V (aK k Ab 0) (aK k Ab 1) (aK k Ab 2)))=false)(h5:cn i)(Aj:i'=(i+1))(E1:(bQ k) m'=(((bQ k) m)++[((k3V (aK k Ab 0) (aK k Ab 1) (aK k Ab 2)),(.sl Ab.length ((Ab.map cE).flatten)))]))(E2:m'.length=(m.length+1)):aA Tp 0 bKc (qX k R i ((bQ k) m) m.length) .normal (qX k R i' ((bQ k) m') m'.length):=by
 subst Aj;have k1:=fk 2 (eH k Ab h2) rfl;rw [E1,E2];exact aA.fi (gI [0,1,4,4,11,10] [0,1]) [bT,.x (.sl Ab.length ((Ab.map cE).flatten)),k1.o,bF] (gc h5 (gc h4 (gc h3 (gc k1 (gc (atm aN h1) (gc (ixn aN h1) (g0 h0)))))))
theorem bCs{R m:List (List Cel)}(h0:(R.length:Int)≤(i:Int)):aA Tp 0 bKc (qX k R i ((bQ k) m) m.length) (.exit 0) (qX k R i ((bQ k) m) m.length):=aA.fi (gI [0,1,4,4,11,10] [0,1]) [bF] (gc (bL h0) gn)
end
end KV
end Go.Proofs
section
namespace Go.Proofs
open Go.RowKit Go.Maps
namespace KV
open Tryz
set_option maxRecDepth 1000000
theorem FMM.wkp{P:Program}{f:Nat}{args:List AV}{M M':Mem}{x:PV}(h:FMM P f args M (.p x) M'):FMM P f args M (.p (wkP x)) M':=fun C w us hus hM n=>by
 refine (h C w us hus hM n).mono ?_;rintro e w' ⟨u,rfl,C',hF,Eh,hr⟩;exact ⟨u,rfl,C',hF,Eh,yD hr⟩
theorem cQ.wk{C:Cx}{M:Mem}{w:World}:∀ {args:List AV} {us:List Value},cQ C M w args us→cQ C M w (args.map I3) us
 | [],_,h=>by cases h;exact .nil
 | x::l,_,h=>by
  cases h with
  | cons _ _ u us h1 h2=>exact .cons _ _ _ _ (yD h1) h2.wk
theorem FV.argwk{P:Program}{f base:Nat}{args Am:List AV}{y:AV}{L:Upd}(h:FV P f Am base y L)(e:args.map I3=Am):FV P f args base y L:=by
 obtain ⟨r,M1,h1,h2⟩:=h;refine ⟨r,M1,fun C w us hus hM n => ?_,h2⟩
 subst e;exact h1 C w us hus.wk hM n
theorem aF.count{P:Program}{k:Nat}{b:Code}{e:Ex}{R:St}(N:Nat)(S:Nat→St)(hs:∀ i,i<N→aA P k b (S i) .normal (S (i+1)))(hx:aA P k b (S N) e R)(he:e ≠ .normal):aF P k b (S 0) e R:=by
 have key:∀ d i,i+d=N→aF P k b (S i) e R:=by
  intro d
  induction d with
  | zero =>
   intro i hi;obtain rfl:i=N:=by omega
   exact .exit hx he
  | succ d ih=>intro i hi;exact .step (hs i (by omega)) (ih (i+1) (by omega))
 exact key N 0 (by omega)

theorem qW(r:List Cel)(h:r.length≤1000000){base:Nat}:FV Tp 150 [.p (aN r)] base (.p (aN r)) []:=by
 refine FV.frz ?_ rfl
 by_cases h0:r.length=0
 ·have:r=[]:=pA h0
  subst this;exact FMM.wkp (cBc (r:=[]) (by simp))
 ·exact cBd (by omega) (by omega) ⟨bTy r,rfl⟩
def Av(k:Int)(r:List Cel):List Int:=[aK k r 0,aK k r 1,aK k r 2]
def kN(k:Int)(r:List Cel):Prop:=∀ x∈Av k r,-1000000000≤x∧x≤1000000000
instance (k:Int) (r:List Cel):Decidable (kN k r):=by unfold kN;infer_instance
theorem kW{k:Int}{r:List Cel}(h:kN k r):∃ l,keyOf Tp 186 (iS k r)=some l :=
 cBh (Jo (h _ (by simp [Av]))) (Jo (h _ (by simp [Av]))) (Jo (h _ (by simp [Av])))
theorem aHv{k:Int}{r t:List Cel}(h:Av k r=Av k t):iS k r=iS k t:=by
 unfold Av at h
 simp only [List.cons.injEq,and_true] at h
 unfold iS;rw [h.1,h.2.1,h.2.2]
theorem vF{k:Int}{L:List (List Cel)}{r:List Cel}(hL:∀ x∈L,kN k x)(hr:kN k r)(hn:(L.map (Av k)).Nodup):eM Tp 186 (bQ k L) (iS k r):=by
 refine ⟨Eb,fun e he => ?_,kW hr,fun e he h => ?_,?_⟩
 ·obtain ⟨x,hx,rfl⟩:=sY.1 he
  exact kW (hL x hx)
 ·obtain ⟨x,hx,rfl⟩:=sY.1 he
  exact aHv h
 ·unfold bQ
  rw [xW];exact hn
theorem nR(k:Int)(L:List (List Cel))(r:List Cel):gW (bQ k L) (iS k r)=L.any fun x=>decide (Av k x=Av k r):=by
 unfold gW bQ;rw [List.any_map];rfl
def kO(k:Int)(L:List (List Cel))(r:List Cel):Option (List Cel):=L.find? fun x=>decide (Av k x=Av k r)
theorem rQ(k:Int)(L:List (List Cel))(r:List Cel):gS (bQ k L) (iS k r)=(kO k L r).map aN:=by
 unfold gS bQ kO;rw [List.find?_map];have e:((fun e:Value × PV=>decide (kB e.1=kB (iS k r))) ∘ fun r=>(iS k r,aN r))=fun x=>decide (Av k x=Av k r):=rfl
 rw [e];cases List.find? (fun x=>decide (Av k x=Av k r)) L <;> rfl
theorem nS{k:Int}{L:List (List Cel)}{r:List Cel}:(L.any fun x=>decide (Av k x=Av k r))=(kO k L r).isSome:=by
 unfold kO;rw [Bool.eq_iff_iff,List.find?_isSome,List.any_eq_true]
theorem aFb(k:Int)(L:List (List Cel))(r:List Cel):bQ k (L++[r])=bQ k L++[(iS k r,aN r)]:=by
 unfold bQ;rw [pT];rfl
structure fZ (k:Int) (R:List (List Cel)):Prop where
 n:R.length≤1000
 len:∀ x∈R,aO k≤(x.length:Int)∧x.length≤1000
 ky:∀ x∈R,kN k x
 nd:(R.map (Av k)).Nodup
theorem aQi{k:Int}{R:List (List Cel)}(h:fZ k R):FMM Tp 149 [.p (.agg [aB k,cD R])] [] (.mp 0) [some (.mp (bQ k R) R.length)]:=by
 have hn:=h.n;have L:=aF.count (P:=Tp) (k:=0) (b:=(sub (cd Tryz.f149) bu)) (e := .exit 0) (R:=qX k R R.length (bQ k R) R.length) R.length (fun i=>qX k R i (bQ k (R.take i)) (R.take i).length)
  (fun i hi=>by
   have hx:R[i]? = some R[i]:=B3 hi;have et:R.take (i+1)=R.take i++[R[i]]:=by rw [List.take_add_one,hx];rfl
   have hm:=gX hi;have hnt:((R.take i).map (Av k)).Nodup:=by rw [List.map_take];exact h.nd.sublist (List.take_sublist i _)
   have hno:((R.take i).any fun x=>decide (Av k x=Av k R[i]))=false:=by
    rw [List.any_eq_false];intro y hy hd;obtain ⟨j,hj,e⟩:=List.mem_iff_getElem.1 hy;rw [vV] at hj
    rw [List.getElem_take] at e
    have hd:=of_decide_eq_true hd;rw [← e] at hd
    have:=List.pairwise_iff_getElem.1 h.nd j i (by rw [mE];omega) (by rw [mE];omega) (by omega)
    rw [gY,gY] at this
    exact this hd
   exact bCr (m:=R.take i) (m':=R.take (i+1)) (by omega) hx (h.len _ hm).1 (vF (fun x hx=>h.ky x (List.mem_of_mem_take hx)) (h.ky _ hm) hnt) (by rw [nR];exact hno) (aV (by omega)) rfl (by rw [et];exact aFb k (R.take i) R[i]) (by simp;omega))
  (by rw [List.take_length];exact bCs (by omega)) (by simp)
 exact cBg L
end KV
end Go.Proofs
end
namespace Go.Proofs
namespace KV
open Tryz
section
variable {j k j' r0 Fa:Int}{i i' Aq:Nat}

noncomputable abbrev xL:Code:=sub (cd Tryz.f242) [1,0,0,1,0,0,1,0,0]
noncomputable abbrev aFa:Code:=sub (cd Tryz.f242) [1,0,0]
noncomputable abbrev aTp:Code:=sub (cd Tryz.f266) [1,0,0,1,0,0,1,0,0]
theorem bJm:inR (1:Int):=by unfold inR;omega
section
variable{r t:List Cel}(h0:aO k≤(r.length:Int))(h1:aO k≤(t.length:Int))(Al:r0=(bU k r t))
include h0 h1 Al
theorem cDi{R:List (List Cel)}:FMM Tp 151 [(.p (.sl r.length ((r.map cE).flatten))),(.p (.sl t.length ((t.map cE).flatten))),(.ptr 0 0)] [some (.box 26 [(pI k),(.p (.sl R.length (R.map aN)))])] (pI r0) [some (.box 26 [(pI k),(.p (.sl R.length (R.map aN)))])]:=by
 subst Al;have k1:=fk 1 (mG k r t h0 h1) rfl;exact FMM.fi 1 gE func151 [k1.o] (gc k1 gn)
theorem cDj:FMM Tp 168 [(.p (.sl r.length ((r.map cE).flatten))),(.p (.sl t.length ((t.map cE).flatten))),(.ptr 0 0)] [some (.box 23 [(pI k)])] (pI r0) [some (.box 23 [(pI k)])]:=by
 subst Al;have k1:=fk 1 (mG k r t h0 h1) rfl;exact FMM.fi 1 gE func168 [k1.o] (gc k1 gn)
end
theorem bRt(r t:List Cel)(k:Int)(R:List (List Cel))(h1:aO k≤(r.length:Int))(h2:aO k≤(t.length:Int)):FMM Tp 151 [.p (.sl r.length ((r.map cE).flatten)),.p (.sl t.length ((t.map cE).flatten)),.ptr 0 0] [some (.box 26 [(pI k),(.p (.sl R.length (R.map aN)))])] (pI (bU k r t)) [some (.box 26 [(pI k),(.p (.sl R.length (R.map aN)))])]:=cDi h1 h2 rfl
theorem bRu(r t:List Cel)(k:Int)(h1:aO k≤(r.length:Int))(h2:aO k≤(t.length:Int)):FMM Tp 168 [.p (.sl r.length ((r.map cE).flatten)),.p (.sl t.length ((t.map cE).flatten)),.ptr 0 0] [some (.box 23 [(pI k)])] (pI (bU k r t)) [some (.box 23 [(pI k)])]:=cDj h1 h2 rfl
abbrev Chg:=List Cel × List Cel
def chE(c:Chg):List PV:=[aN c.1,aN c.2]
def crM(c:Chg):List Cel:=if 0<c.1.length then c.1 else c.2
theorem mT(r t:List Cel){base:Nat}:FV Tp 106 [.p (.agg [.sl r.length ((r.map cE).flatten),.sl t.length ((t.map cE).flatten)])] base (.p (.sl (crM (r,t)).length (((crM (r,t)).map cE).flatten))) []:=by
 unfold crM
 by_cases h:0<r.length
 ·rw [if_pos h];exact cBe (by omega)
 ·rw [if_neg h];exact cBf (by omega)
theorem cDk{b a d c:List Cel}(h0:aO k≤((crM (b,a)).length:Int))(h1:aO k≤((crM (d,c)).length:Int))(Al:r0=(bU k (crM (b,a)) (crM (d,c)))):FMM Tp 185 [(.p (.agg [(.sl b.length ((b.map cE).flatten)),(.sl a.length ((a.map cE).flatten))])),(.p (.agg [(.sl d.length ((d.map cE).flatten)),(.sl c.length ((c.map cE).flatten))])),(.ptr 0 0)] [some (.box 23 [(pI k)])] (pI r0) [some (.box 23 [(pI k)])]:=by
 subst Al;have k1:=fk 3 (mT b a) rfl;have k2:=fk 11 (mT d c) rfl;have k3:=fk 19 (mG k (crM (b,a)) (crM (d,c)) h0 h1) rfl;exact FMM.fi 1 gE func185 [k1.o,k2.o,k3.o] (gc k3 (gc k2 (gc k1 gn)))
theorem bRv(x y:Chg)(k:Int)(h1:aO k≤((crM x).length:Int))(h2:aO k≤((crM y).length:Int)):FMM Tp 185 [.p (.agg [aN x.1,aN x.2]),.p (.agg [aN y.1,aN y.2]),.ptr 0 0] [some (.box 23 [(pI k)])] (pI (bU k (crM x) (crM y))) [some (.box 23 [(pI k)])]:=cDk h1 h2 rfl
def xM(D:List (List Cel))(k:Int)(R:List (List Cel))(i En:Nat)(Ec:List PV):St:=⟨fr 53 [(0,(.own 0)),(1,(pI 0)),(2,(pI (D.length:Int))),(3,(.fn 151 [] [(.ptr 1 0)])),(8,(pI (i:Int)))],[some (.row 78 En Ec),some (.box 26 [(pI k),(.p (.sl R.length (R.map aN)))])]⟩
theorem cDl{D R E'1:List (List Cel)}(hl0:aF Tp 2 aFa (xM D k R 1 D.length ((D.map rwE).flatten)) (.exit 0) (xM D k R Aq E'1.length ((E'1.map rwE).flatten))):FMM Tp 242 [(.own 0),(pI 0),(pI (D.length:Int)),(.fn 151 [] [(.ptr 1 0)])] [some (.row 78 D.length ((D.map rwE).flatten)),some (.box 26 [(pI k),(.p (.sl R.length (R.map aN)))])] (.tup []) [some (.row 78 E'1.length ((E'1.map rwE).flatten)),some (.box 26 [(pI k),(.p (.sl R.length (R.map aN)))])]:=FMM.fi 2 gE func242 [hl0.k 3 (gZ ce)] (gc hl0.code (gc bJm gn))
def sC(D:List (List Cel))(k:Int)(R:List (List Cel))(i:Nat)(j:Int)(Gn:Nat)(Gc:List PV):St:=⟨fr 53 [(0,(.own 0)),(1,(pI 0)),(2,(pI (D.length:Int))),(3,(.fn 151 [] [(.ptr 1 0)])),(8,(pI (i:Int))),(9,(pI j)),(12,(pI (i:Int))),(13,(pI (D.length:Int))),(14,(pB (decide ((i:Int)<(D.length:Int))))),(17,(pI (i:Int)))],[some (.row 78 Gn Gc),some (.box 26 [(pI k),(.p (.sl R.length (R.map aN)))])]⟩
theorem bJn{D R E G'101 E':List (List Cel)}(h0:(i:Int)<(D.length:Int))(An:aF Tp 2 xL (sC D k R i (i:Int) E.length ((E.map rwE).flatten)) (.exit 2) (sC D k R i Fa G'101.length ((G'101.map rwE).flatten)))(h2:cn i)(Aj:i'=(i+1))(Ed:E'.length=G'101.length)(Ee:(E'.map rwE).flatten=((G'101.map rwE).flatten)):aA Tp 2 aFa (xM D k R i E.length ((E.map rwE).flatten)) .normal (xM D k R i' E'.length ((E'.map rwE).flatten)):=by
 subst Aj;rw [Ed,Ee];exact aA.fi (gZ ce) [bT,An.k 5 (gZ bl)] (gc h2 (gc An.code (g0 h0)))
theorem bJo{D R E:List (List Cel)}(h0:(D.length:Int)≤(i:Int)):aA Tp 2 aFa (xM D k R i E.length ((E.map rwE).flatten)) (.exit 0) (xM D k R i E.length ((E.map rwE).flatten)):=aA.fi (gZ ce) [bF] (gc (bL h0) gn)
section
variable{G:List (List Cel)}{A1 Aw:List Cel}(h0:(0:Int)<j)(h1:0≤j∧j<(G.length:Int))(h2:G[j.toNat]? = some (A1))(h3:inR (j-1))(h4:0≤(j-1)∧(j-1)<(G.length:Int))(h5:G[(j-1).toNat]? = some (Aw))(Hm:aO k≤(A1.length:Int))(Hn:aO k≤(Aw.length:Int))
include h0 h1 h2 h3 h4 h5 Hm Hn
theorem bJp{D R G':List (List Cel)}(h8:(bU k A1 Aw)<0)(h9:(j.toNat*1)<((G.map rwE).flatten).length)(A5:((j-1).toNat*1)<(((G.map rwE).flatten).set (j.toNat*1) (.sl Aw.length ((Aw.map cE).flatten))).length)(Bw:j'=(j-1))(Ho:G'.length=G.length)(Hp:(G'.map rwE).flatten=((((G.map rwE).flatten).set (j.toNat*1) (.sl Aw.length ((Aw.map cE).flatten))).set ((j-1).toNat*1) (.sl A1.length ((A1.map cE).flatten)))):aA Tp 2 xL (sC D k R i j G.length ((G.map rwE).flatten)) .normal (sC D k R i j' G'.length ((G'.map rwE).flatten)):=by
 subst Bw;have k1:=mq [1] 2 (bRt A1 Aw k R Hm Hn);rw [Ho,Hp];exact aA.fi (gZ bl) (rT 5++[.x (.sl A1.length ((A1.map cE).flatten))]++rT 5++[.x (.sl Aw.length ((Aw.map cE).flatten)),bT,k1.o,bT,bT,bT,.x (.sl Aw.length ((Aw.map cE).flatten)),.x (.sl A1.length ((A1.map cE).flatten))]) (gc h3 (gc A5 (gc h4 (gc h9 (gc h1 (gt (((G.map rwE).flatten)[(j.toNat*1)]? = some (.sl A1.length ((A1.map cE).flatten))) (aM (E:=rwE) (i:=j.toNat) (f:=0) (k:=1) (fun _=>rfl) h2 rfl) (gc h1 (gt (((G.map rwE).flatten)[((j-1).toNat*1)]? = some (.sl Aw.length ((Aw.map cE).flatten))) (aM (E:=rwE) (i:=(j-1).toNat) (f:=0) (k:=1) (fun _=>rfl) h5 rfl) (gc h4 (A2 h3 (gc (cP h8) (A2 (cP h0) (gc k1 (gc (cP h0) (gt (((G.map rwE).flatten)[((j-1).toNat*1)]? = some (.sl Aw.length ((Aw.map cE).flatten))) (aM (E:=rwE) (i:=(j-1).toNat) (f:=0) (k:=1) (fun _=>rfl) h5 rfl) (gc (cP h0) (gc h4 (gc (cP h0) (gc h3 (Ay (cP h0) (gt (((G.map rwE).flatten)[(j.toNat*1)]? = some (.sl A1.length ((A1.map cE).flatten))) (aM (E:=rwE) (i:=j.toNat) (f:=0) (k:=1) (fun _=>rfl) h2 rfl) (gc (cP h0) (gc h1 (Ay (cP h0) (g0 h0)))))))))))))))))))))))))
theorem bJq{D R:List (List Cel)}(h8:(0:Int)≤(bU k A1 Aw)):aA Tp 2 xL (sC D k R i j G.length ((G.map rwE).flatten)) (.exit 2) (sC D k R i j G.length ((G.map rwE).flatten)):=have k1:=mq [1] 2 (bRt A1 Aw k R Hm Hn);aA.fi (gZ bl) (rT 5++[.x (.sl A1.length ((A1.map cE).flatten))]++rT 5++[.x (.sl Aw.length ((Aw.map cE).flatten)),bT,k1.o,bT,bT,bF]) (gc (bL h8) (A2 (cP h0) (gc k1 (gc (cP h0) (gt (((G.map rwE).flatten)[((j-1).toNat*1)]? = some (.sl Aw.length ((Aw.map cE).flatten))) (aM (E:=rwE) (i:=(j-1).toNat) (f:=0) (k:=1) (fun _=>rfl) h5 rfl) (gc (cP h0) (gc h4 (gc (cP h0) (gc h3 (Ay (cP h0) (gt (((G.map rwE).flatten)[(j.toNat*1)]? = some (.sl A1.length ((A1.map cE).flatten))) (aM (E:=rwE) (i:=j.toNat) (f:=0) (k:=1) (fun _=>rfl) h2 rfl) (gc (cP h0) (gc h1 (Ay (cP h0) (g0 h0)))))))))))))))
end
theorem bJr{D R G:List (List Cel)}(h0:j≤0):aA Tp 2 xL (sC D k R i j G.length ((G.map rwE).flatten)) (.exit 2) (sC D k R i j G.length ((G.map rwE).flatten)):=aA.fi (gZ bl) (rF 13) (Iv (bL h0) (Cw (bL h0) gn))
def xN(D:List (List Cel))(k:Int)(i En:Nat)(Ec:List PV):St:=⟨fr 53 [(0,(.own 0)),(1,(pI 0)),(2,(pI (D.length:Int))),(3,(.fn 168 [] [(.ptr 1 0)])),(8,(pI (i:Int)))],[some (.row 78 En Ec),some (.box 23 [(pI k)])]⟩
theorem cDm{D E'1:List (List Cel)}(hl0:aF Tp 2 aFa (xN D k 1 D.length ((D.map rwE).flatten)) (.exit 0) (xN D k Aq E'1.length ((E'1.map rwE).flatten))):FMM Tp 242 [(.own 0),(pI 0),(pI (D.length:Int)),(.fn 168 [] [(.ptr 1 0)])] [some (.row 78 D.length ((D.map rwE).flatten)),some (.box 23 [(pI k)])] (.tup []) [some (.row 78 E'1.length ((E'1.map rwE).flatten)),some (.box 23 [(pI k)])]:=FMM.fi 2 gE func242 [hl0.k 3 (gZ ce)] (gc hl0.code (gc bJm gn))
def sD(D:List (List Cel))(k:Int)(i:Nat)(j:Int)(Gn:Nat)(Gc:List PV):St:=⟨fr 53 [(0,(.own 0)),(1,(pI 0)),(2,(pI (D.length:Int))),(3,(.fn 168 [] [(.ptr 1 0)])),(8,(pI (i:Int))),(9,(pI j)),(12,(pI (i:Int))),(13,(pI (D.length:Int))),(14,(pB (decide ((i:Int)<(D.length:Int))))),(17,(pI (i:Int)))],[some (.row 78 Gn Gc),some (.box 23 [(pI k)])]⟩
theorem bJs{D E G'101 E':List (List Cel)}(h0:(i:Int)<(D.length:Int))(An:aF Tp 2 xL (sD D k i (i:Int) E.length ((E.map rwE).flatten)) (.exit 2) (sD D k i Fa G'101.length ((G'101.map rwE).flatten)))(h2:cn i)(Aj:i'=(i+1))(Ed:E'.length=G'101.length)(Ee:(E'.map rwE).flatten=((G'101.map rwE).flatten)):aA Tp 2 aFa (xN D k i E.length ((E.map rwE).flatten)) .normal (xN D k i' E'.length ((E'.map rwE).flatten)):=by
 subst Aj;rw [Ed,Ee];exact aA.fi (gZ ce) [bT,An.k 5 (gZ bl)] (gc h2 (gc An.code (g0 h0)))
theorem bJt{D E:List (List Cel)}(h0:(D.length:Int)≤(i:Int)):aA Tp 2 aFa (xN D k i E.length ((E.map rwE).flatten)) (.exit 0) (xN D k i E.length ((E.map rwE).flatten)):=aA.fi (gZ ce) [bF] (gc (bL h0) gn)
section
variable{G:List (List Cel)}{A1 Aw:List Cel}(h0:(0:Int)<j)(h1:0≤j∧j<(G.length:Int))(h2:G[j.toNat]? = some (A1))(h3:inR (j-1))(h4:0≤(j-1)∧(j-1)<(G.length:Int))(h5:G[(j-1).toNat]? = some (Aw))(Hm:aO k≤(A1.length:Int))(Hn:aO k≤(Aw.length:Int))
include h0 h1 h2 h3 h4 h5 Hm Hn
theorem bJu{D G':List (List Cel)}(h8:(bU k A1 Aw)<0)(h9:(j.toNat*1)<((G.map rwE).flatten).length)(A5:((j-1).toNat*1)<(((G.map rwE).flatten).set (j.toNat*1) (.sl Aw.length ((Aw.map cE).flatten))).length)(Bw:j'=(j-1))(Ho:G'.length=G.length)(Hp:(G'.map rwE).flatten=((((G.map rwE).flatten).set (j.toNat*1) (.sl Aw.length ((Aw.map cE).flatten))).set ((j-1).toNat*1) (.sl A1.length ((A1.map cE).flatten)))):aA Tp 2 xL (sD D k i j G.length ((G.map rwE).flatten)) .normal (sD D k i j' G'.length ((G'.map rwE).flatten)):=by
 subst Bw;have k1:=mq [1] 2 (bRu A1 Aw k Hm Hn);rw [Ho,Hp];exact aA.fi (gZ bl) (rT 5++[.x (.sl A1.length ((A1.map cE).flatten))]++rT 5++[.x (.sl Aw.length ((Aw.map cE).flatten)),bT,k1.o,bT,bT,bT,.x (.sl Aw.length ((Aw.map cE).flatten)),.x (.sl A1.length ((A1.map cE).flatten))]) (gc h3 (gc A5 (gc h4 (gc h9 (gc h1 (gt (((G.map rwE).flatten)[(j.toNat*1)]? = some (.sl A1.length ((A1.map cE).flatten))) (aM (E:=rwE) (i:=j.toNat) (f:=0) (k:=1) (fun _=>rfl) h2 rfl) (gc h1 (gt (((G.map rwE).flatten)[((j-1).toNat*1)]? = some (.sl Aw.length ((Aw.map cE).flatten))) (aM (E:=rwE) (i:=(j-1).toNat) (f:=0) (k:=1) (fun _=>rfl) h5 rfl) (gc h4 (A2 h3 (gc (cP h8) (A2 (cP h0) (gc k1 (gc (cP h0) (gt (((G.map rwE).flatten)[((j-1).toNat*1)]? = some (.sl Aw.length ((Aw.map cE).flatten))) (aM (E:=rwE) (i:=(j-1).toNat) (f:=0) (k:=1) (fun _=>rfl) h5 rfl) (gc (cP h0) (gc h4 (gc (cP h0) (gc h3 (Ay (cP h0) (gt (((G.map rwE).flatten)[(j.toNat*1)]? = some (.sl A1.length ((A1.map cE).flatten))) (aM (E:=rwE) (i:=j.toNat) (f:=0) (k:=1) (fun _=>rfl) h2 rfl) (gc (cP h0) (gc h1 (Ay (cP h0) (g0 h0)))))))))))))))))))))))))
theorem bJv{D:List (List Cel)}(h8:(0:Int)≤(bU k A1 Aw)):aA Tp 2 xL (sD D k i j G.length ((G.map rwE).flatten)) (.exit 2) (sD D k i j G.length ((G.map rwE).flatten)):=have k1:=mq [1] 2 (bRu A1 Aw k Hm Hn);aA.fi (gZ bl) (rT 5++[.x (.sl A1.length ((A1.map cE).flatten))]++rT 5++[.x (.sl Aw.length ((Aw.map cE).flatten)),bT,k1.o,bT,bT,bF]) (gc (bL h8) (A2 (cP h0) (gc k1 (gc (cP h0) (gt (((G.map rwE).flatten)[((j-1).toNat*1)]? = some (.sl Aw.length ((Aw.map cE).flatten))) (aM (E:=rwE) (i:=(j-1).toNat) (f:=0) (k:=1) (fun _=>rfl) h5 rfl) (gc (cP h0) (gc h4 (gc (cP h0) (gc h3 (Ay (cP h0) (gt (((G.map rwE).flatten)[(j.toNat*1)]? = some (.sl A1.length ((A1.map cE).flatten))) (aM (E:=rwE) (i:=j.toNat) (f:=0) (k:=1) (fun _=>rfl) h2 rfl) (gc (cP h0) (gc h1 (Ay (cP h0) (g0 h0)))))))))))))))
end
theorem bJw{D G:List (List Cel)}(h0:j≤0):aA Tp 2 xL (sD D k i j G.length ((G.map rwE).flatten)) (.exit 2) (sD D k i j G.length ((G.map rwE).flatten)):=aA.fi (gZ bl) (rF 13) (Iv (bL h0) (Cw (bL h0) gn))
def xO(D:List (List Cel × List Cel))(k:Int)(i En:Nat)(Ec:List PV):St:=⟨fr 53 [(0,(.own 0)),(1,(pI 0)),(2,(pI (D.length:Int))),(3,(.fn 185 [] [(.ptr 1 0)])),(8,(pI (i:Int)))],[some (.row 112 En Ec),some (.box 23 [(pI k)])]⟩
theorem cDn{D E'1:List (List Cel × List Cel)}(hl0:aF Tp 2 (sub (cd Tryz.f266) [1,0,0]) (xO D k 1 D.length ((D.map chE).flatten)) (.exit 0) (xO D k Aq E'1.length ((E'1.map chE).flatten))):FMM Tp 266 [(.own 0),(pI 0),(pI (D.length:Int)),(.fn 185 [] [(.ptr 1 0)])] [some (.row 112 D.length ((D.map chE).flatten)),some (.box 23 [(pI k)])] (.tup []) [some (.row 112 E'1.length ((E'1.map chE).flatten)),some (.box 23 [(pI k)])]:=FMM.fi 2 gE func266 [hl0.k 3 (gZ ce)] (gc hl0.code (gc bJm gn))
def sE(D:List (List Cel × List Cel))(k:Int)(i:Nat)(j:Int)(Gn:Nat)(Gc:List PV):St:=⟨fr 53 [(0,(.own 0)),(1,(pI 0)),(2,(pI (D.length:Int))),(3,(.fn 185 [] [(.ptr 1 0)])),(8,(pI (i:Int))),(9,(pI j)),(12,(pI (i:Int))),(13,(pI (D.length:Int))),(14,(pB (decide ((i:Int)<(D.length:Int))))),(17,(pI (i:Int)))],[some (.row 112 Gn Gc),some (.box 23 [(pI k)])]⟩
theorem bJx{D E G'101 E':List (List Cel × List Cel)}(h0:(i:Int)<(D.length:Int))(An:aF Tp 2 aTp (sE D k i (i:Int) E.length ((E.map chE).flatten)) (.exit 2) (sE D k i Fa G'101.length ((G'101.map chE).flatten)))(h2:cn i)(Aj:i'=(i+1))(Ed:E'.length=G'101.length)(Ee:(E'.map chE).flatten=((G'101.map chE).flatten)):aA Tp 2 (sub (cd Tryz.f266) [1,0,0]) (xO D k i E.length ((E.map chE).flatten)) .normal (xO D k i' E'.length ((E'.map chE).flatten)):=by
 subst Aj;rw [Ed,Ee];exact aA.fi (gZ ce) [bT,An.k 5 (gZ bl)] (gc h2 (gc An.code (g0 h0)))
theorem bJy{D E:List (List Cel × List Cel)}(h0:(D.length:Int)≤(i:Int)):aA Tp 2 (sub (cd Tryz.f266) [1,0,0]) (xO D k i E.length ((E.map chE).flatten)) (.exit 0) (xO D k i E.length ((E.map chE).flatten)):=aA.fi (gZ ce) [bF] (gc (bL h0) gn)
section
variable{G:List (List Cel × List Cel)}{Az A0 Be Bf:List Cel}(h0:(0:Int)<j)(h1:0≤j∧j<(G.length:Int))(h2:G[j.toNat]? = some (Az,A0))(h3:inR (j-1))(h4:0≤(j-1)∧(j-1)<(G.length:Int))(h5:G[(j-1).toNat]? = some (Be,Bf))(Hm:aO k≤((crM (Az,A0)).length:Int))(Hn:aO k≤((crM (Be,Bf)).length:Int))
include h0 h1 h2 h3 h4 h5 Hm Hn
theorem bJz{D G':List (List Cel × List Cel)}(h8:(bU k (crM (Az,A0)) (crM (Be,Bf)))<0)(h9:[(PV.sl Be.length ((Be.map cE).flatten)),(.sl Bf.length ((Bf.map cE).flatten))].length=2∧(j.toNat*2)+2≤((G.map chE).flatten).length)(A5:[(PV.sl Az.length ((Az.map cE).flatten)),(.sl A0.length ((A0.map cE).flatten))].length=2∧((j-1).toNat*2)+2≤(((G.map chE).flatten).take (j.toNat*2)++[(PV.sl Be.length ((Be.map cE).flatten)),(.sl Bf.length ((Bf.map cE).flatten))]++((G.map chE).flatten).drop ((j.toNat*2)+2)).length)(Bw:j'=(j-1))(Ho:G'.length=G.length)(Hp:(G'.map chE).flatten=((((G.map chE).flatten).take (j.toNat*2)++[(PV.sl Be.length ((Be.map cE).flatten)),(.sl Bf.length ((Bf.map cE).flatten))]++((G.map chE).flatten).drop ((j.toNat*2)+2)).take ((j-1).toNat*2)++[(PV.sl Az.length ((Az.map cE).flatten)),(.sl A0.length ((A0.map cE).flatten))]++(((G.map chE).flatten).take (j.toNat*2)++[(PV.sl Be.length ((Be.map cE).flatten)),(.sl Bf.length ((Bf.map cE).flatten))]++((G.map chE).flatten).drop ((j.toNat*2)+2)).drop (((j-1).toNat*2)+2))):aA Tp 2 aTp (sE D k i j G.length ((G.map chE).flatten)) .normal (sE D k i j' G'.length ((G'.map chE).flatten)):=by
 subst Bw;have k1:=mq [1] 2 (bRv (Az,A0) (Be,Bf) k Hm Hn);rw [Ho,Hp];exact aA.fi (gZ bl) (rT 5++[.x (.agg [(.sl Az.length ((Az.map cE).flatten)),(.sl A0.length ((A0.map cE).flatten))])]++rT 5++[.x (.agg [(.sl Be.length ((Be.map cE).flatten)),(.sl Bf.length ((Bf.map cE).flatten))]),bT,k1.o,bT,bT,bT,.x (.agg [(.sl Be.length ((Be.map cE).flatten)),(.sl Bf.length ((Bf.map cE).flatten))]),.x (.agg [(.sl Az.length ((Az.map cE).flatten)),(.sl A0.length ((A0.map cE).flatten))])]) (gc h3 (gc A5 (gc h4 (gc h9 (gc h1 (gc (bG (E:=chE) (i:=j.toNat) (k:=2) (fun _=>rfl) h2 rfl) (gc (cG (E:=chE) (i:=j.toNat) (k:=2) (fun _=>rfl) h2) (gc h1 (gc (bG (E:=chE) (i:=(j-1).toNat) (k:=2) (fun _=>rfl) h5 rfl) (gc (cG (E:=chE) (i:=(j-1).toNat) (k:=2) (fun _=>rfl) h5) (gc h4 (A2 h3 (gc (cP h8) (A2 (cP h0) (gc k1 (gc (cP h0) (gc (bG (E:=chE) (i:=(j-1).toNat) (k:=2) (fun _=>rfl) h5 rfl) (gc (cG (E:=chE) (i:=(j-1).toNat) (k:=2) (fun _=>rfl) h5) (gc (cP h0) (gc h4 (gc (cP h0) (gc h3 (Ay (cP h0) (gc (bG (E:=chE) (i:=j.toNat) (k:=2) (fun _=>rfl) h2 rfl) (gc (cG (E:=chE) (i:=j.toNat) (k:=2) (fun _=>rfl) h2) (gc (cP h0) (gc h1 (Ay (cP h0) (g0 h0)))))))))))))))))))))))))))))
theorem bKa{D:List (List Cel × List Cel)}(h8:(0:Int)≤(bU k (crM (Az,A0)) (crM (Be,Bf)))):aA Tp 2 aTp (sE D k i j G.length ((G.map chE).flatten)) (.exit 2) (sE D k i j G.length ((G.map chE).flatten)):=have k1:=mq [1] 2 (bRv (Az,A0) (Be,Bf) k Hm Hn);aA.fi (gZ bl) (rT 5++[.x (.agg [(.sl Az.length ((Az.map cE).flatten)),(.sl A0.length ((A0.map cE).flatten))])]++rT 5++[.x (.agg [(.sl Be.length ((Be.map cE).flatten)),(.sl Bf.length ((Bf.map cE).flatten))]),bT,k1.o,bT,bT,bF]) (gc (bL h8) (A2 (cP h0) (gc k1 (gc (cP h0) (gc (bG (E:=chE) (i:=(j-1).toNat) (k:=2) (fun _=>rfl) h5 rfl) (gc (cG (E:=chE) (i:=(j-1).toNat) (k:=2) (fun _=>rfl) h5) (gc (cP h0) (gc h4 (gc (cP h0) (gc h3 (Ay (cP h0) (gc (bG (E:=chE) (i:=j.toNat) (k:=2) (fun _=>rfl) h2 rfl) (gc (cG (E:=chE) (i:=j.toNat) (k:=2) (fun _=>rfl) h2) (gc (cP h0) (gc h1 (Ay (cP h0) (g0 h0)))))))))))))))))
end
theorem bKb{D G:List (List Cel × List Cel)}(h0:j≤0):aA Tp 2 aTp (sE D k i j G.length ((G.map chE).flatten)) (.exit 2) (sE D k i j G.length ((G.map chE).flatten)):=aA.fi (gZ bl) (rF 13) (Iv (bL h0) (Cw (bL h0) gn))
end
section

def gL{α:Type}(c:α→α→Int):Nat→List α→List α
 | 0,D=>D
 | j+1,D=>match D[j+1]?,D[j]? with
  | some x,some y=>if c x y<0 then gL c j ((D.set (j+1) y).set j x) else D
  | _,_=>D
def aBr{α:Type}(c:α→α→Int):Nat→Nat→List α→List α
 | 0,_,D=>D
 | n+1,i,D=>aBr c n (i+1) (gL c i D)
def isG{α:Type}(c:α→α→Int)(D:List α):List α:=aBr c (D.length-1) 1 D
theorem rO{α:Type}(c:α→α→Int):∀ (j:Nat) (D:List α),(gL c j D).length=D.length
 | 0,D=>rfl
 | j+1,D=>by
  unfold gL
  split
  ·split
   ·rw [rO c j];simp
   ·rfl
  ·rfl
theorem rP{α:Type}(c:α→α→Int){z:α}:∀ (j:Nat) (D:List α),z∈gL c j D→z∈D
 | 0,D,h=>h
 | j+1,D,h=>by
  unfold gL at h
  split at h
  ·rename_i x y hx hy
   split at h
   ·have h1:=rP c j _ h
    rcases List.mem_or_eq_of_mem_set h1 with h2 | rfl
    ·rcases List.mem_or_eq_of_mem_set h2 with h3 | rfl
     ·exact h3
     ·exact Cj hy
    ·exact Cj hx
   ·exact h
  ·exact h
theorem bPq{α:Type}{E:α→List PV}{k:Nat}(hE:∀ a,(E a).length=k){l:List α}{i:Nat}(hi:i<l.length)(e:α):((l.set i e).map E).flatten=((l.map E).flatten).take (i*k)++E e++((l.map E).flatten).drop (i*k+k):=by
 have h1:l.set i e=l.take i++e::l.drop (i+1):=by rw [List.set_eq_take_append_cons_drop,if_pos hi]
 have h2:l=l.take i++l[i]::l.drop (i+1):=by rw [← bLi hi,bEx]
 have hlen:((l.take i).map E).flatten.length=i*k:=by rw [rJ hE,vV];congr 1;omega
 have h3:(l.map E).flatten=((l.take i).map E).flatten++(E l[i]++((l.drop (i+1)).map E).flatten):=by
  have e2:=congrArg (fun l=>(l.map E).flatten) h2
  simp only [pT,eZ,bLj,vU] at e2
  exact e2
 rw [h1,h3,← hlen,List.take_left,pT,eZ,bLj,vU];have hd:(((l.take i).map E).flatten++(E l[i]++((l.drop (i+1)).map E).flatten)).drop (((l.take i).map E).flatten.length+k)=((l.drop (i+1)).map E).flatten:=by
  rw [← hE l[i],← B4,← List.append_assoc,List.drop_left]
 rw [hd,List.append_assoc]
def iA(k:Int)(x y:Chg):Int:=bU k (crM x) (crM y)
theorem bRq{D:List (List Cel)}{k:Int}{R:List (List Cel)}{i:Nat}:∀ (j:Nat) (G:List (List Cel)),j<G.length→G.length≤12→(∀ x∈G,aO k≤(x.length:Int))→∃ j',aF Tp 2 (sub (cd Tryz.f242) bh) (sC D k R i (j:Int) G.length ((G.map rwE).flatten)) (.exit 2) (sC D k R i j' (gL (bU k) j G).length (((gL (bU k) j G).map rwE).flatten))
 | 0,G,hj,hg,hk=>⟨_,.exit (bJr (by omega)) (by simp)⟩
 | j+1,G,hj,hg,hk=>by
  have hx:G[j+1]? = some G[j+1]:=B3 hj;have hy:G[j]? = some (G[j]'(by omega)):=B3 (by omega)
  have kx:=hk _ (gX hj);have ky:=hk _ (gX (show j<G.length by omega))
  have z1:(0:Int)<((j+1:Nat):Int):=by omega
  have z2:0≤((j+1:Nat):Int)∧((j+1:Nat):Int)<(G.length:Int):=by omega
  have z3:inR (((j+1:Nat):Int)-(1:Int)):=by unfold inR;omega
  have z4:0≤(((j+1:Nat):Int)-(1:Int))∧(((j+1:Nat):Int)-(1:Int))<(G.length:Int):=by omega
  have e1:((j+1:Nat):Int).toNat=j+1:=by omega
  have e2:(((j+1:Nat):Int)-(1:Int)).toNat=j:=by omega
  have e3:(((j+1:Nat):Int)-(1:Int))=(j:Int):=by omega
  generalize G[j+1]=x at hx kx
  generalize G[j]'(by omega)=y at hy ky
  unfold gL;rw [hx,hy];dsimp only
  by_cases hc:bU k x y<0
  ·rw [if_pos hc]
   obtain ⟨j',L⟩:=bRq (D:=D) (k:=k) (R:=R) (i:=i) j ((G.set (j+1) y).set j x) (by simp;omega) (by simp;omega) (fun z hz=>by
    rcases List.mem_or_eq_of_mem_set hz with h2 | rfl
    ·rcases List.mem_or_eq_of_mem_set h2 with h3 | rfl
     ·exact hk z h3
     ·exact ky
    ·exact kx)
   refine ⟨j',.step (bJp z1 z2 (by rw [e1];exact hx) z3 z4 (by rw [e2];exact hy) kx ky hc (by rw [e1,fH];simp;omega) (by rw [e1,e2,fH];simp;omega) e3.symm (by simp) ?_) L⟩
   rw [e1,e2];rw [fH,fH,List.map_set,List.map_set,Nat.mul_one,Nat.mul_one];rfl
  ·rw [if_neg hc]
   exact ⟨_,.exit (bJq z1 z2 (by rw [e1];exact hx) z3 z4 (by rw [e2];exact hy) kx ky (Int.not_lt.1 hc)) (by simp)⟩
theorem bJi{D:List (List Cel)}{k:Int}{R:List (List Cel)}(Ba:D.length≤12):∀ (n i:Nat) (E:List (List Cel)),i+n=D.length→E.length=D.length→(∀ x∈E,aO k≤(x.length:Int))→aF Tp 2 (sub (cd Tryz.f242) [1,0,0]) (xM D k R i E.length ((E.map rwE).flatten)) (.exit 0) (xM D k R D.length (aBr (bU k) n i E).length (((aBr (bU k) n i E).map rwE).flatten))
 | 0,i,E,hi,hl,hk=>by
  have:i=D.length:=by omega
  subst this;exact .exit (bJo (by omega)) (by simp)
 | n+1,i,E,hi,hl,hk=>by
  obtain ⟨j',L⟩:=bRq (D:=D) (k:=k) (R:=R) (i:=i) i E (by omega) (by omega) hk
  have h1:=rO (bU k) i E;unfold aBr;exact .step (bJn (G'101:=gL (bU k) i E) (E':=gL (bU k) i E) (by omega) L (aV (by omega)) rfl rfl rfl) (bJi Ba n (i+1) _ (by omega) (by omega) (fun x hx=>hk x (rP _ _ _ hx)))
theorem cDf{D:List (List Cel)}{k:Int}{R:List (List Cel)}(Ba:D.length≤12)(h1:1≤D.length)(hk:∀ x∈D,aO k≤(x.length:Int)):FMM Tp 242 [.own 0,.p (aB 0),.p (aB (D.length:Nat)),.fn 151 [] [.ptr 1 0]] [some (.row 78 D.length ((D.map rwE).flatten)),some (.box 26 [(.p (aB k)),(.p (.sl R.length (R.map aN)))])] (.tup []) [some (.row 78 ((isG (bU k) D).length) (((isG (bU k) D).map rwE).flatten)),some (.box 26 [(.p (aB k)),(.p (.sl R.length (R.map aN)))])]:=by
 exact cDl (E'1:=isG (bU k) D) (bJi (k:=k) (R:=R) Ba (D.length-1) 1 D (by omega) rfl hk)
theorem bRr{D:List (List Cel)}{k:Int}{i:Nat}:∀ (j:Nat) (G:List (List Cel)),j<G.length→G.length≤12→(∀ x∈G,aO k≤(x.length:Int))→∃ j',aF Tp 2 (sub (cd Tryz.f242) bh) (sD D k i (j:Int) G.length ((G.map rwE).flatten)) (.exit 2) (sD D k i j' (gL (bU k) j G).length (((gL (bU k) j G).map rwE).flatten))
 | 0,G,hj,hg,hk=>⟨_,.exit (bJw (by omega)) (by simp)⟩
 | j+1,G,hj,hg,hk=>by
  have hx:G[j+1]? = some G[j+1]:=B3 hj;have hy:G[j]? = some (G[j]'(by omega)):=B3 (by omega)
  have kx:=hk _ (gX hj);have ky:=hk _ (gX (show j<G.length by omega))
  have z1:(0:Int)<((j+1:Nat):Int):=by omega
  have z2:0≤((j+1:Nat):Int)∧((j+1:Nat):Int)<(G.length:Int):=by omega
  have z3:inR (((j+1:Nat):Int)-(1:Int)):=by unfold inR;omega
  have z4:0≤(((j+1:Nat):Int)-(1:Int))∧(((j+1:Nat):Int)-(1:Int))<(G.length:Int):=by omega
  have e1:((j+1:Nat):Int).toNat=j+1:=by omega
  have e2:(((j+1:Nat):Int)-(1:Int)).toNat=j:=by omega
  have e3:(((j+1:Nat):Int)-(1:Int))=(j:Int):=by omega
  generalize G[j+1]=x at hx kx
  generalize G[j]'(by omega)=y at hy ky
  unfold gL;rw [hx,hy];dsimp only
  by_cases hc:bU k x y<0
  ·rw [if_pos hc]
   obtain ⟨j',L⟩:=bRr (D:=D) (k:=k) (i:=i) j ((G.set (j+1) y).set j x) (by simp;omega) (by simp;omega) (fun z hz=>by
    rcases List.mem_or_eq_of_mem_set hz with h2 | rfl
    ·rcases List.mem_or_eq_of_mem_set h2 with h3 | rfl
     ·exact hk z h3
     ·exact ky
    ·exact kx)
   refine ⟨j',.step (bJu z1 z2 (by rw [e1];exact hx) z3 z4 (by rw [e2];exact hy) kx ky hc (by rw [e1,fH];simp;omega) (by rw [e1,e2,fH];simp;omega) e3.symm (by simp) ?_) L⟩
   rw [e1,e2];rw [fH,fH,List.map_set,List.map_set,Nat.mul_one,Nat.mul_one];rfl
  ·rw [if_neg hc]
   exact ⟨_,.exit (bJv z1 z2 (by rw [e1];exact hx) z3 z4 (by rw [e2];exact hy) kx ky (Int.not_lt.1 hc)) (by simp)⟩
theorem bJj{D:List (List Cel)}{k:Int}(Ba:D.length≤12):∀ (n i:Nat) (E:List (List Cel)),i+n=D.length→E.length=D.length→(∀ x∈E,aO k≤(x.length:Int))→aF Tp 2 (sub (cd Tryz.f242) [1,0,0]) (xN D k i E.length ((E.map rwE).flatten)) (.exit 0) (xN D k D.length (aBr (bU k) n i E).length (((aBr (bU k) n i E).map rwE).flatten))
 | 0,i,E,hi,hl,hk=>by
  have:i=D.length:=by omega
  subst this;exact .exit (bJt (by omega)) (by simp)
 | n+1,i,E,hi,hl,hk=>by
  obtain ⟨j',L⟩:=bRr (D:=D) (k:=k) (i:=i) i E (by omega) (by omega) hk
  have h1:=rO (bU k) i E;unfold aBr;exact .step (bJs (G'101:=gL (bU k) i E) (E':=gL (bU k) i E) (by omega) L (aV (by omega)) rfl rfl rfl) (bJj Ba n (i+1) _ (by omega) (by omega) (fun x hx=>hk x (rP _ _ _ hx)))
theorem cDg{D:List (List Cel)}{k:Int}(Ba:D.length≤12)(h1:1≤D.length)(hk:∀ x∈D,aO k≤(x.length:Int)):FMM Tp 242 [.own 0,.p (aB 0),.p (aB (D.length:Nat)),.fn 168 [] [.ptr 1 0]] [some (.row 78 D.length ((D.map rwE).flatten)),some (.box 23 [(.p (aB k))])] (.tup []) [some (.row 78 ((isG (bU k) D).length) (((isG (bU k) D).map rwE).flatten)),some (.box 23 [(.p (aB k))])]:=by
 exact cDm (E'1:=isG (bU k) D) (bJj (k:=k) Ba (D.length-1) 1 D (by omega) rfl hk)
theorem aHu{G:List Chg}{j:Nat}(y:Chg)(hj:j<G.length):((G.set j y).map chE).flatten=(G.map chE).flatten.take (j*2)++[aN y.1,aN y.2]++(G.map chE).flatten.drop (j*2+2):=bPq (E:=chE) (k:=2) (fun _=>rfl) hj y
theorem cBb{G:List Chg}{j:Nat}{y:Chg}(hj:j+1<G.length):j*2+2≤((G.map chE).flatten.take ((j+1)*2)++[aN y.1,aN y.2]++(G.map chE).flatten.drop ((j+1)*2+2)).length:=by
 rw [← aHu y hj,rJ (E:=chE) (k:=2) (fun _=>rfl),aNy];omega
theorem bJk{G:List Chg}{j:Nat}{x y:Chg}(hj:j+1<G.length):(((G.set (j+1) y).set j x).map chE).flatten=((G.map chE).flatten.take ((j+1)*2)++[aN y.1,aN y.2]++(G.map chE).flatten.drop ((j+1)*2+2)).take (j*2)++[aN x.1,aN x.2]++((G.map chE).flatten.take ((j+1)*2)++[aN y.1,aN y.2]++(G.map chE).flatten.drop ((j+1)*2+2)).drop (j*2+2):=by
 rw [← aHu y hj,aHu x (by simp;omega)]
theorem bRs{D:List Chg}{k:Int}{i:Nat}:∀ (j:Nat) (G:List Chg),j<G.length→G.length≤12→(∀ x∈G,aO k≤((crM x).length:Int))→∃ j',aF Tp 2 (sub (cd Tryz.f266) bh) (sE D k i (j:Int) G.length ((G.map chE).flatten)) (.exit 2) (sE D k i j' (gL (iA k) j G).length (((gL (iA k) j G).map chE).flatten))
 | 0,G,hj,hg,hk=>⟨_,.exit (bKb (by omega)) (by simp)⟩
 | j+1,G,hj,hg,hk=>by
  have hx:G[j+1]? = some G[j+1]:=B3 hj;have hy:G[j]? = some (G[j]'(by omega)):=B3 (by omega)
  have kx:=hk _ (gX hj);have ky:=hk _ (gX (show j<G.length by omega))
  have z1:(0:Int)<((j+1:Nat):Int):=by omega
  have z2:0≤((j+1:Nat):Int)∧((j+1:Nat):Int)<(G.length:Int):=by omega
  have z3:inR (((j+1:Nat):Int)-(1:Int)):=by unfold inR;omega
  have z4:0≤(((j+1:Nat):Int)-(1:Int))∧(((j+1:Nat):Int)-(1:Int))<(G.length:Int):=by omega
  have e1:((j+1:Nat):Int).toNat=j+1:=by omega
  have e2:(((j+1:Nat):Int)-(1:Int)).toNat=j:=by omega
  have e3:(((j+1:Nat):Int)-(1:Int))=(j:Int):=by omega
  generalize G[j+1]=x at hx kx
  generalize G[j]'(by omega)=y at hy ky
  unfold gL;rw [hx,hy];dsimp only;obtain ⟨xb,xa⟩:=x;obtain ⟨yb,ya⟩:=y
  by_cases hc:iA k (xb,xa) (yb,ya)<0
  ·rw [if_pos hc]
   obtain ⟨j',L⟩:=bRs (D:=D) (k:=k) (i:=i) j ((G.set (j+1) (yb,ya)).set j (xb,xa)) (by simp;omega) (by simp;omega) (fun z hz=>by
    rcases List.mem_or_eq_of_mem_set hz with h2 | rfl
    ·rcases List.mem_or_eq_of_mem_set h2 with h3 | rfl
     ·exact hk z h3
     ·exact ky
    ·exact kx)
   refine ⟨j',.step (bJz z1 z2 (by rw [e1];exact hx) z3 z4 (by rw [e2];exact hy) kx ky hc ⟨rfl,by rw [e1,rJ (E:=chE) (k:=2) (fun _=>rfl)];omega⟩ ⟨rfl,by rw [e1,e2];exact cBb (y:=(yb,ya)) hj⟩ e3.symm (by simp) ?_) L⟩
   rw [e1,e2];exact bJk (x:=(xb,xa)) (y:=(yb,ya)) hj
  ·rw [if_neg hc]
   exact ⟨_,.exit (bKa z1 z2 (by rw [e1];exact hx) z3 z4 (by rw [e2];exact hy) kx ky (Int.not_lt.1 hc)) (by simp)⟩
theorem bJl{D:List Chg}{k:Int}(Ba:D.length≤12):∀ (n i:Nat) (E:List Chg),i+n=D.length→E.length=D.length→(∀ x∈E,aO k≤((crM x).length:Int))→aF Tp 2 (sub (cd Tryz.f266) [1,0,0]) (xO D k i E.length ((E.map chE).flatten)) (.exit 0) (xO D k D.length (aBr (iA k) n i E).length (((aBr (iA k) n i E).map chE).flatten))
 | 0,i,E,hi,hl,hk=>by
  have:i=D.length:=by omega
  subst this;exact .exit (bJy (by omega)) (by simp)
 | n+1,i,E,hi,hl,hk=>by
  obtain ⟨j',L⟩:=bRs (D:=D) (k:=k) (i:=i) i E (by omega) (by omega) hk
  have h1:=rO (iA k) i E;unfold aBr;exact .step (bJx (G'101:=gL (iA k) i E) (E':=gL (iA k) i E) (by omega) L (aV (by omega)) rfl rfl rfl) (bJl Ba n (i+1) _ (by omega) (by omega) (fun x hx=>hk x (rP _ _ _ hx)))
theorem cDh{D:List Chg}{k:Int}(Ba:D.length≤12)(h1:1≤D.length)(hk:∀ x∈D,aO k≤((crM x).length:Int)):FMM Tp 266 [.own 0,.p (aB 0),.p (aB (D.length:Nat)),.fn 185 [] [.ptr 1 0]] [some (.row 112 D.length ((D.map chE).flatten)),some (.box 23 [(.p (aB k))])] (.tup []) [some (.row 112 ((isG (iA k) D).length) (((isG (iA k) D).map chE).flatten)),some (.box 23 [(.p (aB k))])]:=by
 exact cDn (E'1:=isG (iA k) D) (bJl (k:=k) Ba (D.length-1) 1 D (by omega) rfl hk)
end
section
variable {k l:Int}

noncomputable abbrev aTo:Code:=sub (cd Tryz.f200) [1,1,0,0]
theorem cAm{D:List (List Cel)}{k:Int}{R:List (List Cel)}{n:Int}(hn:n=(D.length:Int))(Ba:D.length≤12)(h1:1≤D.length)(hk:∀ x∈D,aO k≤(x.length:Int)):FMM Tp 242 [.own 0,.p (aB 0),.p (aB n),.fn 151 [] [.ptr 1 0]] [some (.row 78 D.length ((D.map rwE).flatten)),some (.box 26 [(pI k),(.p (.sl R.length (R.map aN)))])] (.tup []) [some (.row 78 ((isG (bU k) D).length) (((isG (bU k) D).map rwE).flatten)),some (.box 26 [(pI k),(.p (.sl R.length (R.map aN)))])]:=by
 subst hn;exact cDf Ba h1 hk
theorem cAn{D:List (List Cel)}{k n:Int}(hn:n=(D.length:Int))(Ba:D.length≤12)(h1:1≤D.length)(hk:∀ x∈D,aO k≤(x.length:Int)):FMM Tp 242 [.own 0,.p (aB 0),.p (aB n),.fn 168 [] [.ptr 1 0]] [some (.row 78 D.length ((D.map rwE).flatten)),some (.box 23 [(pI k)])] (.tup []) [some (.row 78 ((isG (bU k) D).length) (((isG (bU k) D).map rwE).flatten)),some (.box 23 [(pI k)])]:=by
 subst hn;exact cDg Ba h1 hk
theorem cAo{D:List (List Cel × List Cel)}{k n:Int}(hn:n=(D.length:Int))(Ba:D.length≤12)(h1:1≤D.length)(hk:∀ x∈D,aO k≤((crM x).length:Int)):FMM Tp 266 [.own 0,.p (aB 0),.p (aB n),.fn 185 [] [.ptr 1 0]] [some (.row 112 D.length ((D.map chE).flatten)),some (.box 23 [(pI k)])] (.tup []) [some (.row 112 ((isG (iA k) D).length) (((isG (iA k) D).map chE).flatten)),some (.box 23 [(pI k)])]:=by
 subst hn;exact cDh Ba h1 hk
theorem aHq(x:Int)(h:0≤x∧x≤12){base:Nat}:FV Tp 201 [.p (.v (.int .u64 x))] base (pI ((Lib.bitLen x.toNat:Nat):Int)) []:=FV.ofc rfl fun C w us hus hM=>by
 obtain rfl:=Iu rfl hus;refine (Tryz.bits_Len x w h.1 (by omega)).mono ?_
 rintro e w' ⟨rfl,rfl⟩;exact ⟨_,rfl,⟨rfl,rfl,rfl,Bb _,fun _ _=>rfl⟩,.p _ _ (.v _)⟩
theorem F6{n:Nat}(h:n≤12):0≤IntKind.wrap .u64 (n:Int)∧IntKind.wrap .u64 (n:Int)≤12:=by
 have:IntKind.u64.wrap (n:Int)=n:=by simp [IntKind.wrap,IntKind.bits,IntKind.signed];omega
 rw [this];omega
def aHr(D:List (List Cel))(k:Int)(R:List (List Cel))(l:Int)(En:Nat)(Ec:List PV):St:=⟨fr 148 [(0,(.own 0)),(1,(pI 0)),(2,(pI (D.length:Int))),(3,(pI l)),(4,(.fn 151 [] [(.ptr 1 0)]))],[some (.row 78 En Ec),some (.box 26 [(pI k),(.p (.sl R.length (R.map aN)))])]⟩
theorem cAp{D R E'0:List (List Cel)}(hl0:aF Tp 2 aTo (aHr D k R l D.length ((D.map rwE).flatten)) .ret (aHr D k R l E'0.length ((E'0.map rwE).flatten))):FMM Tp 200 [(.own 0),(pI 0),(pI (D.length:Int)),(pI l),(.fn 151 [] [(.ptr 1 0)])] [some (.row 78 D.length ((D.map rwE).flatten)),some (.box 26 [(pI k),(.p (.sl R.length (R.map aN)))])] (.tup []) [some (.row 78 E'0.length ((E'0.map rwE).flatten)),some (.box 26 [(pI k),(.p (.sl R.length (R.map aN)))])]:=FMM.fi 2 gE func200 [hl0.k 5 (gZ [5,143])] (gc hl0.code gn)
theorem bCo{D R E E':List (List Cel)}(h0:inR ((D.length:Int)-0))(h1:((D.length:Int)-0)≤12)(Df:E.length≤12)(Fl:1≤E.length)(Jg:∀ x∈E,aO k≤(x.length:Int))(H2:(D.length:Int)=(E.length:Int))(Ed:E'.length=(isG (bU k) E).length)(Ee:(E'.map rwE).flatten=(((isG (bU k) E).map rwE).flatten)):aA Tp 2 aTo (aHr D k R l E.length ((E.map rwE).flatten)) .ret (aHr D k R l E'.length ((E'.map rwE).flatten)):=by
 have k1:=mq [0,1] 2 (cAm (D:=E) (k:=k) (R:=R) H2 Df Fl Jg);rw [Ed,Ee];exact aA.fi (gZ [5,143]) [bT,k1.o] (gc k1 (gc (mB h1) (gc h0 gn)))
def aHs(D:List (List Cel))(k l:Int)(En:Nat)(Ec:List PV):St:=⟨fr 148 [(0,(.own 0)),(1,(pI 0)),(2,(pI (D.length:Int))),(3,(pI l)),(4,(.fn 168 [] [(.ptr 1 0)]))],[some (.row 78 En Ec),some (.box 23 [(pI k)])]⟩
theorem cAq{D E'0:List (List Cel)}(hl0:aF Tp 2 aTo (aHs D k l D.length ((D.map rwE).flatten)) .ret (aHs D k l E'0.length ((E'0.map rwE).flatten))):FMM Tp 200 [(.own 0),(pI 0),(pI (D.length:Int)),(pI l),(.fn 168 [] [(.ptr 1 0)])] [some (.row 78 D.length ((D.map rwE).flatten)),some (.box 23 [(pI k)])] (.tup []) [some (.row 78 E'0.length ((E'0.map rwE).flatten)),some (.box 23 [(pI k)])]:=FMM.fi 2 gE func200 [hl0.k 5 (gZ [5,143])] (gc hl0.code gn)
theorem bCp{D E E':List (List Cel)}(h0:inR ((D.length:Int)-0))(h1:((D.length:Int)-0)≤12)(Df:E.length≤12)(Fl:1≤E.length)(Jg:∀ x∈E,aO k≤(x.length:Int))(H2:(D.length:Int)=(E.length:Int))(Ed:E'.length=(isG (bU k) E).length)(Ee:(E'.map rwE).flatten=(((isG (bU k) E).map rwE).flatten)):aA Tp 2 aTo (aHs D k l E.length ((E.map rwE).flatten)) .ret (aHs D k l E'.length ((E'.map rwE).flatten)):=by
 have k1:=mq [0,1] 2 (cAn (D:=E) (k:=k) H2 Df Fl Jg);rw [Ed,Ee];exact aA.fi (gZ [5,143]) [bT,k1.o] (gc k1 (gc (mB h1) (gc h0 gn)))
def aHt(D:List (List Cel × List Cel))(k l:Int)(En:Nat)(Ec:List PV):St:=⟨fr 148 [(0,(.own 0)),(1,(pI 0)),(2,(pI (D.length:Int))),(3,(pI l)),(4,(.fn 185 [] [(.ptr 1 0)]))],[some (.row 112 En Ec),some (.box 23 [(pI k)])]⟩
theorem cAr{D E'0:List (List Cel × List Cel)}(hl0:aF Tp 2 (sub (cd Tryz.f222) [1,1,0,0]) (aHt D k l D.length ((D.map chE).flatten)) .ret (aHt D k l E'0.length ((E'0.map chE).flatten))):FMM Tp 222 [(.own 0),(pI 0),(pI (D.length:Int)),(pI l),(.fn 185 [] [(.ptr 1 0)])] [some (.row 112 D.length ((D.map chE).flatten)),some (.box 23 [(pI k)])] (.tup []) [some (.row 112 E'0.length ((E'0.map chE).flatten)),some (.box 23 [(pI k)])]:=FMM.fi 2 gE func222 [hl0.k 5 (gZ [5,143])] (gc hl0.code gn)
theorem bCq{D E E':List (List Cel × List Cel)}(h0:inR ((D.length:Int)-0))(h1:((D.length:Int)-0)≤12)(Df:E.length≤12)(Fl:1≤E.length)(Jg:∀ x∈E,aO k≤((crM x).length:Int))(H2:(D.length:Int)=(E.length:Int))(Ed:E'.length=(isG (iA k) E).length)(Ee:(E'.map chE).flatten=(((isG (iA k) E).map chE).flatten)):aA Tp 2 (sub (cd Tryz.f222) [1,1,0,0]) (aHt D k l E.length ((E.map chE).flatten)) .ret (aHt D k l E'.length ((E'.map chE).flatten)):=by
 have k1:=mq [0,1] 2 (cAo (D:=E) (k:=k) H2 Df Fl Jg);rw [Ed,Ee];exact aA.fi (gZ [5,143]) [bT,k1.o] (gc k1 (gc (mB h1) (gc h0 gn)))
theorem cAs{D:List (List Cel)}{k:Int}{R:List (List Cel)}(l:Int)(Ba:D.length≤12)(h1:1≤D.length)(hk:∀ x∈D,aO k≤(x.length:Int)):FMM Tp 200 [.own 0,.p (aB 0),.p (aB (D.length:Int)),.p (aB l),.fn 151 [] [.ptr 1 0]] [some (.row 78 D.length ((D.map rwE).flatten)),some (.box 26 [(pI k),(.p (.sl R.length (R.map aN)))])] (.tup []) [some (.row 78 ((isG (bU k) D).length) (((isG (bU k) D).map rwE).flatten)),some (.box 26 [(pI k),(.p (.sl R.length (R.map aN)))])] :=
 cAp (E'0:=isG (bU k) D) (.exit (bCo (E':=isG (bU k) D) (by show _∧_;omega) (by omega) Ba h1 hk rfl rfl rfl) (by simp))
abbrev bPp(D:List (List Cel)):=IntKind.wrap .u64 (D.length:Int)
theorem cAt{D R:List (List Cel)}(Gj:0≤(IntKind.wrap .u64 (D.length:Int))∧(IntKind.wrap .u64 (D.length:Int))≤12)(Db:D.length≤12)(Df:1≤D.length)(Fl:∀ x∈D,aO k≤(x.length:Int)):FMM Tp 137 [(.own 0),(.fn 151 [] [(.ptr 1 0)])] [some (.row 78 D.length ((D.map rwE).flatten)),some (.box 26 [(pI k),(.p (.sl R.length (R.map aN)))])] (.tup []) [some (.row 78 ((isG (bU k) D).length) (((isG (bU k) D).map rwE).flatten)),some (.box 26 [(pI k),(.p (.sl R.length (R.map aN)))])]:=have k1:=fk 2 (aHq (bPp D) Gj) rfl;have k2:=mq [0,1] 2 (cAs (D:=D) (k:=k) (R:=R) ((Lib.bitLen (bPp D).toNat:Nat):Int) Db Df Fl);FMM.fi 2 gE func137 [k1.o,k2.o] (gc k2 (gc k1 gn))
theorem cAu{D:List (List Cel)}{k:Int}{R:List (List Cel)}(Ba:D.length≤12)(h1:1≤D.length)(hk:∀ x∈D,aO k≤(x.length:Int)):FMM Tp 137 [.own 0,.fn 151 [] [.ptr 1 0]] [some (.row 78 D.length ((D.map rwE).flatten)),some (.box 26 [(pI k),(.p (.sl R.length (R.map aN)))])] (.tup []) [some (.row 78 ((isG (bU k) D).length) (((isG (bU k) D).map rwE).flatten)),some (.box 26 [(pI k),(.p (.sl R.length (R.map aN)))])]:=cAt (F6 Ba) Ba h1 hk
theorem cAv{D:List (List Cel)}{k:Int}(l:Int)(Ba:D.length≤12)(h1:1≤D.length)(hk:∀ x∈D,aO k≤(x.length:Int)):FMM Tp 200 [.own 0,.p (aB 0),.p (aB (D.length:Int)),.p (aB l),.fn 168 [] [.ptr 1 0]] [some (.row 78 D.length ((D.map rwE).flatten)),some (.box 23 [(pI k)])] (.tup []) [some (.row 78 ((isG (bU k) D).length) (((isG (bU k) D).map rwE).flatten)),some (.box 23 [(pI k)])] :=
 cAq (E'0:=isG (bU k) D) (.exit (bCp (E':=isG (bU k) D) (by show _∧_;omega) (by omega) Ba h1 hk rfl rfl rfl) (by simp))
theorem cAw{D:List (List Cel)}(Gj:0≤(IntKind.wrap .u64 (D.length:Int))∧(IntKind.wrap .u64 (D.length:Int))≤12)(Db:D.length≤12)(Df:1≤D.length)(Fl:∀ x∈D,aO k≤(x.length:Int)):FMM Tp 137 [(.own 0),(.fn 168 [] [(.ptr 1 0)])] [some (.row 78 D.length ((D.map rwE).flatten)),some (.box 23 [(pI k)])] (.tup []) [some (.row 78 ((isG (bU k) D).length) (((isG (bU k) D).map rwE).flatten)),some (.box 23 [(pI k)])]:=have k1:=fk 2 (aHq (bPp D) Gj) rfl;have k2:=mq [0,1] 2 (cAv (D:=D) (k:=k) ((Lib.bitLen (bPp D).toNat:Nat):Int) Db Df Fl);FMM.fi 2 gE func137 [k1.o,k2.o] (gc k2 (gc k1 gn))
theorem cAx{D:List (List Cel)}{k:Int}(Ba:D.length≤12)(h1:1≤D.length)(hk:∀ x∈D,aO k≤(x.length:Int)):FMM Tp 137 [.own 0,.fn 168 [] [.ptr 1 0]] [some (.row 78 D.length ((D.map rwE).flatten)),some (.box 23 [(pI k)])] (.tup []) [some (.row 78 ((isG (bU k) D).length) (((isG (bU k) D).map rwE).flatten)),some (.box 23 [(pI k)])]:=cAw (F6 Ba) Ba h1 hk
theorem cAy{D:List (List Cel × List Cel)}{k:Int}(l:Int)(Ba:D.length≤12)(h1:1≤D.length)(hk:∀ x∈D,aO k≤((crM x).length:Int)):FMM Tp 222 [.own 0,.p (aB 0),.p (aB (D.length:Int)),.p (aB l),.fn 185 [] [.ptr 1 0]] [some (.row 112 D.length ((D.map chE).flatten)),some (.box 23 [(pI k)])] (.tup []) [some (.row 112 ((isG (iA k) D).length) (((isG (iA k) D).map chE).flatten)),some (.box 23 [(pI k)])] :=
 cAr (E'0:=isG (iA k) D) (.exit (bCq (E':=isG (iA k) D) (by show _∧_;omega) (by omega) Ba h1 hk rfl rfl rfl) (by simp))
theorem cAz{D:List (List Cel × List Cel)}(Gj:0≤(IntKind.wrap .u64 (D.length:Int))∧(IntKind.wrap .u64 (D.length:Int))≤12)(Db:D.length≤12)(Df:1≤D.length)(Fl:∀ x∈D,aO k≤((crM x).length:Int)):FMM Tp 184 [(.own 0),(.fn 185 [] [(.ptr 1 0)])] [some (.row 112 D.length ((D.map chE).flatten)),some (.box 23 [(pI k)])] (.tup []) [some (.row 112 ((isG (iA k) D).length) (((isG (iA k) D).map chE).flatten)),some (.box 23 [(pI k)])]:=have k1:=fk 2 (aHq (IntKind.wrap .u64 (D.length:Int)) Gj) rfl;have k2:=mq [0,1] 2 (cAy (D:=D) (k:=k) ((Lib.bitLen (IntKind.wrap .u64 (D.length:Int)).toNat:Nat):Int) Db Df Fl);FMM.fi 2 gE func184 [k1.o,k2.o] (gc k2 (gc k1 gn))
theorem cBa{D:List (List Cel × List Cel)}{k:Int}(Ba:D.length≤12)(h1:1≤D.length)(hk:∀ x∈D,aO k≤((crM x).length:Int)):FMM Tp 184 [.own 0,.fn 185 [] [.ptr 1 0]] [some (.row 112 D.length ((D.map chE).flatten)),some (.box 23 [(pI k)])] (.tup []) [some (.row 112 ((isG (iA k) D).length) (((isG (iA k) D).map chE).flatten)),some (.box 23 [(pI k)])]:=cAz (F6 Ba) Ba h1 hk
end
end KV
end Go.Proofs
section
namespace Go.Proofs
open Go.RowKit
namespace KV
open Tryz
variable {P:Program} {C:Cx} {w:World} {ty n:Nat} {cs Bh:List PV}
theorem eU{o:AO}{id:Nat}{x:AO}(h:([some x]:Mem)[id]? = some (some o)):id=0∧o=x:=by
 cases id with
 | zero=>simp at h;exact ⟨rfl,h.symm⟩
 | succ i=>simp at h
theorem bCt{x:AV}{u:Value}(h:Rep C [some (.row ty n cs)] w x u):Rep C [some (.row ty n Bh)] w x u:=by
 have ex:∀ {id:Nat},(∃ o:AO,([some (.row ty n cs)]:Mem)[id]? = some (some o))→∃ o:AO,([some (.row ty n Bh)]:Mem)[id]? = some (some o):=fun ⟨o,h⟩=>by
  obtain ⟨rfl,_⟩:=eU h;exact ⟨_,rfl⟩
 induction h with
 | p x u h=>exact .p x u h
 | any u=>exact .any u
 | kb b=>exact .kb b
 | yld l=>exact .yld l
 | own id u h0 ha h =>
  refine .own id u h0 (ex ha) fun C7 n' c hm => ?_
  obtain ⟨rfl,e⟩:=eU hm;cases e;exact h _ _ cs rfl
 | arr id off n u h0 ha h =>
  refine .arr id off n u h0 (ex ha) fun o hm hl => ?_
  obtain ⟨rfl,e⟩:=eU hm;exact h _ rfl rfl
 | ptr id off u h0 ha h hp =>
  refine .ptr id off u h0 (ex ha) (fun o hm hl => ?_) hp
  obtain ⟨rfl,e⟩:=eU hm;exact h _ rfl rfl
 | mp id u h0 ha h =>
  refine .mp id u h0 (ex ha) fun o hm hl => ?_
  obtain ⟨rfl,e⟩:=eU hm;exact h _ rfl rfl
 | pa id q u h0 ha h =>
  refine .pa id q u h0 (ex ha) fun o hm hl => ?_
  obtain ⟨rfl,e⟩:=eU hm;exact h _ rfl rfl
 | rp cs off b o us h1 h2 h3=>exact .rp cs off b o us h1 h2 h3
 | agg cs vs h0 h1 _ ih=>exact .agg cs vs h0 h1 ih
 | tup cs vs h1 _ ih=>exact .tup cs vs h1 ih
 | fn f cs ds us vs h1 h2 _ _ Gp Gq=>exact .fn f cs ds us vs h1 h2 Gp Gq
theorem aBs:∀ {args:List AV} {us:List Value},cQ C [some (.row ty n cs)] w args us→cQ C [some (.row ty n Bh)] w args us
 | [],_,h=>by cases h;exact .nil
 | x::l,_,h=>by
  cases h with
  | cons _ _ u us h1 h2=>exact .cons _ _ _ _ (bCt h1) (aBs h2)
theorem bCu(hM:aX P C [some (.row ty n cs)] w):aX P C [some (.row ty n (cs.map wkP))] w:=by
 refine ⟨fun id t' n' c hm => ?_,fun id t' c hm => ?_,fun id e c hm => ?_,fun i i' o o' b h1 l1 h2 l2 e1 e2 => ?_,fun id o b h l e => ?_,hM.Fs,fun id o b h l e => ?_,hM.lib⟩
 ·obtain ⟨rfl,e⟩:=eU hm
  cases e
  rcases hM.row 0 _ _ _ rfl with ⟨h1,h2,h3⟩ | ⟨b,arr,i,q1,q2,q3,q4,q5,q6,q7,q8,q9⟩
  ·exact .inl ⟨h1,h2,by rw [h3];rfl⟩
  ·refine .inr ⟨b,arr,i,q1,q2,q3,q4,by rw [mE];exact q5,q6,q7,fun j hj => ?_,fun j hj=>q9 j (by simpa using hj)⟩
   rw [gY];exact aSt (q8 j (by simpa using hj))
 ·obtain ⟨_,e⟩:=eU hm;cases e
 ·obtain ⟨_,e⟩:=eU hm;cases e
 ·obtain ⟨rfl,_⟩:=eU h1
  obtain ⟨rfl,_⟩:=eU h2;rfl
 ·obtain ⟨rfl,_⟩:=eU h
  exact hM.nF 0 _ b rfl rfl e
 ·obtain ⟨rfl,_⟩:=eU h
  exact hM.lt 0 _ b rfl rfl e
theorem bKd{C':Cx}{M':Mem}{w':World}(f:Fr C [some (.row ty n Bh)] w C' M' w'):Fr C [some (.row ty n cs)] w C' M' w':=by
 refine ⟨f.os,f.tape,f.out,f.size,fun b hb hn=>f.keep b hb fun id o h l e => ?_,fun id o h => ?_,fun id o h t' n' c hm => ?_,fun id o h o' hm hl => ?_,fun id o b h l e => ?_,f.F1,fun b h => ?_⟩
 ·obtain ⟨rfl,_⟩:=eU h
  exact hn 0 _ rfl rfl e
 ·obtain ⟨rfl,_⟩:=eU h
  exact f.ids 0 _ rfl
 ·obtain ⟨rfl,_⟩:=eU h
  obtain ⟨_,e⟩:=f.row 0 _ rfl _ _ _ hm;cases e;exact ⟨cs,rfl⟩
 ·obtain ⟨rfl,rfl⟩:=eU h
  rfl
 ·rcases f.new id o b h l e with h1 | ⟨Ef,o0,h1,h2,h3⟩
  ·exact .inl h1
  ·obtain ⟨rfl,_⟩:=eU h1
   exact .inr ⟨0,_,rfl,rfl,h3⟩
 ·rcases f.F2 b h with h1 | h1 | ⟨Ef,o0,h1,h2,h3⟩
  ·exact .inl h1
  ·exact .inr (.inl h1)
  ·obtain ⟨rfl,_⟩:=eU h1
   exact .inr (.inr ⟨0,_,rfl,rfl,h3⟩)
theorem FMM.rowwk{f:Nat}{args:List AV}{r:AV}{M':Mem}(h:FMM P f args [some (.row ty n (cs.map wkP))] r M'):FMM P f args [some (.row ty n cs)] r M':=fun C w us hus hM k=>by
 refine (h C w us (aBs hus) (bCu hM) k).mono ?_;rintro e w' ⟨u,rfl,C',hF,Eh,hr⟩;exact ⟨u,rfl,C',bKd hF,Eh,hr⟩
end KV
end Go.Proofs
end
namespace Go.Proofs
namespace KV
open Tryz
section
variable {e k:Int}{i j i' j' qn Ly:Nat}

noncomputable abbrev aLu:Code:=sub (cd Tryz.f104) [1,1,1,0,1,0,0]
noncomputable abbrev aLv:Code:=sub (cd Tryz.f104) [1,1,1,1,0,1,0,0]
theorem cAk{D:List (List Cel × List Cel)}(Hr:D.length≤12)(Db:1≤D.length)(Df:∀ x∈D,aO k≤((crM x).length:Int)):FMM Tp 109 [(pI k),(.own 0)] [some (.row 112 D.length ((D.map chE).flatten))] (.own 0) [some (.row 112 ((isG (iA k) D).length) (((isG (iA k) D).map chE).flatten))]:=have k1:=mq [0,1] 2 (cBa (D:=D) (k:=k) Hr Db Df);FMM.fi 1 gE func109 [k1.o] (gc k1 gn)
theorem cDe{k:Int}{n:Nat}{cs:List PV}{D:List Chg}(hn:n=D.length)(hc:cs.map wkP=(D.map chE).flatten)(Ba:D.length≤12)(h1:1≤D.length)(hk:∀ x∈D,aO k≤((crM x).length:Int)):FMM Tp 109 [.p (aB k),.own 0] [some (.row 112 n cs)] (.own 0) [some (.row 112 (isG (iA k) D).length (((isG (iA k) D).map chE).flatten))]:=by
 subst hn;refine FMM.rowwk ?_;rw [hc];exact cAk Ba h1 hk
def kJ(k:Int)(A:List (List Cel))(e:Int)(B:List (List Cel))(i on:Nat)(oc:List PV):St:=⟨fr 69 [(2,(.ptr 0 0)),(3,(.ptr 1 0)),(4,(.p bO)),(5,(.mp 2)),(6,(.mp 3)),(7,(.own 4)),(18,(.p (.sl A.length (A.map aN)))),(19,(pI (A.length:Int))),(20,(pI (i:Int)))],[some (.box 26 [(pI k),(.p (.sl A.length (A.map aN)))]),some (.box 26 [(pI e),(.p (.sl B.length (B.map aN)))]),some (.mp (bQ k A) A.length),some (.mp (bQ e B) B.length),some (.row 112 on oc)]⟩
def kK(k:Int)(A B:List (List Cel))(j qn:Nat)(qc:List PV):St:=⟨fr 69 [(2,(.ptr 0 0)),(4,(.p bO)),(5,(.mp 1)),(7,(.own 2)),(44,(.p (.sl B.length (B.map aN)))),(45,(pI (B.length:Int))),(46,(pI (j:Int)))],[some (.box 26 [(pI k),(.p (.sl A.length (A.map aN)))]),some (.mp (bQ k A) A.length),some (.row 112 qn qc)]⟩
theorem cAl{A B:List (List Cel)}{Aq:Nat}{Ak:List (List Cel × List Cel)}{Kz K4:Nat}{K5:List PV}{D4:List (List Cel × List Cel)}(Q1:fZ k A)(Lw:fZ e B)(Bp:aF Tp 0 aLu (kJ k A e B 0 0 []) (.exit 0) (kJ k A e B Aq Ak.length ((Ak.map chE).flatten)))(Ei:aF Tp 0 aLv (kK k A B 0 Ak.length ((Ak.map chE).flatten)) (.exit 2) (kK k A B Kz K4 K5))(J8:K4=D4.length)(Q2:K5.map wkP=(D4.map chE).flatten)(Nu:D4.length≤12)(N2:1≤D4.length)(N3:∀ x∈D4,aO k≤((crM x).length:Int)):FMM Tp 104 [(.p (.agg [(aB k),(.sl A.length (A.map aN))])),(.p (.agg [(aB e),(.sl B.length (B.map aN))]))] [] (.p (.sl ((isG (iA k) D4).length) (((isG (iA k) D4).map chE).flatten))) []:=have k1:=mq [2] 3 (cDe (k:=k) (D:=D4) J8 Q2 Nu N2 N3);FMM.fi 0 ⟨[],[],[2],[]⟩ func104 [.c (.mp 2) [(2,(.mp (bQ k A) A.length))],.c (.mp 10) [(10,(.mp (bQ e B) B.length))],Bp.k 6 (gN be [0,1,2,10,11] [(7,112)]),Ei.k 4 (gI b6 [0,2,4]),k1.o] (gc k1 (gc Ei.code (gc Bp.code (gt (FC Tp 149 [(.p (.agg [(aB e),(.sl B.length (B.map aN))]))] [] 10 (.mp 10) [(10,(.mp (bQ e B) B.length))]) (FMM.fcN (k:=1) rfl (ids:=[]) (aQi Lw) (by kernel_rfl)) (gt (FC Tp 149 [(.p (.agg [(aB k),(.sl A.length (A.map aN))]))] [] 2 (.mp 2) [(2,(.mp (bQ k A) A.length))]) (FMM.fcN (k:=1) rfl (ids:=[]) (aQi Q1) (by kernel_rfl)) gn)))))
section
variable{A B:List (List Cel)}{Ab B9:List Cel}(h0:(i:Int)<(A.length:Int))(h1:A[i]? = some Ab)(h2:aO k≤(Ab.length:Int))(h3:eM Tp 186 (bQ e B) (k3V (aK k Ab 0) (aK k Ab 1) (aK k Ab 2)))(h4:(gW (bQ e B) (k3V (aK k Ab 0) (aK k Ab 1) (aK k Ab 2)))=true)(h5:gS (bQ e B) (k3V (aK k Ab 0) (aK k Ab 1) (aK k Ab 2))=some (.sl B9.length ((B9.map cE).flatten)))(H9:Ab.length≤100000)
include h0 h1 h2 h3 h4 h5 H9
theorem bCg{o o':List (List Cel × List Cel)}(h7:(decide (Ab=B9))=false)(N7:Ab.length≤1000000)(Q3:B9.length≤1000000)(A5:[(PV.sl Ab.length ((Ab.map cE).flatten)),(.sl B9.length ((B9.map cE).flatten))].length=1*2∧o.length+1≤1000000)(Cm:cn i)(Aj:i'=(i+1))(Dj:o'.length=(o.length+1))(Dk:(o'.map chE).flatten=(((o.map chE).flatten)++[(PV.sl Ab.length ((Ab.map cE).flatten)),(.sl B9.length ((B9.map cE).flatten))])):aA Tp 0 aLu (kJ k A e B i o.length ((o.map chE).flatten)) .normal (kJ k A e B i' o'.length ((o'.map chE).flatten)):=by
 subst Aj;have k1:=fk 5 (eH k Ab h2) rfl;have k2:=fk 5 (pZ Ab B9 H9) rfl;have k3:=fk 5 (qW Ab N7) rfl;have k4:=fk 5 (qW B9 Q3) rfl;rw [Dj,Dk];exact aA.fi (gI be [0,1,2,3,6]) [bT,.x (.sl Ab.length ((Ab.map cE).flatten)),k1.o,bT,.x (.sl B9.length ((B9.map cE).flatten)),k2.o,bT,k3.o,k4.o] (gc Cm (gc A5 (gt ([(PV.sl Ab.length ((Ab.map cE).flatten)),(.sl B9.length ((B9.map cE).flatten))].length=2) (by first | decide | simp) (gc k4 (gc k3 (gc (dB h7) (gc k2 (gc h5 (gc h4 (gc h3 (gc k1 (gc (atm aN h1) (gc (ixn aN h1) (g0 h0))))))))))))))
theorem bCh{o:List (List Cel × List Cel)}(h7:(decide (Ab=B9))=true)(h8:cn i)(Aj:i'=(i+1)):aA Tp 0 aLu (kJ k A e B i o.length ((o.map chE).flatten)) .normal (kJ k A e B i' o.length ((o.map chE).flatten)):=by
 subst Aj;have k1:=fk 5 (eH k Ab h2) rfl;have k2:=fk 5 (pZ Ab B9 H9) rfl;exact aA.fi (gI be ca) [bT,.x (.sl Ab.length ((Ab.map cE).flatten)),k1.o,bT,.x (.sl B9.length ((B9.map cE).flatten)),k2.o,bF] (gc h8 (gc (aU h7) (gc k2 (gc h5 (gc h4 (gc h3 (gc k1 (gc (atm aN h1) (gc (ixn aN h1) (g0 h0))))))))))
end
theorem bCi{A B:List (List Cel)}{o:List (List Cel × List Cel)}{Ab:List Cel}{o':List (List Cel × List Cel)}(h0:(i:Int)<(A.length:Int))(h1:A[i]? = some Ab)(h2:aO k≤(Ab.length:Int))(h3:eM Tp 186 (bQ e B) (k3V (aK k Ab 0) (aK k Ab 1) (aK k Ab 2)))(h4:(gW (bQ e B) (k3V (aK k Ab 0) (aK k Ab 1) (aK k Ab 2)))=false)(Jl:Ab.length≤100000)(h6:(decide (Ab=([]:List Cel)))=false)(K0:Ab.length≤1000000)(N7:([]:List Cel).length≤1000000)(h9:[(PV.sl Ab.length ((Ab.map cE).flatten)),(.sl 0 [])].length=1*2∧o.length+1≤1000000)(A5:cn i)(Aj:i'=(i+1))(Dj:o'.length=(o.length+1))(Dk:(o'.map chE).flatten=(((o.map chE).flatten)++[(PV.sl Ab.length ((Ab.map cE).flatten)),(.sl 0 [])])):aA Tp 0 aLu (kJ k A e B i o.length ((o.map chE).flatten)) .normal (kJ k A e B i' o'.length ((o'.map chE).flatten)):=by
 subst Aj;have k1:=fk 5 (eH k Ab h2) rfl;have k2:=fk 5 (qW Ab K0) rfl;rw [Dj,Dk];exact aA.fi (gI be [0,1,2,3,6]) [bT,.x (.sl Ab.length ((Ab.map cE).flatten)),k1.o,bF,.c (pB (decide (Ab=([]:List Cel)))) [],bT,k2.o,.c (.p (.sl 0 [])) []] (gc A5 (gc h9 (gt ([(PV.sl Ab.length ((Ab.map cE).flatten)),(.sl 0 [])].length=2) (by first | decide | simp) (gt (FC Tp 150 [(.p bO)] [] 5 (.p (.sl 0 [])) []) (FV.fc (FV.argwk (qW ([]:List Cel) N7) rfl) rfl) (gc k2 (gc (dB h6) (gt (FC Tp 107 [(.p (.sl Ab.length ((Ab.map cE).flatten))),(.p bO)] [] 5 (pB (decide (Ab=([]:List Cel)))) []) (FV.fc (FV.argwk (pZ Ab ([]:List Cel) Jl) rfl) rfl) (gc h4 (gc h3 (gc k1 (gc (atm aN h1) (gc (ixn aN h1) (g0 h0)))))))))))))
theorem bCj{A B:List (List Cel)}{o:List (List Cel × List Cel)}(h0:(A.length:Int)≤(i:Int)):aA Tp 0 aLu (kJ k A e B i o.length ((o.map chE).flatten)) (.exit 0) (kJ k A e B i o.length ((o.map chE).flatten)):=aA.fi (gI be ca) [bF] (gc (bL h0) gn)
section
variable{A B:List (List Cel)}{Ac Bl:List Cel}(h0:(j:Int)<(B.length:Int))(h1:B[j]? = some Ac)(h2:aO k≤(Ac.length:Int))(h3:eM Tp 186 (bQ k A) (k3V (aK k Ac 0) (aK k Ac 1) (aK k Ac 2)))(h4:(gW (bQ k A) (k3V (aK k Ac 0) (aK k Ac 1) (aK k Ac 2)))=true)(h5:gS (bQ k A) (k3V (aK k Ac 0) (aK k Ac 1) (aK k Ac 2))=some (.sl Bl.length ((Bl.map cE).flatten)))
include h0 h1 h2 h3 h4 h5
theorem bCk{qc K6:List PV}(h6:(Bl.length:Int)=0)(K0:Ac.length≤1000000)(h8:[bO,(.sl Ac.length ((Ac.map cE).flatten))].length=1*2∧qn+1≤1000000)(h9:cn j)(Bw:j'=(j+1))(Jm:Ly=(qn+1))(Jn:K6=(qc++[bO,(.sl Ac.length ((Ac.map cE).flatten))])):aA Tp 0 aLv (kK k A B j qn qc) .normal (kK k A B j' Ly K6):=by
 subst Bw Jm Jn;have k1:=fk 3 (eH k Ac h2) rfl;have k2:=fk 3 (qW Ac K0) rfl;exact aA.fi (gI b6 [0,1,4]) [bT,.x (.sl Ac.length ((Ac.map cE).flatten)),k1.o,bT,.x (.sl Bl.length ((Bl.map cE).flatten)),bT,k2.o] (gc h9 (gc h8 (gt ([bO,(.sl Ac.length ((Ac.map cE).flatten))].length=2) (by first | decide | simp) (gc k2 (gc (dC h6) (gc h5 (gc h4 (gc h3 (gc k1 (gc (atm aN h1) (gc (ixn aN h1) (g0 h0))))))))))))
theorem bCl{qc:List PV}(h6:(Bl.length:Int)≠0)(h7:cn j)(Bw:j'=(j+1)):aA Tp 0 aLv (kK k A B j qn qc) .normal (kK k A B j' qn qc):=by
 subst Bw;have k1:=fk 3 (eH k Ac h2) rfl;exact aA.fi (gI b6 [0,1,2]) [bT,.x (.sl Ac.length ((Ac.map cE).flatten)),k1.o,bT,.x (.sl Bl.length ((Bl.map cE).flatten)),bF] (gc h7 (gc (bP h6) (gc h5 (gc h4 (gc h3 (gc k1 (gc (atm aN h1) (gc (ixn aN h1) (g0 h0)))))))))
end
theorem bCm{A B:List (List Cel)}{qc:List PV}{Ac:List Cel}{K6:List PV}(h0:(j:Int)<(B.length:Int))(h1:B[j]? = some Ac)(h2:aO k≤(Ac.length:Int))(h3:eM Tp 186 (bQ k A) (k3V (aK k Ac 0) (aK k Ac 1) (aK k Ac 2)))(h4:(gW (bQ k A) (k3V (aK k Ac 0) (aK k Ac 1) (aK k Ac 2)))=false)(Jl:Ac.length≤1000000)(h6:[bO,(.sl Ac.length ((Ac.map cE).flatten))].length=1*2∧qn+1≤1000000)(h7:cn j)(Bw:j'=(j+1))(Jm:Ly=(qn+1))(Jn:K6=(qc++[bO,(.sl Ac.length ((Ac.map cE).flatten))])):aA Tp 0 aLv (kK k A B j qn qc) .normal (kK k A B j' Ly K6):=by
 subst Bw Jm Jn;have k1:=fk 3 (eH k Ac h2) rfl;have k2:=fk 3 (qW Ac Jl) rfl;exact aA.fi (gI b6 [0,1,4]) [bT,.x (.sl Ac.length ((Ac.map cE).flatten)),k1.o,bF,bT,k2.o] (gc h7 (gc h6 (gt ([bO,(.sl Ac.length ((Ac.map cE).flatten))].length=2) (by first | decide | simp) (gc k2 (gt (((0:Int) == 0)=true) (by first | decide | simp) (gc h4 (gc h3 (gc k1 (gc (atm aN h1) (gc (ixn aN h1) (g0 h0)))))))))))
theorem bCn{A B:List (List Cel)}{qc:List PV}(h0:(B.length:Int)≤(j:Int)):aA Tp 0 aLv (kK k A B j qn qc) (.exit 2) (kK k A B j qn qc):=aA.fi (gI b6 [0,1,2]) [bF] (gc (bL h0) gn)
end
end KV
end Go.Proofs
section
namespace Go.Proofs
open Go.RowKit
namespace KV
open Tryz
set_option maxRecDepth 1000000
def nQ(k:Int)(B:List (List Cel))(r:List Cel):Option Chg:=if r=(kO k B r).getD [] then none else some (r,(kO k B r).getD [])
def tH(k:Int)(A:List (List Cel))(r:List Cel):Option Chg:=if ((kO k A r).getD []).length=0 then some ([],r) else none
def dfL(k:Int)(A B:List (List Cel)):List Chg:=A.filterMap (nQ k B)++B.filterMap (tH k A)
def dfM(k:Int)(A B:List (List Cel)):List Chg:=isG (iA k) (dfL k A B)
theorem aEz(k:Int):1≤aO k:=by
 unfold aO
 repeat' split
 all_goals decide
theorem bPn{k:Int}{L:List (List Cel)}{r y:List Cel}(h:kO k L r=some y):y∈L:=bLh h
theorem bJg{k:Int}{A B:List (List Cel)}(hA:fZ k A)(hB:fZ k B):∀ x∈dfL k A B,aO k≤((crM x).length:Int):=by
 have hp:=aEz k;intro x hx
 rcases oG.1 hx with hx | hx
 ·obtain ⟨r,hr,he⟩:=List.mem_filterMap.1 hx
  unfold nQ at he
  split at he
  ·cases he
  ·cases he
   have:=(hA.len r hr).1;unfold crM;rw [if_pos (by show 0<r.length;omega)];exact this
 ·obtain ⟨r,hr,he⟩:=List.mem_filterMap.1 hx
  unfold tH at he
  split at he
  ·cases he
   have:=(hB.len r hr).1;unfold crM;rw [if_neg (by simp)];exact this
  ·cases he
theorem cAj(c:Chg):(chE c).map wkP=chE c:=rfl
theorem bPo(L:List Chg):((L.map chE).flatten).map wkP=(L.map chE).flatten:=by
 induction L with
 | nil=>rfl
 | cons c L ih=>rw [eZ,vU,pT,ih,cAj]
def nlE(c:Chg):List PV:=[bO,aN c.2]
theorem cDd{k:Int}{A:List (List Cel)}:∀ B:List (List Cel),(((B.filterMap (tH k A)).map nlE).flatten).map wkP=((B.filterMap (tH k A)).map chE).flatten:=fun B=>by
 have:∀ L:List Chg,(∀ c∈L,c.1=[])→((L.map nlE).flatten).map wkP=(L.map chE).flatten:=fun L hL=>by
  induction L with
  | nil=>rfl
  | cons c L ih =>
   rw [eZ,eZ,vU,vU,pT,ih (fun x hx=>hL x (by simp [hx]))]
   congr 1
   have h:=hL c (by simp)
   obtain ⟨a,b⟩:=c;dsimp only at h
   subst h;rfl
 refine this _ fun c hc => ?_
 obtain ⟨r,_,he⟩:=List.mem_filterMap.1 hc;unfold tH at he
 split at he
 ·cases he;rfl
 ·cases he
theorem aLt(L:List Chg)(c:Chg):((L++[c]).map chE).flatten=(L.map chE).flatten++chE c:=by simp
theorem bJh(L:List Chg)(c:Chg):((L++[c]).map nlE).flatten=(L.map nlE).flatten++nlE c:=by simp
theorem vE{α β:Type}(f:α→Option β){l:List α}{i:Nat}{x:α}(h:l[i]? = some x):(l.take (i+1)).filterMap f=(l.take i).filterMap f++(f x).toList:=by
 rw [List.take_add_one,h];rw [List.filterMap_append];cases hf:f x <;> simp [hf]
theorem aBq{α β:Type}(f:α→Option β)(l:List α)(i:Nat):((l.take i).filterMap f).length≤l.length:=iL (List.length_filterMap_le _ _) (by simp;omega)
theorem aQh{k:Int}{A B:List (List Cel)}(hA:fZ k A)(hB:fZ k B)(Ba:(dfL k A B).length≤12)(h1:1≤(dfL k A B).length) :
  FMM Tp 104 [.p (.agg [aB k,cD A]),.p (.agg [aB k,cD B])] [] (.p (.sl (dfM k A B).length ((dfM k A B).map chE).flatten)) []:=by
 have hAn:=hA.n;have hBn:=hB.n;have L1:=aF.count (P:=Tp) (k:=0) (b:=(sub (cd Tryz.f104) bm)) (e := .exit 0) (R:=kJ k A k B A.length (A.filterMap (nQ k B)).length (((A.filterMap (nQ k B)).map chE).flatten)) A.length
  (fun i=>kJ k A k B i ((A.take i).filterMap (nQ k B)).length ((((A.take i).filterMap (nQ k B)).map chE).flatten))
  (fun i hi=>by
   have hx:A[i]? = some A[i]:=B3 hi;have hm:=gX hi;have hl:=hA.len _ hm;have hK:eM Tp 186 (bQ k B) (iS k A[i]):=vF hB.ky (hA.ky _ hm) hB.nd;have hfl:=aBq (nQ k B) A i;rw [vE (nQ k B) hx];generalize A[i]=x at hx hm hl hK
   have hhit:=nR k B x;have hlook:=rQ k B x;rw [nS] at hhit
   have hf:nQ k B x=if x=(kO k B x).getD [] then none else some (x,(kO k B x).getD []):=rfl
   rw [hf];generalize (A.take i).filterMap (nQ k B)=o at hfl
   cases hlk:kO k B x with
   | some y =>
    rw [hlk] at hhit hlook
    have hy:=hB.len y (bPn hlk)
    by_cases he:x=y
    ·rw [Option.getD_some,if_pos he,Option.toList_none,List.append_nil]
     exact bCh (by omega) hx hl.1 hK hhit hlook (by omega) (by simp [he]) (aV (by omega)) rfl
    ·rw [Option.getD_some,if_neg he]
     exact bCg (o':=o++[(x,y)]) (by omega) hx hl.1 hK hhit hlook (by omega) (by simp [he]) (by omega) (by omega) ⟨rfl,by omega⟩ (aV (by omega)) rfl (by simp) (aLt o (x,y))
   | none =>
    rw [hlk] at hhit hlook
    have hp:=aEz k;have he:¬ x=[]:=fun e=>by rw [e] at hl;simp at hl;omega
    rw [Option.getD_none,if_neg he];exact bCi (o':=o++[(x,[])]) (by omega) hx hl.1 hK hhit (by omega) (by simp [he]) (by omega) (by simp) ⟨rfl,by omega⟩ (aV (by omega)) rfl (by simp) (aLt o (x,[])))
  (by rw [List.take_length];exact bCj (by omega)) (by simp)
 have L2:=aF.count (P:=Tp) (k:=0) (b:=(sub (cd Tryz.f104) bi)) (e := .exit 2) (R:=kK k A B B.length (dfL k A B).length (((A.filterMap (nQ k B)).map chE).flatten++((B.filterMap (tH k A)).map nlE).flatten)) B.length
  (fun j=>kK k A B j ((A.filterMap (nQ k B)).length+((B.take j).filterMap (tH k A)).length) (((A.filterMap (nQ k B)).map chE).flatten++(((B.take j).filterMap (tH k A)).map nlE).flatten))
  (fun j hj=>by
   have hx:B[j]? = some B[j]:=B3 hj;have hm:=gX hj;have hl:=hB.len _ hm;have hK:eM Tp 186 (bQ k A) (iS k B[j]):=vF hA.ky (hB.ky _ hm) hA.nd;have hfl:=aBq (tH k A) B j;have hfa:(A.filterMap (nQ k B)).length≤A.length:=List.length_filterMap_le _ _;rw [vE (tH k A) hx];generalize B[j]=x at hx hm hl hK
   have hhit:=nR k A x;have hlook:=rQ k A x;rw [nS] at hhit
   have hf:tH k A x=if ((kO k A x).getD []).length=0 then some ([],x) else none:=rfl
   rw [hf];generalize (B.take j).filterMap (tH k A)=q at hfl
   generalize A.filterMap (nQ k B)=o at hfa
   have hap:((o.map chE).flatten++(q.map nlE).flatten)++[bO,aN x]=(o.map chE).flatten++((q++[([],x)]).map nlE).flatten:=by rw [bJh,List.append_assoc];rfl
   cases hlk:kO k A x with
   | some y =>
    rw [hlk] at hhit hlook
    by_cases he:y.length=0
    ·rw [Option.getD_some,if_pos he]
     refine bCk (by omega) hx hl.1 hK hhit hlook (by omega) (by omega) ⟨rfl,by omega⟩ (aV (by omega)) rfl ?_ hap.symm
     show o.length+(q++[(([]:List Cel),x)]).length=_;rw [B4,List.length_singleton];omega
    ·rw [Option.getD_some,if_neg he,Option.toList_none,List.append_nil]
     exact bCl (by omega) hx hl.1 hK hhit hlook (by omega) (aV (by omega)) rfl
   | none =>
    rw [hlk] at hhit hlook
    rw [Option.getD_none,if_pos (by simp)]
    refine bCm (by omega) hx hl.1 hK hhit (by omega) ⟨rfl,by omega⟩ (aV (by omega)) rfl ?_ hap.symm
    show o.length+(q++[(([]:List Cel),x)]).length=_;rw [B4,List.length_singleton];omega)
  (by
   rw [List.take_length];have:(dfL k A B).length=(A.filterMap (nQ k B)).length+(B.filterMap (tH k A)).length:=by unfold dfL;rw [B4]
   rw [this];exact bCn (by omega)) (by simp)
 have e0:((A.filterMap (nQ k B)).length+((B.take 0).filterMap (tH k A)).length)=(A.filterMap (nQ k B)).length:=by simp
 have e1:(((A.filterMap (nQ k B)).map chE).flatten++(((B.take 0).filterMap (tH k A)).map nlE).flatten)=((A.filterMap (nQ k B)).map chE).flatten:=by simp
 rw [e0,e1] at L2
 refine cAl (D4:=dfL k A B) hA hB L1 L2 rfl ?_ Ba h1 (bJg hA hB);unfold dfL;rw [pT,bPo,cDd,pT,bLj]
end KV
end Go.Proofs
end
namespace Go.Proofs
namespace KV
open Tryz
section
variable {k:Int}{q q':Nat}

noncomputable abbrev aTn:Code:=sub (cd Tryz.f56) [1,0,1,0,0]
def qV(k:Int)(A B:List (List Cel))(q:Nat):St:=⟨fr 29 [(2,(.ptr 0 0)),(3,(.ptr 1 0)),(11,(.p (.agg [(aB k),(.sl A.length (A.map aN)),(aB k),(.sl B.length (B.map aN))]))),(12,(pI (q:Int)))],[some (.box 26 [(pI k),(.p (.sl A.length (A.map aN)))]),some (.box 26 [(pI k),(.p (.sl B.length (B.map aN)))])]⟩
theorem cAh{A B:List (List Cel)}{Hf:Nat}(hl0:aF Tp 0 aTn (qV k A B 0) (.exit 0) (qV k A B Hf))(h1:k=k)(I5:fZ k A)(Qz:fZ k B)(Ny:(dfL k A B).length≤12)(Q0:1≤(dfL k A B).length):FMM Tp 56 [(.p (.agg [(aB k),(.sl A.length (A.map aN))])),(.p (.agg [(aB k),(.sl B.length (B.map aN))]))] [] (.tup [(.p (.sl ((dfM k A B).length) (((dfM k A B).map chE).flatten))),(pI 0)]) []:=have k1:=fk 2 (FV.frz (aQh I5 Qz Ny Q0) rfl) rfl;FMM.fi 0 gE func56 [hl0.k 6 (gI bt [0,1]),bF,k1.o] (gc k1 (gc (bK h1) (gc hl0.code gn)))
theorem bCd{A B:List (List Cel)}(Ar:q=0)(h1:(dW k A)=0)(D7:q'=1):aA Tp 0 aTn (qV k A B q) .normal (qV k A B q'):=by
 subst Ar;subst D7;exact aA.fi (gI bt [0,1]) [bT,.c (pI (dW k A)) [],bF] (gt (inR 1) (by show _∧_;omega) (gc (bK h1) (gc (fk 3 (iM k A) rfl) (gt (0+2≤[(aB k),(.sl A.length (A.map aN)),(aB k),(.sl B.length (B.map aN))].length) (by first | decide | simp) (gt (0≤(0:Int)∧(0:Int)<2) (by first | decide | simp) (gt ((decide ((0:Int)<2))=true) (by first | decide | simp) gn))))))
theorem bCe{A B:List (List Cel)}(Ar:q=1)(h1:(dW k B)=0)(D7:q'=2):aA Tp 0 aTn (qV k A B q) .normal (qV k A B q'):=by
 subst Ar;subst D7;exact aA.fi (gI bt [0,1]) [bT,.c (pI (dW k B)) [],bF] (gt (inR 2) (by show _∧_;omega) (gc (bK h1) (gc (fk 3 (iM k B) rfl) (gt (2+2≤[(aB k),(.sl A.length (A.map aN)),(aB k),(.sl B.length (B.map aN))].length) (by first | decide | simp) (gt (0≤(1:Int)∧(1:Int)<2) (by first | decide | simp) (gt ((decide ((1:Int)<2))=true) (by first | decide | simp) gn))))))
theorem bCf{A B:List (List Cel)}(Ar:q=2)(D7:q'=2):aA Tp 0 aTn (qV k A B q) (.exit 0) (qV k A B q'):=by
 subst Ar;subst D7;exact aA.fi (gI bt [0,1]) [bF] (gt ((decide ((2:Int)<2))=false) (by first | decide | simp) gn)
theorem cAi{k:Int}{A B:List (List Cel)}(cA:dW k A=0)(cB:dW k B=0)(hA:fZ k A)(hB:fZ k B)(Ba:(dfL k A B).length≤12)(h1:1≤(dfL k A B).length){base:Nat}:FV Tp 56 [.p (.agg [aB k,cD A]),.p (.agg [aB k,cD B])] base (.tup [.p (.sl (dfM k A B).length (((dfM k A B).map chE).flatten)),.p (aB 0)]) [] :=
 FV.frz (cAh (.step (bCd rfl cA rfl) (.step (bCe rfl cB rfl) (.exit (bCf rfl rfl) (by simp)))) rfl hA hB Ba h1) rfl
end
end KV
end Go.Proofs
