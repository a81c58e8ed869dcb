/- Parts of the proof of JTopContested: laws of walks, contracts of functions, plain models. No condition. -/
import Derived.RangeFuncNested
import Derived.Sort.LoopGhostIn
import Derived.Lib.OwnBridge
import Derived.Shelf.Slices.Clone
import Derived.Shelf.Small.Bits
import Derived.Shelf.Small.Wraps
import Derived.Shelf.Strconv.Itoa0
import Derived.Shelf.Sort.Plain
import Derived.Shelf.Slices.Turned
import Derived.Ground.Names2Prog
import Derived.Shelf.Slices.CompactI
import Derived.Shelf.Slices.SearchI
import Derived.Shelf.Slices.Cells
import Derived.Shelf.Slices.In.SortNone
import Derived.Ground.SlgnProg
import Derived.Shelf.SlicesE.Clone
import Derived.Test.YtaghkcgipomdjaaGreatProg
import Derived.Sort.OwnSortedInts
import Derived.OneCell
import Derived.Shelf.SlicesE.DeleteFunc
import Derived.Ground.SlgfProg
import Derived.Test.YtaghkcgipomdjaaGreatPJTopContestedC
set_option linter.unusedVariables false
set_option linter.unusedSimpArgs false
set_option maxRecDepth 100000
namespace Go.Proofs
namespace KV
open Tryz
section
def aYm(dl:Int)(oc:List Int)(dc:Lqq)(bib:Int)(x:List Int):Bool:=decide (dK x≤4) && (dB x == bib && (dX dl oc dc x && (!(dK x == 4) || aIc dl oc dc x)))
def byI(k t m:Int):Int:=if k=1 then t-m else if k=2 then t+1200*m else if k=3 then t else t+m
def aIb(dl:Int)(oc:List Int)(dc:Lqq)(bib:Int)(acc:Bool × Int)(x:List Int):Bool × Int:=if aYm dl oc dc bib x then (acc.1 || dK x == 3,byI (dK x) acc.2 (pQ dl oc dc x)) else acc
def aNf(dl:Int)(oc:List Int)(dc:Lqq)(bib time:Int):Bool × Int:=dc.foldl (aIb dl oc dc bib) (time == -1,time)
def cI(dl:Int)(oc:List Int)(dc:Lqq)(bib time:Int):Int × Bool:=if (aNf dl oc dc bib time).1 then (0,true) else (max 0 (aNf dl oc dc bib time).2,false)
def rO(dl:Int)(dc:Lqq)(x:List Int):Bool:=jR (dK x) && (dX dl [] dc x && (wK dl [] dc x).isNone)
def cP(dl:Int)(dc:Lqq):List Int:=(dc.filter (rO dl dc)).map dN
section
variable {dl:Int} {sk dc:Lqq} {oc:List Int} {ov:PV}
theorem bZg(hd:bZ dc)(hov:∀ n,wJ ov n (oc.contains n)){x:List Int}(hx:x∈dc){T:Lqb}(hT:cE dl oc dc T):∃ T' z0 z1 z2 z3 z4 z5,cE dl oc dc T'∧(wK dl oc dc x).getD Ie=[z0,z1,z2,z3,z4,z5]∧aRz dl sk dc ov x [z0,z1,z2,z3,z4,z5] (wK dl oc dc x).isSome T T':=by
 obtain ⟨T',h1,h2⟩:=cNd (sk:=sk) hd hov hx T hT;cases hr:wK dl oc dc x with
 | none =>
  rw [hr] at h2
  exact ⟨T',0,0,0,0,0,0,h1,rfl,h2⟩
 | some z =>
  have hz:z.length=6:=by
   rw [aFk hd hx] at hr
   exact iG hd _ z (xV hr)
  obtain ⟨a,b,c,d,e,f,rfl⟩:=Bo hz;rw [hr] at h2
  exact ⟨T',a,b,c,d,e,f,h1,rfl,h2⟩
theorem aRx(hd:bZ dc):∀ (n:Nat) (x:List Int),x∈dc→10000-dN x≤(n:Int)→0≤pQ dl oc dc x∧pQ dl oc dc x≤36000
 | 0,x,hx,h=>by have:=eX hd hx;omega
 | n+1,x,hx,h=>by
  rw [bEm hd hx];cases hr:aNp dl oc dc x with
  | none =>
   have h4:=(lM.1 (hd.rng x hx)).2.2.2;have:nH (x.getD 1 0)≤36000:=by unfold nH;split <;> omega
   show 0≤x.getD 4 0∧x.getD 4 0≤36000;omega
  | some z =>
   have hz:z∈bN dc (dN x):=by
    rw [aFl hd hx] at hr
    exact xV hr
   obtain ⟨a1,a2⟩:=sW hd hx hz;exact aRx hd n z a1 (by omega)
theorem bEf(hd:bZ dc){x:List Int}(hx:x∈dc):0≤pQ dl oc dc x∧pQ dl oc dc x≤36000:=aRx hd 10000 x hx (by have:=eX hd hx;omega)
theorem cNc(hd:bZ dc)(hov:∀ n,wJ ov n (oc.contains n))(bib:Int){x:List Int}(hx:x∈dc){T:Lqb}(hT:cE dl oc dc T):∃ T',cE dl oc dc T'∧aCi dl sk dc ov x bib (aYm dl oc dc bib x) T T':=by
 obtain ⟨T1,h1,c1⟩:=bSt (sk:=sk) hd hov hx T hT;obtain ⟨T2,h2,c2⟩:=cNf (sk:=sk) hd hov hx T1 h1;obtain ⟨a,k,c,d,e,f,rfl⟩:=Bo (hd.ud x hx);unfold aYm
 by_cases hk:k≤4
 ·have G5:decide (k≤4)=true:=decide_eq_true hk
  rw [show decide (dK [a,k,c,d,e,f]≤4)=true from G5,iW]
  by_cases hb:d=bib
  ·rw [show (dB [a,k,c,d,e,f] == bib)=true by simpa using hb,iW]
   cases hc:dX dl oc dc [a,k,c,d,e,f] with
   | false =>
    rw [hc] at c1
    exact ⟨T1,h1,cGu G5 hb c1 rfl⟩
   | true =>
    rw [hc] at c1
    rw [iW]
    by_cases h4:k=4
    ·rw [show (dK [a,k,c,d,e,f] == 4)=true by simpa using h4,Bool.not_true,Bool.false_or]
     exact ⟨T2,h2,cGt G5 hb c1 rfl h4 c2⟩
    ·rw [show (dK [a,k,c,d,e,f] == 4)=false by simpa using h4,Bool.not_false,Bool.true_or]
     exact ⟨T1,h1,cGs G5 hb c1 rfl h4⟩
  ·rw [show (dB [a,k,c,d,e,f] == bib)=false by simpa using hb,Bool.false_and]
   exact ⟨T,hT,cGv G5 hb⟩
 ·have G5:decide (k≤4)=false:=decide_eq_false hk
  rw [show decide (dK [a,k,c,d,e,f]≤4)=false from G5,Bool.false_and]
  exact ⟨T,hT,cGw G5⟩
theorem cGr(hd:bZ dc)(hov:∀ n,wJ ov n (oc.contains n))(s0 s1:Int)(hs : -1≤s1∧s1≤360000){T:Lqb}(hT:cE dl oc dc T):∃ T',cE dl oc dc T'∧bJs dl sk dc ov [s0,s1] (cI dl oc dc s0 s1).1 (cI dl oc dc s0 s1).2 T T':=by
 have hlen:=hd.len;obtain ⟨acc,⟨h1,h2,_⟩,h3⟩:=aF.ex (P:=Tp) (k:=7) (b:=sub (cd Tryz.f95) dd) (e := .exit 0) (fun i (a:(Bool × Int) × Lqb)=>tot_S0 dl sk dc ov s0 s1 a.1.1 a.1.2 i (aN a.2) a.2.length)
  (fun a=>tot_S0 dl sk dc ov s0 s1 a.1.1 a.1.2 dc.length (aN a.2) a.2.length)
  (fun i a=>cE dl oc dc a.2∧a.1=(dc.take i).foldl (aIb dl oc dc s0) (s1 == -1,s1) ∧ -1-36000*(i:Int)≤a.1.2∧a.1.2≤360000+43200000*(i:Int)) (by simp) dc.length
  (fun i acc hi hI=>by
   obtain ⟨⟨out,tot⟩,T1⟩:=acc;obtain ⟨h1,h2,h3,h4⟩:=hI;dsimp only at h1 h2 h3 h4
   have hm:=fG hi;obtain ⟨a,k,c,d,e,f,hy⟩:=Bo (hd.ud _ hm);have hx:dc[i]? = some [a,k,c,d,e,f]:=by rw [Av hi,hy]
   rw [hy] at hm
   have et:(dc.take (i+1)).foldl (aIb dl oc dc s0) (s1 == -1,s1)=aIb dl oc dc s0 (out,tot) [a,k,c,d,e,f]:=by
    rw [List.take_add_one,hx,xX,← h2];rfl
   obtain ⟨T2,q1,q2⟩:=cNc (sk:=sk) hd hov s0 hm h1;rw [et];unfold aIb;cases hh:aYm dl oc dc s0 [a,k,c,d,e,f] with
   | false =>
    rw [hh] at q2
    exact ⟨((out,tot),T2),⟨q1,by simp,by dsimp only;omega,by dsimp only;omega⟩,aYp (by omega) hx hd.ud q2 rfl (aI (by omega)) rfl rfl rfl⟩
   | true =>
    rw [hh] at q2
    rw [if_pos rfl];obtain ⟨T3,q3,q4⟩:=cNg (sk:=sk) hd hov hm T2 q1;have hb:=bEf (dl:=dl) (oc:=oc) hd hm;revert q4 hb;generalize pQ dl oc dc [a,k,c,d,e,f]=m;intro q4 hb;have hk:0≤k∧k≤4:=by
     have h5:=(lM.1 (hd.rng _ hm)).2.1;unfold aYm at hh
     rw [Cc] at hh
     exact ⟨h5.1,of_decide_eq_true hh.1⟩
    have Vm:k=0∨k=1∨k=2∨k=3∨k=4:=by omega
    clear hh
    rcases Vm with rfl | rfl | rfl | rfl | rfl
    ·have hI:∀ q:Bool,-1-36000*((i+1:Nat):Int)≤tot+m∧tot+m≤360000+43200000*((i+1:Nat):Int):=fun _=>by omega
     cases out with
     | true=>exact ⟨((true,tot+m),T3),⟨q3,rfl,(hI true).1,(hI true).2⟩,tot_L0_p0 (by omega) hx hd.ud q2 rfl rfl q4 (by show inR (tot+m);unfold inR;omega) (aI (by omega)) rfl rfl rfl rfl⟩
     | false=>exact ⟨((false,tot+m),T3),⟨q3,rfl,(hI true).1,(hI true).2⟩,tot_L0_p1 (by omega) hx hd.ud q2 rfl rfl q4 (by show inR (tot+m);unfold inR;omega) (aI (by omega)) rfl rfl rfl rfl rfl⟩
    ·have hI:∀ q:Bool,-1-36000*((i+1:Nat):Int)≤tot-m∧tot-m≤360000+43200000*((i+1:Nat):Int):=fun _=>by omega
     cases out with
     | true=>exact ⟨((true,tot-m),T3),⟨q3,rfl,(hI true).1,(hI true).2⟩,bJv (by omega) hx hd.ud q2 rfl rfl q4 (by show inR (tot-m);unfold inR;omega) (aI (by omega)) rfl rfl rfl rfl⟩
     | false=>exact ⟨((false,tot-m),T3),⟨q3,rfl,(hI true).1,(hI true).2⟩,bJw (by omega) hx hd.ud q2 rfl rfl q4 (by show inR (tot-m);unfold inR;omega) (aI (by omega)) rfl rfl rfl rfl rfl⟩
    ·have hI:∀ q:Bool,-1-36000*((i+1:Nat):Int)≤tot+1200*m∧tot+1200*m≤360000+43200000*((i+1:Nat):Int):=fun _=>by omega
     cases out with
     | true=>exact ⟨((true,tot+1200*m),T3),⟨q3,rfl,(hI true).1,(hI true).2⟩,bJx (by omega) hx hd.ud q2 rfl rfl q4 ⟨by show inR (1200*m);unfold inR;omega,by show inR (tot+1200*m);unfold inR;omega⟩ (aI (by omega)) rfl rfl rfl rfl⟩
     | false=>exact ⟨((false,tot+1200*m),T3),⟨q3,rfl,(hI true).1,(hI true).2⟩,bJy (by omega) hx hd.ud q2 rfl rfl q4 ⟨by show inR (1200*m);unfold inR;omega,by show inR (tot+1200*m);unfold inR;omega⟩ (aI (by omega)) rfl rfl rfl rfl rfl⟩
    ·have hI:∀ q:Bool,-1-36000*((i+1:Nat):Int)≤tot∧tot≤360000+43200000*((i+1:Nat):Int):=fun _=>by omega
     cases out with
     | true=>exact ⟨((true,tot),T3),⟨q3,rfl,(hI true).1,(hI true).2⟩,bJz (by omega) hx hd.ud q2 rfl rfl q4 (aI (by omega)) rfl rfl rfl⟩
     | false=>exact ⟨((true,tot),T3),⟨q3,rfl,(hI true).1,(hI true).2⟩,bKa (by omega) hx hd.ud q2 rfl rfl q4 (aI (by omega)) rfl rfl rfl rfl⟩
    ·have hI:∀ q:Bool,-1-36000*((i+1:Nat):Int)≤tot+m∧tot+m≤360000+43200000*((i+1:Nat):Int):=fun _=>by omega
     cases out with
     | true=>exact ⟨((true,tot+m),T3),⟨q3,rfl,(hI true).1,(hI true).2⟩,bKb (by omega) hx hd.ud q2 rfl rfl q4 (by show inR (tot+m);unfold inR;omega) (aI (by omega)) rfl rfl rfl rfl⟩
     | false=>exact ⟨((false,tot+m),T3),⟨q3,rfl,(hI true).1,(hI true).2⟩,bKc (by omega) hx hd.ud q2 rfl rfl q4 (by show inR (tot+m);unfold inR;omega) (aI (by omega)) rfl rfl rfl rfl rfl⟩)
  (fun acc hI=>aYq (by omega)) (acc:=((s1 == -1,s1),T)) ⟨hT,by simp,by dsimp only;omega,by dsimp only;omega⟩
 obtain ⟨⟨out,tot⟩,T1⟩:=acc;dsimp only at h1 h2 h3
 rw [List.take_length] at h2
 have e:aNf dl oc dc s0 s1=(out,tot):=h2.symm;unfold cI;rw [e];cases out with
 | true=>exact ⟨T1,h1,tot_p0 h3 rfl⟩
 | false=>exact ⟨T1,h1,cHc h3 rfl (by simp) (by simp [aCj];omega)⟩
theorem aYn(hd:bZ dc){base:Nat}:FV Tp 46 [sX dl sk dc] base (.own base) [(base,.row 3 (cP dl dc).length ((cP dl dc).map aA))]:=by
 have hlen:=hd.len;have hov:=aNk;obtain ⟨acc,⟨h1,h2⟩,h3⟩:=aF.ex (P:=Tp) (k:=0) (b:=sub (cd Tryz.f46) ct) (e := .exit 0) (fun i (a:List Int × Lqb)=>kI dl sk dc a.1.length (a.1.map aA) i (aN a.2) a.2.length)
  (fun a=>kI dl sk dc a.1.length (a.1.map aA) dc.length (aN a.2) a.2.length)
  (fun i a=>cE dl [] dc a.2∧a.1=((dc.take i).filter (rO dl dc)).map dN) (by simp) dc.length
  (fun i acc hi hI=>by
   obtain ⟨o,T1⟩:=acc;obtain ⟨h1,h2⟩:=hI;dsimp only at h1 h2
   have hm:=fG hi;obtain ⟨a,k,c,d,e,f,hy⟩:=Bo (hd.ud _ hm);have hx:dc[i]? = some [a,k,c,d,e,f]:=by rw [Av hi,hy]
   rw [hy] at hm
   have ho:o.length≤1000:=by
    rw [h2,B9];have:=zR (rO dl dc) (dc.take i);rw [jV] at this;omega
   have et:((dc.take (i+1)).filter (rO dl dc)).map dN=o++if rO dl dc [a,k,c,d,e,f] then [a] else []:=by
    rw [List.take_add_one,hx,oJ,iV,← h2]
    congr 1
    show (List.filter (rO dl dc) [[a,k,c,d,e,f]]).map dN=_;cases hq:rO dl dc [a,k,c,d,e,f] <;> simp [hq]
   rw [et];obtain ⟨T2,z0,z1,z2,z3,z4,z5,q1,_,q2⟩:=bZg (sk:=sk) hd hov hm h1;obtain ⟨T3,q3,q4⟩:=bSt (sk:=sk) hd hov hm T2 q1;cases ha:jR k with
   | false =>
    have hb:rO dl dc [a,k,c,d,e,f]=false:=by unfold rO;rw [show jR (dK [a,k,c,d,e,f])=false from ha,Bool.false_and]
    rw [hb];exact ⟨(o,T2),⟨q1,by simp⟩,bKg (by omega) hx hd.ud q2 ha (aI (by omega)) rfl rfl rfl⟩
   | true =>
    have hb:rO dl dc [a,k,c,d,e,f]=(dX dl [] dc [a,k,c,d,e,f] && (wK dl [] dc [a,k,c,d,e,f]).isNone):=by unfold rO;rw [show jR (dK [a,k,c,d,e,f])=true from ha,iW]
    rw [hb];cases hc:dX dl [] dc [a,k,c,d,e,f] with
    | false =>
     rw [hc] at q4
     exact ⟨(o,T3),⟨q3,by simp⟩,bKf (by omega) hx hd.ud q2 ha q4 rfl (aI (by omega)) rfl rfl rfl⟩
    | true =>
     rw [hc] at q4
     cases hr:wK dl [] dc [a,k,c,d,e,f] with
     | some z =>
      rw [hr] at q2
      exact ⟨(o,T3),⟨q3,by simp⟩,bKe (by omega) hx hd.ud q2 ha q4 rfl rfl (aI (by omega)) rfl rfl rfl⟩
     | none =>
      rw [hr] at q2
      exact ⟨(o++[a],T3),⟨q3,by simp⟩,bKd (o:=o) (o':=o++[a]) (by omega) hx hd.ud q2 ha q4 rfl rfl ⟨rfl,by omega⟩ (aI (by omega)) (by simp) (by simp) rfl rfl rfl⟩)
  (fun acc hI=>bKh (by omega)) (acc:=([],[])) ⟨cE.nil,by simp⟩
 obtain ⟨o,T1⟩:=acc;dsimp only at h1 h2 h3
 rw [List.take_length] at h2
 rw [show cP dl dc=o from h2.symm]
 exact cHd h3
end
end
section
structure bRu (sk:Lqq) (m0 mx:Int) (i:Nat):Prop where
 us:uni 2 sk
 len:sk.length=i
 deck:m0≤mx∧mx≤m0+2*(i:Int)
 mem:∀ x∈sk,skB x=true∧x.getD 0 0≤3*(i:Int)-2
 tim:∀ x∈sk,x.getD 1 0≤16000
 up:sk.Pairwise fun a b=>a.getD 0 0<b.getD 0 0
theorem bRu.snoc{sk:Lqq}{m0 mx:Int}{i:Nat}(h:bRu sk m0 mx i)(hi:i<100){t Cm:Int}(ht : -1≤t∧t≤16000)(hm:mx≤Cm∧Cm≤mx+2):bRu (sk++[[3*(i:Int)+1,t]]) m0 Cm (i+1):=by
 obtain ⟨h1,h2,h3,h4,h6,h5⟩:=h;refine ⟨aRt h1 rfl,by simp [h2],by omega,fun x hx => ?_,fun x hx => ?_,?_⟩
 ·rcases fV.1 hx with hx | hx
  ·exact ⟨(h4 x hx).1,by have:=(h4 x hx).2;omega⟩
  ·rw [List.mem_singleton.1 hx]
   exact ⟨aNb.2 ⟨⟨show 1≤3*(i:Int)+1 by omega,show 3*(i:Int)+1≤999 by omega⟩,ht.1,show t≤360000 by omega⟩,show 3*(i:Int)+1≤_ by omega⟩
 ·rcases fV.1 hx with hx | hx
  ·exact h6 x hx
  ·rw [List.mem_singleton.1 hx]
   exact ht.2
 ·rw [List.pairwise_append]
  refine ⟨h5,List.pairwise_singleton _ _,fun x hx y hy => ?_⟩
  rw [List.mem_singleton.1 hy];have:=(h4 x hx).2;show x.getD 0 0<3*(i:Int)+1;omega
theorem cFa{nd:Int}{l:List Int}{r0 m1 t2:Int}(hr:0≤r0∧r0≤30)(hm:0≤m1∧m1≤1000):∃ sk mx tt,bRu sk m1 mx r0.toNat∧aF Tp 1 (sub (cd Tryz.f7) dd) (mB nd l r0 0 0 [] m1 t2) (.exit 0) (mB nd l r0 r0.toNat sk.length (sk.flatten.map aA) mx tt):=by
 obtain ⟨A,hI,hL⟩:=aF.ex (P:=Tp) (k:=1) (b:=sub (cd Tryz.f7) dd) (e := .exit 0) (fun i (A:Lqq × Int × Int)=>mB nd l r0 i A.1.length (A.1.flatten.map aA) A.2.1 A.2.2) (fun A=>mB nd l r0 r0.toNat A.1.length (A.1.flatten.map aA) A.2.1 A.2.2)
  (fun i A=>bRu A.1 m1 A.2.1 i) (by simp) r0.toNat
  (fun i A hi hA=>by
   obtain ⟨sk,mx,tt⟩:=A;have hd:=hA.deck;have hl:=hA.len;dsimp only at hd hl
   obtain ⟨r,m,t,e⟩:∃ r m t,bA 20 l mx tt=(r,m,t):=⟨_,_,_,rfl⟩;have b:=eL 20 l mx tt;rw [e] at b
   dsimp only at b
   obtain ⟨c,m',t',e'⟩:∃ r m2 t2,aG 12 l m t=(r,m2,t2):=⟨_,_,_,rfl⟩;have b':=nE 12 l m t;rw [e'] at b'
   dsimp only at b'
   have B8:mx≤m'∧m'≤mx+2:=by omega
   have hmx:0≤mx∧mx≤1000000000:=by omega
   have T6:0≤m∧m≤1000000000:=by omega
   have hsl:sk.length+1≤1000000:=by omega
   cases c with
   | true =>
    refine ⟨(sk++[[3*(i:Int)+1,-1]],m',t'),hA.snoc (by omega) (by omega) B8,?_⟩
    exact bIr (by omega) (by show _∧_;omega) (by show _∧_;omega) hmx e (by show _∧_;omega) (by show _∧_;omega) T6 e' rfl ⟨rfl,hsl⟩ (aI (by omega)) rfl (by simp) (by simp)
   | false =>
    refine ⟨(sk++[[3*(i:Int)+1,15000+50*r]],m',t'),hA.snoc (by omega) (by omega) B8,?_⟩
    exact bIs (by omega) (by show _∧_;omega) (by show _∧_;omega) hmx e (by show _∧_;omega) (by show _∧_;omega) T6 e' rfl ⟨rfl,hsl⟩ (aI (by omega)) rfl (by simp) (by simp))
  (fun A _=>bIt (by omega)) (acc:=([],m1,t2)) ⟨fun x h=>by simp at h,rfl,⟨aXg _,by show m1≤_;omega⟩,fun x h=>by simp at h,fun x h=>by simp at h,.nil⟩
 exact ⟨_,_,_,hI,hL⟩
theorem cFb{l:List Int}{sk:Lqq}{r7 m8 t9:Int}(hr:0≤r7∧r7≤100)(hu:uni 2 sk)(hs:1≤sk.length∧sk.length≤100)(hm:0≤m8∧m8≤1000):∃ dc nu mx tt,aXq sk dc nu mx r7.toNat∧aF Tp 1 (sub (cd Tryz.f7) cj) (gH l sk r7 0 0 [] 0 m8 t9) (.exit 2) (gH l sk r7 r7.toNat dc.length (dc.flatten.map aA) nu mx tt):=by
 obtain ⟨A,hI,hL⟩:=aF.ex (P:=Tp) (k:=1) (b:=sub (cd Tryz.f7) cj) (e := .exit 2) (fun j (A:Lqq × Int × Int × Int)=>gH l sk r7 j A.1.length (A.1.flatten.map aA) A.2.1 A.2.2.1 A.2.2.2) (fun A=>gH l sk r7 r7.toNat A.1.length (A.1.flatten.map aA) A.2.1 A.2.2.1 A.2.2.2)
  (fun j A=>aXq sk A.1 A.2.1 A.2.2.1 j) (by simp) r7.toNat
  (fun j A hj hA=>by
   obtain ⟨Em,Qv,Cm,Ed,h1,h2⟩:=bXr (l:=l) (tt:=A.2.2.2) hA (r7:=r7) (by omega) hr.2 hu hs
   exact ⟨(Em,Qv,Cm,Ed),h1,h2⟩)
  (fun A _=>bIy (by omega)) (acc:=([],0,m8,t9)) ⟨fun x h=>by simp at h,rfl,⟨aXg _,by show (0:Int)≤_;omega⟩,⟨hm.1,by show m8≤_;omega⟩,fun x h=>by simp at h,.nil⟩
 exact ⟨_,_,_,_,hI,hL⟩
theorem cFc{ns nd:Int}{l:List Int}{nx st:Int}(hns:1≤ns∧ns≤30)(hnd:0≤nd∧nd≤40)(hnx:0≤nx∧nx≤900):∃ sk dc mx tt,cK 30 sk dc∧(sk.length:Int)≤ns∧(dc.length:Int)≤nd∧(0≤mx∧mx≤4000)∧(sk.Pairwise fun a b=>a.getD 0 0<b.getD 0 0)∧(dc.Pairwise fun a b=>a.getD 0 0<b.getD 0 0)∧(∀ x∈dc,x.getD 0 0≤80)∧(∀ x∈sk,x.getD 0 0≤88∧x.getD 1 0≤16000) ∧
  FMM Tp 7 [.ptr 0 0,.p (aA ns),.p (aA nd)] [some (eV l nx st)] (.p (.agg (kF 30 sk dc))) [some (eV l mx tt)]:=by
 obtain ⟨r0,m1,t2,e0⟩:∃ r m t,lD 1 ns l nx st=(r,m,t):=⟨_,_,_,rfl⟩;have b0:=uG 1 ns l nx st;rw [e0] at b0
 dsimp only at b0
 obtain ⟨sk,mx,tt,hS,Qt⟩:=cFa (nd:=nd) (l:=l) (r0:=r0) (m1:=m1) (t2:=t2) (by omega) (by omega)
 have hsl:=hS.len;have hsd:=hS.deck;obtain ⟨r7,m8,t9,e7⟩:∃ r m t,bA (nd+1) l mx tt=(r,m,t):=⟨_,_,_,rfl⟩;have b7:=eL (nd+1) l mx tt;rw [e7] at b7
 dsimp only at b7
 obtain ⟨dc,nu,Cm,Ed,hM,R5⟩:=cFb (l:=l) (sk:=sk) (r7:=r7) (m8:=m8) (t9:=t9) (by omega) hS.us (by omega) (by omega)
 have hml:=hM.len;have hmd:=hM.deck;have hnod:∀ {f:Lqq},(f.Pairwise fun a b=>a.getD 0 0<b.getD 0 0)→(aZ f 0).Nodup:=fun {f} h=>by
  unfold aZ;rw [List.Nodup,List.pairwise_map];exact h.imp fun h=>by omega
 refine ⟨sk,dc,Cm,Ed,⟨hS.us,hM.ud,by omega,by omega,by omega,fun x hx=>(hS.mem x hx).1,fun x hx=>(hM.mem x hx).1.1,hnod hS.up,hnod hM.up,fun x hx=>(hM.mem x hx).1.2.1,fun x hx=>(hM.mem x hx).1.2.2⟩,by omega,by omega,by omega,hS.up,hM.up,fun x hx => ?_,fun x hx=>⟨?_,hS.tim x hx⟩,?_⟩
 ·have h1:=(hM.mem x hx).2
  have h2:=hM.num;omega
 ·have:=(hS.mem x hx).2
  omega
 exact cFf (by omega) (by omega) e0 Qt (by show _∧_;omega) (by omega) e7 R5
end
end KV
end Go.Proofs
section
namespace Go.Proofs
open Go.RowKit
namespace KV
open Tryz
variable {P:Program} {n:Nat}
def aKo{α:Type}(F:Fence)(n:Nat)(P:Program)(g:Nat)(lb:Array Value)(encs:α→Array Value)(R:α→World→World→Prop)(Kp:World→World→Prop)(S Sp:List α→Prop)(N:Nat)(w:World):Prop :=
 ∀ (l:Nat) (J Jx:List α→World→Prop) (W:World),Below w.heap.size w W→AbidesFrom W.heap.size J→AbidesFrom W.heap.size Jx →
  (∀ pre x W0 W1,J pre W0→W0.grownBy W1 none→R x W0 W1→pre.length<N→YieldAt F (n-1) P l (encs x) W1 fun e W' =>
   (e = .returned (.bool true)∧J (pre++[x]) W'∧Kp W0 W')∨(e = .returned (.bool false)∧Jx (pre++[x]) W')) →
  J [] W →
  CallsIn F n P g (#[.func (.yield l) #[] #[]]++lb) W fun e W'=>(∃ v,e = .returned v)∧((∃ xs,S xs∧J xs W')∨(∃ pre,Sp pre∧Jx pre W'))

def bUe{α:Type}(B:Nat)(Kp:World→World→Prop)(I:List α→World→Prop)(Ix:Code→List α→World→Prop)(xs:List α)(V W:World):Exit→Act→World→Prop
 | .normal,_,W'=>KeepsFrom B W W'∧Kp V W'∧I xs W'
 | .ret,_,W'=>KeepsFrom B W W'∧Ix .ret xs W'
 | .exit id,_,W'=>KeepsFrom B W W'∧Ix (.exit id) xs W'
 | .goto t,_,W'=>KeepsFrom B W W'∧Ix (.goto t) xs W'
 | .panic _,_,_=>False
 | .outgrown,_,_=>False

theorem uY{α:Type}{F:Fence}{g:Operand}{ps:Array Tmp}{assign body:Code}{Q:Exit→Act→World→Prop}{a:Act}{w:World}
  (hro:F.round=none) (h1:1≤n) {gf:Nat} {lb:Array Value} (hg:a.eval g = .func (.func gf) #[] lb) (hFg:F.fn gf) (eg:∀ args w,(callFunc gf args).run P w = .ok (.enter gf args) w)
  {encs:α→Array Value} {R:α→World→World→Prop} {Kp:World→World→Prop} {S Sp:List α→Prop} {N:Nat} {w0:World} (hseq:aKo F (n-1) P gf lb encs R Kp S Sp N w0)
  (hKt:∀ {A B C:World},Kp A B→Kp B C→Kp A C) (hKb:∀ (W:World) (l:Nat) (o o':Obj),w.heap.size≤l→W.heap[l]? = some o→o.isCells=false→o.isWalk=false→Kp W (W.putObj l o')) (P8:Below w0.heap.size w0 w) (hps:∀ x,(encs x).size=ps.size)
  (I:List α→World→Prop) (Ix:Code→List α→World→Prop) (hI:OwnFrom w.heap.size I) (hIx:∀ c,OwnFrom w.heap.size (Ix c)) (h0:I [] w) (Ax:List α→α→World→Act→World→Prop) (hAx:∀ pre x V a',OwnFrom w.heap.size (fun (_:Unit) W=>Ax pre x V a' W))
  (hassign:∀ (l:Nat) (pre:List α) (x:α) (V W:World) (K:Act→World→Prop),I pre V→V.grownBy W none→R x V W→(∀ a' W',KeepsFrom w.heap.size W W'→Ax pre x V a' W'→K a' W') →
   assign.wpIn (F.inRound l) (n-1-1) P (Exit.then K (fun _ _ _=>False)) { tmps:=(ps.zip (encs x)).foldl (fun t (p,v)=>t.setIfInBounds p v) a.tmps,defers:=[] } W)
  (hbody:∀ (l:Nat) (pre:List α) (x:α) (a':Act) (V W:World),w.heap.size≤l→(∃ r,W.heap[l]? = some (.loop r))→Ax pre x V a' W→pre.length<N→body.wpIn (F.inRound l) (n-1-1) P (bUe w.heap.size Kp I Ix (pre++[x]) V W) a' W)
  (hdone:∀ (D:Nat) (xs:List α) (W:World),w.heap.size≤D→S xs→I xs W→W.heap[D]? = some (.deferred (some []))→Q .normal { a with defers:={ target := .collected D,args := #[] }::a.defers } W)
  (hstop:∀ (D:Nat) (c:Code) (pre:List α) (W:World),w.heap.size≤D→Sp pre→Ix c pre W→W.heap[D]? = some (.deferred (some []))→c.wpIn F n P Q { a with defers:={ target := .collected D,args := #[] }::a.defers } W) :
  (Code.rangeFunc g ps assign body).wpIn F n P Q a w:=by
 refine wpIn_rangeFunc fun fn hfn => ?_
 rw [hro];obtain ⟨rc,hrc⟩:∃ rc:LoopState→Option Code→Loop,rc=fun st pe=>{ state:=st,pending:=pe,fn,tmps:=a.tmps,params:=ps,assign,body,defers:=w.heap.size }:=⟨_,rfl⟩
 obtain ⟨W1,I5⟩:∃ W1,(w.alloc (.deferred (some []))).alloc (.loop (rc .ready none))=W1:=⟨_,rfl⟩;have hsz:W1.heap.size=w.heap.size+2:=by rw [← I5];simp
 have R5:W1.heap[w.heap.size+1]? = some (.loop (rc .ready none)):=by
  have:=World.alloc_heap_new (w.alloc (.deferred (some []))) (.loop (rc .ready none));rw [World.size_alloc] at this
  rw [← I5];exact this
 have S7:W1.heap[w.heap.size]? = some (.deferred (some [])):=by
  rw [← I5];exact (Below.heap_alloc _ _ _ (by simp)).trans (World.alloc_heap_new w _)
 have W9:I [] W1:=by rw [← I5];exact hI.alloc _ (hI.alloc _ h0)
 have B5:Below w0.heap.size w0 W1:=by
  rw [← I5];exact P8.trans ((((Below.refl _ w).alloc (dG _) _).alloc (by simp) _).mono P8.size)
 let Bk (st:LoopState) (pe:Option Code) (W:World):Prop:=W.heap[w.heap.size+1]? = some (.loop (rc st pe))∧W.heap[w.heap.size]? = some (.deferred (some []))
 have bkKeep:∀ {st:LoopState} {pe:Option Code} {A B:World} {row:Option Nat},Bk st pe A→A.grownBy B row→(∀ r,row=some r→∃ o:Obj,A.heap[r]? = some o∧o.isWalk=true)→Bk st pe B:=fun hs H6 hr =>
  ⟨(grownBy_keeps H6 hr hs.1 rfl).trans hs.1,(grownBy_keeps H6 hr hs.2 rfl).trans hs.2⟩
 have walkOwn:∀ {A:World} {row:Option Nat},(∀ r,row=some r→W1.heap.size≤r∧∃ o:Obj,A.heap[r]? = some o∧o.isWalk=true)→∀ r,row=some r→w.heap.size≤r∧∃ o:Obj,A.heap[r]? = some o∧o.isCells=false:=fun hr r e=>by
  obtain ⟨hB,o,ho,hw⟩:=hr r e;exact ⟨by omega,o,ho,Obj.not_cells_of_walk hw⟩
 refine ⟨w.heap.size+1,[{ target := .collected w.heap.size,args := #[] }],W1,{ target := .fn (.func gf) lb,args := #[.func (.yield (w.heap.size+1)) #[] #[]] },W1,gf,
  #[.func (.yield (w.heap.size+1)) #[] #[]]++lb,W1,?_,?_,?_,?_,fun _=>h1,?_⟩
 ·rw [← I5,hrc];exact run_enterLoop_outer _ _ _ _ _
 ·simp only [resolve,hg]
  simp [go_sem]
 ·intro f' Q2;simp [Target.leads] at Q2;subst Q2;exact hFg
 ·simp [invoke,go_sem,eg]
 ·refine (hseq (w.heap.size+1) (fun pre W=>I pre W∧Bk .ready none W) (fun pre W=>∃ c,Ix c pre W∧Bk .done (some c) W) W1 B5
   (fun s A B row hs H6 hr=>⟨hI s A B row hs.1 H6 (walkOwn hr),bkKeep hs.2 H6 fun r e=>(hr r e).2⟩)
   (fun s A B row hs H6 hr=>by
    obtain ⟨c,hc,hb⟩:=hs;exact ⟨c,hIx c s A B row hc H6 (walkOwn hr),bkKeep hb H6 fun r e=>(hr r e).2⟩)
   ?_ ⟨W9,R5,S7⟩).mono ?_
  ·-- a round
   rintro pre x V W ⟨hi,hbk⟩ H6 hR hlen;have hbW:=bkKeep hbk H6 (fun r e=>by cases e)
   have hlt:w.heap.size+1<W.heap.size:=(qP.1 hbW.1).1;have hy:=run_yield (P:=P) (args:=encs x) hbW.1 (by rw [hrc];exact hps x)
   rw [hrc] at hy
   refine ⟨fn,_,assign,body,hy,roundIn_of_wpIn hfn (hassign _ pre x V W _ hi H6 hR ?_)⟩;clear hy;intro a' Wa hkf hax;have hl:=hkf.same _ _ (by omega) hbW.1 rfl
   have hk:=hkf.same _ _ (dG _) hbW.2 rfl;have hlta:w.heap.size+1<Wa.heap.size:=(qP.1 hl).1;refine ⟨_,run_beginRound hl (by rw [hrc]),?_⟩
   have hl2:(Wa.putObj (w.heap.size+1) (.loop { rc .ready none with state := .busy })).heap[w.heap.size+1]? = some (.loop { rc .ready none with state := .busy }):=World.putObj_heap_same hlta
   have Er:(Wa.putObj (w.heap.size+1) (.loop { rc .ready none with state := .busy })).heap[w.heap.size]? = some (.deferred (some [])):=(World.putObj_heap_other (by omega)).trans hk
   refine wpIn_mono (hbody _ pre x a' V _ (by omega) ⟨_,hl2⟩ ((hAx pre x V a').putObj (s:=()) _ hax (by omega) hl rfl) hlen) ?_
   have fin:∀ (jump:Option Code) (W3:World),KeepsFrom w.heap.size (Wa.putObj (w.heap.size+1) (.loop { rc .ready none with state := .busy })) W3 →
     (Instr.endRound (w.heap.size+1) jump).run P W3 = .ok (.bool jump.isNone) (W3.putObj (w.heap.size+1) (.loop (rc (if jump.isNone then .ready else .done) jump))) ∧
     W3.heap[w.heap.size+1]? = some (.loop { rc .ready none with state := .busy })∧Bk (if jump.isNone then .ready else .done) jump (W3.putObj (w.heap.size+1) (.loop (rc (if jump.isNone then .ready else .done) jump))):=fun jump W3 Jz=>by
    have B6:=Jz.same _ _ (by omega) hl2 rfl
    have hrun:=run_endRound (P:=P) jump B6;rw [hrc] at hrun
    refine ⟨by rw [hrc];exact hrun,B6,?_⟩
    exact ⟨World.putObj_heap_same (qP.1 B6).1,(World.putObj_heap_other (by omega)).trans (Jz.same _ _ (dG _) Er rfl)⟩
   rintro e a3 W3 hp;cases e with
   | normal =>
    obtain ⟨Jz,Tb,K8⟩:=hp;obtain ⟨hr,B6,J0⟩:=fin none W3 Jz;exact ⟨_,_,hr,.inl ⟨rfl,⟨hI.putObj _ K8 (by omega) B6 rfl,J0⟩,hKt Tb (hKb _ _ _ _ (by omega) B6 rfl rfl)⟩⟩
   | ret =>
    obtain ⟨Jz,K8⟩:=hp;obtain ⟨hr,B6,J0⟩:=fin (some .ret) W3 Jz;exact ⟨_,_,hr,.inr ⟨rfl,.ret,(hIx _).putObj _ K8 (by omega) B6 rfl,J0⟩⟩
   | exit id =>
    obtain ⟨Jz,K8⟩:=hp;obtain ⟨hr,B6,J0⟩:=fin (some (.exit id)) W3 Jz;exact ⟨_,_,hr,.inr ⟨rfl,.exit id,(hIx _).putObj _ K8 (by omega) B6 rfl,J0⟩⟩
   | goto t =>
    obtain ⟨Jz,K8⟩:=hp;obtain ⟨hr,B6,J0⟩:=fin (some (.goto t)) W3 Jz;exact ⟨_,_,hr,.inr ⟨rfl,.goto t,(hIx _).putObj _ K8 (by omega) B6 rfl,J0⟩⟩
   | panic ch=>exact hp.elim
   | outgrown=>exact hp.elim
  ·-- behind the iterator
   rintro e W2 ⟨⟨v,rfl⟩,(⟨xs,hS,hi,hb⟩ | ⟨pre,hSp,c,hi,hb⟩)⟩
   ·have:=run_endLoop (P:=P) hb.1 (by rw [hrc];simp)
    rw [hrc] at this
    exact ⟨none,_,this,hdone _ xs _ (dG _) hS (hI.putObj _ hi (by omega) hb.1 rfl) ((World.putObj_heap_other (by omega)).trans hb.2)⟩
   ·have:=run_endLoop (P:=P) hb.1 (by rw [hrc];simp)
    rw [hrc] at this
    exact ⟨some c,_,this,hstop _ c pre _ (dG _) hSp ((hIx c).putObj _ hi (by omega) hb.1 rfl) ((World.putObj_heap_other (by omega)).trans hb.2)⟩
end KV
end Go.Proofs
end
section
namespace Go.Proofs
open Go.RowKit
namespace KV
open Tryz
variable {P:Program} {C C0:Cx} {M M0:Mem} {w w0:World}
abbrev mM(l:List Int):AO := .row 3 l.length (l.map aA)
def bUb(P:Program)(x:List Int × Value)(W0 W1:World):Prop:=x.1.length≤1000∧∃ C1:Cx,aO P C1 [some (mM x.1)] W1∧Rep C1 [some (mM x.1)] W1 (.own 0) x.2∧∀ b,C1.ι 0=some b→W0.heap.size≤b

theorem pW{W0 W1:World}(hg:W0.grownBy W1 none)(b:Nat)(hb:b<W0.heap.size):W1.heap[b]? = W0.heap[b]? := hg.block b hb (fun e=>by cases e)
theorem bUc{M':Mem}{W0 W1:World}{x:List Int × Value}(hM:aO P C M' W0)(hg:W0.grownBy W1 none)(hR:bUb P x W0 W1) :
  ∃ C2,aO P C2 (M'++[some (mM x.1)]) W1∧Fr C M' W0 C2 (M'++[some (mM x.1)]) W1∧Rep C2 (M'++[some (mM x.1)]) W1 (.own M'.length) x.2:=by
 obtain ⟨_,C1,h1,h2,h3⟩:=hR
 let C2:Cx:={ ι:=fun i=>if i=M'.length then C1.ι 0 else C.ι i,κ:=fun i=>if i=M'.length then C1.κ 0 else C.κ i,F:=C.F }
 have old:∀ (i:Nat) (o:AO),M'[i]? = some (some o)→i<M'.length∧(M'++[some (mM x.1)])[i]? = some (some o)∧C2.ι i=C.ι i∧C2.κ i=C.κ i:=fun i o h=>by
  have hl:=(Bs.1 h).1;refine ⟨hl,by rw [zP hl];exact h,if_neg (by omega),if_neg (by omega)⟩
 have cls:∀ (i:Nat) (o:AO),(M'++[some (mM x.1)])[i]? = some (some o)→M'[i]? = some (some o)∨(i=M'.length∧o=mM x.1):=fun i o h=>by
  rcases Nat.lt_or_ge i M'.length with hl | hl
  ·rw [zP hl] at h;exact .inl h
  ·rw [zO hl] at h
   cases hd:i-M'.length with
   | zero =>
    rw [hd] at h
    simp at h
    exact .inr ⟨by omega,h.symm⟩
   | succ j=>rw [hd] at h;simp at h
 have new:C2.ι M'.length=C1.ι 0∧C2.κ M'.length=C1.κ 0:=⟨if_pos rfl,if_pos rfl⟩;have f:Fr C M' W0 C2 (M'++[some (mM x.1)]) W1:=by
  refine ⟨hg.os,hg.tape,hg.output,hg.size,fun b hb _=>pW hg b hb,fun i o h => ?_,fun i o h ty n cs hm => ?_,fun i o h o' h' hl => ?_,fun i o b h hl hb => ?_,fun b h=>h,fun b h => .inl h⟩
  ·obtain ⟨_,q1,q2,q3⟩:=old i o h
   exact ⟨⟨o,q1⟩,q2,q3⟩
  ·rw [(old i o h).2.1] at hm;cases hm;exact ⟨cs,h⟩
  ·rw [(old i o h).2.1] at h';cases h';exact hl
  ·rcases cls i o h with q | ⟨rfl,rfl⟩
   ·rw [(old i o q).2.2.1] at hb;exact .inr ⟨i,o,q,hl,hb⟩
   ·rw [new.1] at hb;exact .inl (h3 b hb)
 have hL:=hM.le f;have Wx:=h1.row 0 3 x.1.length (x.1.map aA) rfl;refine ⟨C2,⟨fun i ty n cs hm => ?_,fun i ty cs hm => ?_,fun i es cl hm => ?_,fun i i' o1 o2 b q1 l1 q2 l2 e1 e2 => ?_,fun i o b hm hl hb => ?_,fun b hb=>fU (hM.Fs b hb) hg.size,fun i o b hm hl hb => ?_⟩,f,?_⟩
 ·rcases cls i _ hm with q | ⟨rfl,q⟩
  ·obtain ⟨hlt,_,q2,q3⟩:=old i _ q
   rw [q2,q3]
   rcases hM.row _ _ _ _ q with h4 | ⟨b,arr,inf,p0,p1,p2,p3,p4,p5,p6,p7,p8⟩
   ·exact .inl h4
   ·exact .inr ⟨b,arr,inf,p0,by rw [pW hg b (hM.lt i _ b q rfl p0)];exact p1,p2,p3,p4,p5,p6,fun j hj=>(p7 j hj).mono hL.F hL.fz,p8⟩
  ·cases q
   rw [new.1,new.2]
   rcases Wx with h4 | ⟨b,arr,inf,p0,p1,p2,p3,p4,p5,p6,p7,p8⟩
   ·exact .inl h4
   ·refine .inr ⟨b,arr,inf,p0,p1,p2,p3,p4,p5,p6,fun j hj => ?_,p8⟩
    have:=p7 j hj;revert this;rw [mL];generalize arr.getD j undef=u;intro h;cases h;exact .v _
 ·rcases cls i _ hm with q | ⟨rfl,q⟩
  ·obtain ⟨b,arr,p0,p1,p2,p3,p4⟩:=hM.box _ _ _ q
   exact ⟨b,arr,by rw [(old i _ q).2.2.1];exact p0,by rw [pW hg b (hM.lt i _ b q rfl p0)];exact p1,p2,fun j hj=>(p3 j hj).mono hL,p4⟩
  ·cases q
 ·rcases cls i _ hm with q | ⟨rfl,q⟩
  ·obtain ⟨b,arr,p0,p1,p2,p3⟩:=hM.mp _ _ _ q
   refine ⟨b,arr,by rw [(old i _ q).2.2.1];exact p0,by rw [pW hg b (hM.lt i _ b q rfl p0)];exact p1,p2,fun j hj => ?_⟩
   obtain ⟨en,r1,r2,r3,r4⟩:=p3 j hj;exact ⟨en,r1,r2,r3,r4.mono hL.F hL.fz⟩
  ·cases q
 ·rcases cls i _ q1 with c1 | ⟨rfl,rfl⟩ <;> rcases cls i' _ q2 with c2 | ⟨rfl,rfl⟩
  ·rw [(old i _ c1).2.2.1] at e1
   rw [(old i' _ c2).2.2.1] at e2
   exact hM.inj _ _ _ _ _ c1 l1 c2 l2 e1 e2
  ·rw [(old i _ c1).2.2.1] at e1
   rw [new.1] at e2
   have:=hM.lt _ _ _ c1 l1 e1;have:=h3 b e2;omega
  ·rw [new.1] at e1
   rw [(old i' _ c2).2.2.1] at e2
   have:=hM.lt _ _ _ c2 l2 e2;have:=h3 b e1;omega
  ·rfl
 ·rcases cls i _ hm with c1 | ⟨rfl,rfl⟩
  ·rw [(old i _ c1).2.2.1] at hb
   exact hM.nF _ _ _ c1 hl hb
  ·rw [new.1] at hb
   intro hF;have:=hM.Fs b hF;have:=h3 b hb;omega
 ·rcases cls i _ hm with c1 | ⟨rfl,rfl⟩
  ·rw [(old i _ c1).2.2.1] at hb
   exact fU (hM.lt _ _ _ c1 hl hb) hg.size
  ·rw [new.1] at hb
   exact h1.lt 0 _ b rfl rfl hb
 ·cases h2 with
  | own _ _ q0 qa q =>
   refine .own _ _ q0 ⟨mM x.1,by rw [zO (dG _),bHr];rfl⟩ fun ty n cs hm => ?_
   rw [zO (dG _),bHr] at hm
   rw [new.1,new.2];exact q ty n cs hm

theorem rE:∀ {m m':Mem},nmM m=true→nmM m'=true→nmM (m++m')=true
 | [],_,_,h=>h
 | none::r,m',h,h'=>by
  have:nmM (r++m')=true:=rE (m:=r) h h';exact this
 | some x::r,m',h,h'=>by
  cases x with
  | row ty n cs =>
   simp only [nmM,Cc] at h
   show (kG cs && nmM (r++m'))=true;rw [h.1,rE h.2 h'];rfl
  | box ty l =>
   simp only [nmM,Cc] at h
   show (nmL l && nmM (r++m'))=true;rw [h.1,rE h.2 h'];rfl
  | mp=>exact rE (m:=r) h h'
  | pk=>exact rE (m:=r) h h'
  | dead=>exact rE (m:=r) h h'
theorem lH:∀ {m m':Mem},gU m=true→gU m'=true→gU (m++m')=true
 | [],_,_,h=>h
 | none::r,m',h,h'=>lH (m:=r) h h'
 | some x::r,m',h,h'=>by
  cases x with
  | mp=>simp [gU] at h
  | pk=>simp [gU] at h
  | row=>exact lH (m:=r) h h'
  | box=>exact lH (m:=r) h h'
  | dead=>exact lH (m:=r) h h'

theorem bUd{M':Mem}{W W':World}{C1:Cx}{row:Option Nat}(hn:aBm M')(hq:nmM M'=true)(hF:∀ b,C.F b→b<w.heap.size)(h1:aO P C1 M' W)(h2:Fr C M w C1 M' W)(hg:W.grownBy W' row)
  (hr:∀ r,row=some r→w.heap.size≤r∧∃ o:Obj,W.heap[r]? = some o∧o.isCells=false):∃ C',C'.ι=C1.ι∧C'.κ=C1.κ∧aO P C' M' W'∧Fr C M w C' M' W':=by
 let C':Cx:=⟨C1.ι,C1.κ,fun b=>C1.F b∧(b<w.heap.size∨mE W b),[]⟩
 have hM:aO P C' M' W:=by
  refine ⟨fun i ty n cs hm => ?_,fun i ty cs hm => ?_,fun i es cl hm=>absurd hm (hn.1 _ _ _),h1.inj,fun i o b ho hl hb hf=>h1.nF i o b ho hl hb hf.1,fun b hb=>h1.Fs b hb.1,h1.lt⟩
  ·rcases h1.row _ _ _ _ hm with h4 | ⟨b,arr,inf,q0,q1,q2,q3,q4,q5,q6,q7,q8⟩
   ·exact .inl h4
   ·exact .inr ⟨b,arr,inf,q0,q1,q2,q3,q4,q5,q6,fun j hj=>(q7 j hj).shrink (fun b hb hs=>⟨hb,.inr hs⟩) (rB ((aFg hq).1 _ _ _ _ hm) j hj),q8⟩
  ·obtain ⟨b,arr,q0,q1,q2,q3,q4⟩:=h1.box _ _ _ hm
   exact ⟨b,arr,q0,q1,q2,fun j hj=>(q3 j hj).shrink (fun b hb hs=>⟨hb,.inr hs⟩) (wH ((aFg hq).2 _ _ _ hm) j hj),q4⟩
 have f:Fr C M w C' M' W:=⟨h2.os,h2.tape,h2.out,h2.size,h2.keep,h2.ids,h2.row,h2.liv,h2.new,fun b hb=>⟨h2.F1 b hb,.inl (hF b hb)⟩,fun b hb=>h2.F2 b hb.1⟩
 have hS:∀ b,C'.F b→b<w.heap.size∨mE W b:=fun b hb=>hb.2
 have hsame:∀ b,b<W.heap.size→(b<w.heap.size∨mE W b)→W'.heap[b]? = W.heap[b]? := fun b hb hd=>hg.block b hb (fun e=>by
  obtain ⟨q1,o,q2,q3⟩:=hr b e.symm
  rcases hd with hd | hd
  ·omega
  ·exact jQ q2 q3 hd)
 have hFz:∀ b,C'.F b→W'.heap[b]? = W.heap[b]? := fun b hb=>hsame b (hM.Fs b hb) (hS b hb)
 have hL:Le C' C' M' M' W W':=⟨fun _ o h=>⟨o,h⟩,fun _ _ _ _ _ cs h=>⟨cs,h⟩,fun _ o h o' h' hl=>by rw [h] at h';cases h';exact ⟨hl,rfl,rfl⟩,fun _ h=>h,hFz⟩
 refine ⟨C',rfl,rfl,⟨fun i ty n cs hm => ?_,fun i ty cs hm => ?_,fun i es cl hm=>absurd hm (hn.1 _ _ _),hM.inj,hM.nF,fun b hb=>fU (hM.Fs b hb) hg.size,fun i o b ho hl hb=>fU (hM.lt i o b ho hl hb) hg.size⟩,
  ⟨hg.os.trans f.os,hg.tape.trans f.tape,hg.output.trans f.out,gL f.size hg.size,fun b hb hno=>(hsame b (fU hb f.size) (.inl hb)).trans (f.keep b hb hno),f.ids,f.row,f.liv,f.new,f.F1,f.F2⟩⟩
 ·rcases hM.row _ _ _ _ hm with h4 | ⟨b,arr,inf,q0,q1,q2,q3,q4,q5,q6,q7,q8⟩
  ·exact .inl h4
  ·exact .inr ⟨b,arr,inf,q0,(hsame b (qP.1 q1).1 (.inr (fJ q1))).trans q1,q2,q3,q4,q5,q6,fun j hj=>(q7 j hj).mono hL.F hL.fz,q8⟩
 ·obtain ⟨b,arr,q0,q1,q2,q3,q4⟩:=hM.box _ _ _ hm
  exact ⟨b,arr,q0,(hsame b (qP.1 q1).1 (.inr (fJ q1))).trans q1,q2,fun j hj=>(q3 j hj).mono hL,q4⟩
theorem aZv{C1 C':Cx}{M':Mem}{W W':World}{i:Nat}{u:Value}(h:Rep C1 M' W (.own i) u)(e1:C'.ι=C1.ι)(e2:C'.κ=C1.κ):Rep C' M' W' (.own i) u:=by
 cases h with
 | own _ _ q0 qa q=>exact .own _ _ q0 qa fun ty n cs hm=>by rw [e1,e2];exact q ty n cs hm

def cEb(P:Program)(g:AV)(gf N:Nat)(xs:Lqq):Prop:=∀ (C:Cx) (M:Mem) (w:World) (u:Value),Rep C M w g u→(∀ b,C.F b→b<w.heap.size) →
 ∃ lb,u = .func (.func gf) #[] lb∧aKo Fence.wide 2 P gf lb (fun x:List Int × Value => #[x.2]) (bUb P) (KpG C.F) (fun ys=>ys.map (·.1)=xs) (fun ys=>ys.map (·.1) <+: xs) N w

def rfO(st:St)(p1 d:Nat)(l:List Int):St:=⟨put (put st.t (some p1) (.own st.m.length)) (some d) (.own st.m.length),st.m++[some (mM l)]⟩

section
variable {k kb gi gf p1 d id ty:Nat} {pos:String} {body:Code} {g:AV} {N:Nat} {xs:Lqq}
theorem bMp(G8:St)(S:Lqq→St)(E ER:Lqq→List Int→St)(T:List AV)(MR:Mem)(p:Lqq→List Int→Bool){cc:Code}(hcc:cc = .rangeFunc (.tmp gi) #[p1] (.region id #[{ dst:=some d,op := .assign (.tmp p1),type:=ty,pos:=pos,after := #[],guard:=none }] false) body)
  (Wy:G8.t=T) (hT:∀ pre,(S pre).t=T) (hg:T[gi]? = some g) (hit:cEb P g gf N xs) (eg:∀ args w,(callFunc gf args).run P w = .ok (.enter gf args) w)
  (hmp:∀ pre,gU (S pre).m=true) (hq:∀ pre,nmM (S pre).m=true) (hmE:∀ pre l,gU (E pre l).m=true) (hmER:∀ pre l,gU (ER pre l).m=true) (hmR:gU MR=true) (hqR:nmM MR=true) (hlen:∀ pre,(S pre).m.length<kb) (hnrf:nrf body=true)
  (hp:∀ (x:AV),(put T (some p1) x)[p1]? = some x) {kk:Nat} {g0 g1 gR:Gh} (hkk:G8.m.length≤kk) (Wz:gU G8.m=true) (W5:gh kk g0 G8=some (S [])) (hgh:∀ pre l,gh kk g1 (E pre l)=some ⟨(E pre l).t,(S (pre++[l])).m⟩) (hgR:∀ pre l,p pre l=true→gh kk gR (ER pre l)=some ⟨(ER pre l).t,MR⟩)
  (hbody:∀ pre l,pre.length<N→l.length≤1000→(p pre l=false→aB P kb body (rfO (S pre) p1 d l) .normal (E pre l))∧(p pre l=true→aB P kb body (rfO (S pre) p1 d l) .ret (ER pre l))) :
  ((∀ pre l,pre++[l] <+: xs→p pre l=false)→aB P k cc G8 .normal (S xs)) ∧
  ((∃ pre l,pre++[l] <+: xs∧p pre l=true)→aB P k cc G8 .ret ⟨T,MR⟩):=by
 have P7:∀ pre,aBm (S pre).m:=fun pre=>fB (hmp pre)
 have Nf:aBm MR:=fB hmR;have main:∀ (Qf:Ex→St→Prop),((∀ pre l,pre++[l] <+: xs→p pre l=false)→Qf .normal (S xs))→((∃ pre l,pre++[l] <+: xs∧p pre l=true)→Qf .ret ⟨T,MR⟩) →
   ∀ (C0:Cx) (M0:Mem) (w0:World) (a:Act) (w:World),M0.length≤k→Sim P C0 M0 w0 G8 a w→∀ (ro:Option Nat),lY ro cc→∀ (n:Nat),cc.wpIn (Fen ro) n P (fun e' a' w'=>∃ e Am,Qf e Am∧e'=e.toExit∧Sim P C0 M0 w0 Am a' w') a w:=by
  intro Qf W6 W8 C0 M0 w0 a w hk hs ro hro n;subst hcc;have M5:ro=none:=hro.resolve_right (by simp [nrf])
  subst M5;refine aFh (n:=3) ?_;obtain ⟨C,hSl,hM,hF,hD⟩:=hs;have hini:bJr P C G8.m w (S []).m w:=by
   obtain ⟨C1,_,h1,h2,_⟩:=fD hkk W5 (show Sim P (C.with []) G8.m w G8 { a with defers:=[] } w from ⟨C,hSl,hM,(Fr.refl _ _ _).based [],.nil rfl (fB Wz).2⟩)
   exact ⟨C1,h1,h2.unbased⟩
  rw [Wy] at hSl
  obtain ⟨lb,hu,hseq⟩:=hit C G8.m w _ (hSl.at hg) hM.Fs
  have actOf:∀ x:List Int × Value,Act:=fun x=>({ tmps:=a.tmps.setIfInBounds p1 x.2,defers:=[] }:Act).put (some d) (({ tmps:=a.tmps.setIfInBounds p1 x.2,defers:=[] }:Act).eval (.tmp p1))
  refine uY (F:=Fen none) (n:=3) rfl (by omega) (gf:=gf) (lb:=lb) hu trivial eg hseq (fun h k=>h.trans k)
   (fun W l o o' hl h1 h2 h3=>⟨by simp,fun b hb=>(grownBy_putObj' W l o').block b (fU (hM.Fs b hb) (gL hl (Nat.le_of_lt (qP.1 h1).1))) (fun e=>by cases e;have:=hM.Fs _ hb;omega)⟩)
   (Below.refl _ _) (fun _=>rfl)
   (fun pre W=>bJr P C G8.m w (S (pre.map (·.1))).m W∧∀ q l,q++[l] <+: pre.map (·.1)→p q l=false)
   (fun c pre W=>c = .ret∧bJr P C G8.m w MR W∧∃ q l,q++[l]=pre.map (·.1)∧p q l=true)
   (fun pre X Y row hs hg hr=>⟨hs.1.own (P7 _) (hq _) hM.Fs hg hr,hs.2⟩) (fun c pre X Y row hs hg hr=>⟨hs.1,hs.2.1.own Nf hqR hM.Fs hg hr,hs.2.2⟩)
   ⟨hini,fun q l h=>by simp at h⟩
   (fun pre x V a' W=>a'=({ tmps:=a.tmps.setIfInBounds p1 x.2,defers:=[] }:Act).put (some d) (({ tmps:=a.tmps.setIfInBounds p1 x.2,defers:=[] }:Act).eval (.tmp p1)) ∧
    (∃ C2,aO P C2 ((S (pre.map (·.1))).m++[some (mM x.1)]) W∧Fr C G8.m w C2 ((S (pre.map (·.1))).m++[some (mM x.1)]) W∧Rep C2 ((S (pre.map (·.1))).m++[some (mM x.1)]) W (.own (S (pre.map (·.1))).m.length) x.2) ∧
    KpG C.F V W∧x.1.length≤1000∧∀ q l,q++[l] <+: pre.map (·.1)→p q l=false)
   (fun pre x V a' s X Y row hs hg hr=>by
    obtain ⟨e1,⟨C2,q1,q2,q3⟩,e3,e4,e5⟩:=hs;have hnr:nmM [some (mM x.1)]=true:=by
     show (kG (x.1.map aA) && nmM [])=true;rw [aFf aA (fun _=>rfl)];rfl
    obtain ⟨C',i1,i2,i3,i4⟩:=bUd (fB (lH (hmp _) (by rfl))) (rE (hq _) hnr) hM.Fs q1 q2 hg hr
    refine ⟨e1,⟨C',i3,i4,aZv q3 i1 i2⟩,⟨gL e3.size hg.size,fun b hb => ?_⟩,e4,e5⟩
    refine (hg.block b (fU (hM.Fs b hb) q2.size) (fun e => ?_)).trans (e3.same b hb)
    have:=(hr b e.symm).1;have:=hM.Fs b hb;omega)
   ?assign ?body ?done ?stop
  case assign =>
   intro l pre x V W K hI H6 hR hK;obtain ⟨⟨C',G4,Qo⟩,hpre⟩:=hI;obtain ⟨C2,j1,j2,j3⟩:=bUc G4 H6 hR;have hz:(#[p1].zip #[x.2]).foldl (fun t (y:Nat × Value)=>t.setIfInBounds y.1 y.2) a.tmps=a.tmps.setIfInBounds p1 x.2:=by simp
   rw [hz];refine wpIn_region_lit (wpListIn_plain rfl fun K' Si => ?_)
   unfold Oper.wpIn;refine ⟨fun f _=>trivial,?_⟩
   rw [Oper.semAt_plain _ _ _ (by intro c Fg;cases Fg)]
   simp only [execOp,Sem.run_pure];exact Si _ _ (wpListIn_nil (hK _ _ (KeepsFrom.refl _ _) ⟨rfl,⟨C2,j1,Qo.trans j2,j3⟩,⟨H6.size,fun b hb=>pW H6 b (fU (hM.Fs b hb) Qo.size)⟩,hR.1,hpre⟩))
  case body =>
   rintro l pre x a' V W hl _ ⟨rfl,⟨C2,I9,Hm,Ep⟩,Pd,hxl,hpre⟩ hlt;have hpl:(pre.map (·.1)).length<N:=by simpa using hlt
   have hSW:eF C2 ((S (pre.map (·.1))).m++[some (mM x.1)]) W T a.tmps:=hSl.le (hM.le Hm)
   have s1:eF C2 ((S (pre.map (·.1))).m++[some (mM x.1)]) W (put T (some p1) (.own (S (pre.map (·.1))).m.length)) (({ tmps:=a.tmps,defers:=[] }:Act).put (some p1) x.2).tmps :=
    eF.put (a:={ tmps:=a.tmps,defers:=[] }) hSW Ep
   have s2:eF C2 ((S (pre.map (·.1))).m++[some (mM x.1)]) W (put (put T (some p1) (.own (S (pre.map (·.1))).m.length)) (some d) (.own (S (pre.map (·.1))).m.length)) (({ tmps:=a.tmps.setIfInBounds p1 x.2,defers:=[] }:Act).put (some d) (({ tmps:=a.tmps.setIfInBounds p1 x.2,defers:=[] }:Act).eval (.tmp p1))).tmps :=
    eF.put s1 (s1.at (hp _))
   have hnr:gU ((S (pre.map (·.1))).m++[some (mM x.1)])=true:=lH (hmp _) (by rfl)
   have hsim:Sim P (C2.with []) ((S (pre.map (·.1))).m++[some (mM x.1)]) W (rfO (S (pre.map (·.1))) p1 d x.1) (({ tmps:=a.tmps.setIfInBounds p1 x.2,defers:=[] }:Act).put (some d) (({ tmps:=a.tmps.setIfInBounds p1 x.2,defers:=[] }:Act).eval (.tmp p1))) W:=by
    refine ⟨C2,?_,I9,(Fr.refl _ _ _).based [],.nil rfl (fB hnr).2⟩;unfold rfO;rw [hT];exact s2
   have hkl:((S (pre.map (·.1))).m++[some (mM x.1)]).length≤kb:=by
    rw [jT];exact hlen _
   have keepO:∀ {M2:Mem} {W2:World} {C3:Cx},Fr C2 ((S (pre.map (·.1))).m++[some (mM x.1)]) W C3 M2 W2→KeepsFrom w.heap.size W W2∧KpG C.F V W2:=fun f3 =>
    ⟨⟨f3.size,fun b o _ hb ho=>(f3.keep b (qP.1 hb).1 (aNe I9 (fB hnr) hb ho)).trans hb⟩,
     Pd.trans ⟨f3.size,fun b hb=>f3.keep b (fU (hM.Fs b hb) Hm.size) (fun id o ho hl he=>I9.nF id o b ho hl he (Hm.F1 b hb))⟩⟩
   have hmapp:(pre++[x]).map (·.1)=pre.map (·.1)++[x.1]:=by simp
   cases hpx:p (pre.map (·.1)) x.1 with
   | false =>
    refine wpIn_mono ((hbody _ x.1 hpl hxl).1 hpx (C2.with []) _ W _ W hkl hsim (some l) (.inr hnrf) 1) ?_
    rintro e a2 W2 ⟨rfl,C3,L4,Iz,Lb,_⟩;have Lb:=Lb.unbased;obtain ⟨k1,k2⟩:=keepO Lb;have Jy:Sim P (C.with []) G8.m w (E (pre.map (·.1)) x.1) { a2 with defers:=[] } W2 :=
     ⟨C3,L4,Iz,(Hm.trans Lb).based [],.nil rfl (fB (hmE _ _)).2⟩
    obtain ⟨C4,_,Pm,Ta,_⟩:=fD hkk (hgh _ _) Jy;refine ⟨k1,k2,⟨C4,?_,?_⟩,fun q l h => ?_⟩
    ·rw [hmapp];exact Pm
    ·rw [hmapp];exact Ta.unbased
    ·rw [hmapp] at h
     rcases List.prefix_concat_iff.1 h with h | h
     ·obtain ⟨e1,e2⟩:=List.append_inj' h rfl
      cases e2;rw [e1];exact hpx
     ·exact hpre q l h
   | true =>
    have hc:=(hbody _ x.1 hpl hxl).2 hpx;refine wpIn_mono (hc (C2.with []) _ W _ W hkl hsim (some l) (.inr hnrf) 1) ?_
    rintro e a2 W2 ⟨rfl,C3,L4,Iz,Lb,_⟩;have Lb:=Lb.unbased;obtain ⟨k1,k2⟩:=keepO Lb;have Jy:Sim P (C.with []) G8.m w (ER (pre.map (·.1)) x.1) { a2 with defers:=[] } W2 :=
     ⟨C3,L4,Iz,(Hm.trans Lb).based [],.nil rfl (fB (hmER _ _)).2⟩
    obtain ⟨C4,_,Pm,Ta,_⟩:=fD hkk (hgR _ _ hpx) Jy;exact ⟨k1,rfl,⟨C4,Pm,Ta.unbased⟩,_,_,hmapp.symm,hpx⟩
  case done =>
   intro D ys W Kb hSx hI hDm;obtain ⟨⟨C1,h1,h2⟩,hpre⟩:=hI;rw [hSx] at h1 h2 hpre
   refine ⟨.normal,S xs,W6 hpre,rfl,?_⟩;have hnm:aBm (S xs).m:=P7 xs;obtain ⟨C',G4,f,hSo⟩:=wI hnm (hq xs) hM.Fs h1 h2;refine ⟨C',by rw [hT];exact hSl.le (hM.le f),G4,hF.trans f,?_⟩
   obtain ⟨⟨l,e1,e2,e3⟩,hR⟩:=hD.fr hM (fun i to ti sz L h=>by have:=hnm.2 _ _ h;cases this) f
   obtain ⟨⟨l',M6,_,Pe⟩,_⟩:=hD;have hll:l=l':=by
    have:=e1.symm.trans M6;exact (List.map_inj_right (fun x y h=>by simpa [mark] using h)).1 this
   refine ⟨⟨D::l,by rw [e1];rfl,List.nodup_cons.2 ⟨fun hin => ?_,e2⟩,fun D' Pf => ?_⟩,hR⟩
   ·rw [hll] at hin
    have:=(qP.1 (Pe D hin).1).1;omega
   ·rcases gK.1 Pf with rfl | hin
    ·refine ⟨hDm,gL hF.size Kb,fun hf => ?_⟩
     rcases hSo _ hf with h | h
     ·omega
     ·exact jQ hDm rfl h
    ·exact e3 D' hin
  case stop =>
   rintro D c pre W Kb hSp ⟨rfl,⟨C1,h1,h2⟩,q,l0,hql,hpq⟩ hDm;refine wpIn_ret ?_;refine ⟨.ret,⟨T,MR⟩,W8 ⟨q,l0,by rw [hql];exact hSp,hpq⟩,rfl,?_⟩
   obtain ⟨C',G4,f,hSo⟩:=wI Nf hqR hM.Fs h1 h2;refine ⟨C',hSl.le (hM.le f),G4,hF.trans f,?_⟩;obtain ⟨⟨l,e1,e2,e3⟩,hR⟩:=hD.fr hM (fun i to ti sz L h=>by have:=Nf.2 _ _ h;cases this) f
   obtain ⟨⟨l',M6,_,Pe⟩,_⟩:=hD;have hll:l=l':=by
    have:=e1.symm.trans M6;exact (List.map_inj_right (fun x y h=>by simpa [mark] using h)).1 this
   refine ⟨⟨D::l,by rw [e1];rfl,List.nodup_cons.2 ⟨fun hin => ?_,e2⟩,fun D' Pf => ?_⟩,hR⟩
   ·rw [hll] at hin
    have:=(qP.1 (Pe D hin).1).1;omega
   ·rcases gK.1 Pf with rfl | hin
    ·refine ⟨hDm,gL hF.size Kb,fun hf => ?_⟩
     rcases hSo _ hf with h | h
     ·omega
     ·exact jQ hDm rfl h
    ·exact e3 D' hin
 refine ⟨fun hall => ?_,fun hex => ?_⟩
 ·intro C0 M0 w0 a w hk hs ro hro n
  refine wpIn_mono (main (fun e Am=>e = .normal∧Am=S xs) (fun _=>⟨rfl,rfl⟩) (fun ⟨q,l,h1,h2⟩=>by rw [hall q l h1] at h2;cases h2) C0 M0 w0 a w hk hs ro hro n) ?_
  rintro e' a' w' ⟨e,Am,⟨rfl,rfl⟩,h1,h2⟩;exact ⟨h1,h2⟩
 ·intro C0 M0 w0 a w hk hs ro hro n
  refine wpIn_mono (main (fun e Am=>e = .ret∧Am=⟨T,MR⟩) (fun hall=>by obtain ⟨q,l,h1,h2⟩:=hex;rw [hall q l h1] at h2;cases h2) (fun _=>⟨rfl,rfl⟩) C0 M0 w0 a w hk hs ro hro n) ?_
  rintro e' a' w' ⟨e,Am,⟨rfl,rfl⟩,h1,h2⟩;exact ⟨h1,h2⟩
end
end KV
end Go.Proofs
end
section
namespace Go.Proofs
open Go.RowKit
namespace KV
open Tryz
variable {P:Program} {T:TT} {E:Env} {C C0:Cx} {M M0:Mem} {w w0:World}
def cNj(P:Program)(ops:Array Oper)(o:Oper)(st Am:St):Prop:=∀ (C0:Cx) (M0:Mem) (w0:World) (a:Act) (w:World),Sim P C0 M0 w0 st a w→∀ (ro:Option Nat) (n:Nat) (K:Act→World→Prop) (Q:Exit→Act→World→Prop),
 (∀ a' w',(∃ v,a'=a.put o.dst v)→Sim P C0 M0 w0 Am a' w'→K a' w')→if Region.wanted o (yielded ops a.tmps) then o.wpIn (Fen ro) n P a w K Q else (∀ f,o.about P w a.eval=some f→(Fen ro).fn f)∧K (a.put o.dst undef) w
theorem bMo(hT:∀ t i,T t=some i→cB P t=some i)(hE:nA P E){ops:List Oper}{o:Oper}{id:Nat}{st Am:St}{s s':AS}(h:pZ P T E ops o id st s=some (Am,s'))(g:aY s'):cNj P ops.toArray o st Am:=by
 intro C0 M0 w0 a w hsim ro n K Q hK;obtain ⟨C,hS,hM,hF,hD⟩:=hsim;unfold pZ at h
 obtain ⟨go,s1,h1,k1⟩:=aD h;cases go with
 | true =>
  obtain ⟨vs,s2,h2,k2⟩:=aD k1;obtain ⟨e2,rfl⟩:=aH h2;obtain ⟨⟨x,L⟩,s3,h3,k3⟩:=aD k2;obtain ⟨rfl,rfl⟩:=aK k3;have gd:=pY.good h3 g;rw [nQ hS h1 gd,if_pos rfl];refine ⟨fun f _=>trivial,?_⟩
  rw [Oper.semAt_eq _ _ _ (aBc h3)]
  rcases uA h3 with ⟨q,_,_,h4⟩ | ⟨h4,hno⟩
  ·obtain ⟨_,hup⟩:=aBd hT hE hS hM hF hD (sF hS _ _ e2) h4 g
   revert hup;generalize (execOp a.eval o).run P w=r;intro hup;cases r with
   | halt x w'=>exact hup.elim
   | ok nx w' =>
    cases nx with
    | value u=>exact hK _ _ ⟨_,rfl⟩ hup
    | skip=>exact hK _ _ ⟨_,rfl⟩ (hup _)
    | enter f us =>
     obtain ⟨rfl,hc⟩:=hup;refine ⟨fun h=>by simp [Fen,Fence.wide] at h,(tZ (hc (n-1))).mono ?_⟩
     rintro e Kg ⟨u,rfl,hs⟩;exact hK _ _ ⟨_,rfl⟩ hs
    | _=>exact hup.elim
  ·obtain ⟨_,hup⟩:=aEb hT hE hM (sF hS _ _ e2) h4 g
   have hk:kZ st.m (upds st.m L):=sE hno;revert hup;generalize (execOp a.eval o).run P w=r;intro hup;cases r with
   | halt x w'=>exact hup.elim
   | ok nx w' =>
    cases nx with
    | value u =>
     obtain ⟨C',f,m,r⟩:=hup;exact hK _ _ ⟨_,rfl⟩ (nR hS hM hF hD f hk m r)
    | skip =>
     obtain ⟨rfl,C',f,m⟩:=hup;exact hK _ _ ⟨_,rfl⟩ (nR hS hM hF hD f hk m (.any _))
    | enter f us =>
     obtain ⟨rfl,hc⟩:=hup;refine ⟨fun h=>by simp [Fen,Fence.wide] at h,(tZ (hc (n-1))).mono ?_⟩
     rintro e Kg ⟨u,rfl,C',f,m,r⟩;exact hK _ _ ⟨_,rfl⟩ (nR hS hM hF hD f hk m r)
    | _=>exact hup.elim
 | false =>
  obtain ⟨rfl,rfl⟩:=aK k1;rw [nQ hS h1 g];simp only [Bool.false_eq_true,if_false];exact ⟨fun f _=>trivial,hK _ _ ⟨_,rfl⟩ (nR hS hM hF hD (Fr.refl ..) .refl hM (.tup [] #[] rfl (fun i h=>by simp at h)))⟩
theorem tE{a:Act}{d:Option Nat}{v:Value}{i:Nat}(h:d≠some i):(a.put d v).tmps.getD i undef=a.tmps.getD i undef:=by
 cases d with
 | none=>rfl
 | some j =>
  have hne:j≠i:=fun e=>h (by rw [e])
  show (a.tmps.setIfInBounds j v).getD i undef=_;simp [Bn,Array.getElem?_setIfInBounds_ne hne]
theorem aKn(hT:∀ t i,T t=some i→cB P t=some i)(hE:nA P E){ops:List Oper}:∀ (l:List Oper) (k:Nat) {st Am:St} {s s':AS},(∀ j,l[j]? = ops[k+j]?)→bHg P T E ops l st s=some (Am,s')→aY s' →
  ∀ (C0:Cx) (M0:Mem) (w0:World) (a:Act) (w:World),Sim P C0 M0 w0 st a w→∀ (ro:Option Nat) (n:Nat) (Q:Exit→Act→World→Prop),(∀ a' w',((∀ i,(∀ o∈l,o.dst≠some i)→a'.tmps.getD i undef=a.tmps.getD i undef)∧a'.defers=a.defers)→Sim P C0 M0 w0 Am a' w'→Q .normal a' w')→wpOpsIn (Fen ro) n P ops.toArray Q ((List.range l.length).map (k + ·)) a w
 | [],k,st,Am,s,s',_,h,g,C0,M0,w0,a,w,hs,ro,n,Q,hQ=>by
  obtain ⟨rfl,rfl⟩:=aK h;exact hQ _ _ ⟨fun _ _=>rfl,rfl⟩ hs
 | o::l,k,st,Am,s,s',hl,h,g,C0,M0,w0,a,w,hs,ro,n,Q,hQ=>by
  obtain ⟨st1,s1,h1,k1⟩:=aD h;have h0:ops[k]? = some o:=by simpa using (hl 0).symm
  have ih:=fun a1 w1=>aKn hT hE l (k+1) (fun j=>by have:=hl (j+1);simpa [Nat.add_assoc,Nat.add_comm 1 j] using this) k1 g C0 M0 w0 a1 w1
  have hst:=bMo hT hE h1 (uB.good k1 g) C0 M0 w0 a w hs ro n (wpOpsIn (Fen ro) n P ops.toArray Q ((List.range l.length).map (k+1 + ·))) Q (fun a1 w1 hv Fu=>ih a1 w1 Fu ro n Q fun a' w' hk B3=>hQ a' w' ⟨fun i hi=>by
   obtain ⟨v,rfl⟩:=hv;rw [hk.1 i fun o' Dd=>hi o' (Cj _ Dd),tE (hi o (iN ..))],by
   obtain ⟨v,rfl⟩:=hv;rw [hk.2];cases o.dst <;> rfl⟩ B3)
  rw [nM,List.range_succ_eq_map,iB,uT];have hm:(List.range l.length).map ((k + ·) ∘ Nat.succ)=(List.range l.length).map (k+1 + ·):=by
   apply xW;intro x _;simp only [Function.comp];omega
  rw [hm,Nat.add_zero,wpOpsIn_cons];unfold wpOpIn;simp only [List.getElem?_toArray,h0];exact hst
def wrR(c:Code)(i:Nat):Bool:=match c with
 | .region _ ops _=>ops.toList.any fun o=>match o.dst with
  | some j=>Nat.beq j i
  | none=>false
 | _=>true
def dJ(P:Program)(k:Nat)(c:Code)(st:St)(e:Ex)(Am:St):Prop:=∀ (C0:Cx) (M0:Mem) (w0:World) (a:Act) (w:World),M0.length≤k→Sim P C0 M0 w0 st a w→∀ (ro:Option Nat) (n:Nat),c.wpIn (Fen ro) n P (fun e' a' w'=>e'=e.toExit∧Sim P C0 M0 w0 Am a' w'∧(∀ i,wrR c i=false→a'.tmps.getD i undef=a.tmps.getD i undef)∧a'.defers=a.defers) a w
noncomputable def bUa(c:Code)(st:St):Ask (Ex × St):=match c with
 | .region _ ops false=>do
  let Am ← bHg Tp tT EO ops.toList ops.toList st
  pure (.normal,Am)
 | _=>fail
theorem dJ.fin{k:Nat}{c:Code}{st Am:St}{e:Ex}{g:Gh}{o:List OI}{l:List Prop}(h:aMt k g (bUa c st (asg o))=some (e,Am,l,[]))(gd:aY (out l)):dJ Tp k c st e Am:=by
 unfold aMt at h
 split at h
 ·rename_i e1 st1 s hr
  split at h
  ·rename_i st2 hg
   simp only [Option.some.injEq,Prod.mk.injEq] at h
   obtain ⟨rfl,rfl,rfl,hs⟩:=h;unfold bUa at hr
   split at hr
   ·rename_i id ops
    obtain ⟨Wj,s1,h1,k1⟩:=aD hr;obtain ⟨he,rfl⟩:=aK k1;cases he;intro C0 M0 w0 a w hk hsm ro n;refine wpIn_region ?_;have:=aKn aRn aRm ops.toList 0 (fun j=>by simp) h1 (fun p hp=>gd p hp) C0 M0 w0 a w hsm ro n (fun e' a' w'=>e'=Ex.normal.toExit∧Sim Tp C0 M0 w0 st2 a' w'∧(∀ i,wrR (.region id ops false) i=false→a'.tmps.getD i undef=a.tmps.getD i undef)∧a'.defers=a.defers) (fun a' w' hkp h'=>⟨rfl,fD hk hg h',fun i hi=>hkp.1 i fun o ho e=>by
     unfold wrR at hi
     have:=List.any_eq_false.1 hi o ho;rw [e] at this
     exact this (Nat.beq_refl i),hkp.2⟩)
    simpa using this
   ·cases hr
  ·cases h
 ·cases h
theorem dJ.fi{k:Nat}{c:Code}{st Am:St}{e:Ex}(g:Gh)(o:List OI){l:List Prop}(gd:aY (out l))(h:aMt k g (bUa c st (asg o))=some (e,Am,l,[]):=by kernel_rfl):dJ Tp k c st e Am:=dJ.fin h gd
end KV
end Go.Proofs
end
namespace Go.Proofs
namespace KV
open Tryz
section
variable {u0 u1 u2 u3 u4 u5 x0 x1 x2 x3 x4 x5 u0'0 u1'1 u2'2 u3'3 u4'4 u5'5:Int}{base:Nat}
variable {dl:Int}{sk dc:Lqq}

noncomputable abbrev aFy:Code:=sub (cd Tryz.f134) [1,0,0,0]
theorem bUi:((0:Int) != 0)=false:=by first | decide | simp
theorem cJi{bib y0 y1:Int}(h0:cK dl sk dc)(h1:uni 2 (aC sk)∧(aC sk).length≤1000)(h2:(aZ (aC sk) 0).length≤1000)(h3:(0:Int)≤(fN (fun x=>decide (bib=x)) (aZ (aC sk) 0)))(h4:(aC sk)[(fN (fun x=>decide (bib=x)) (aZ (aC sk) 0)).toNat]? = some [y0,y1])(h5:0≤(fN (fun x=>decide (bib=x)) (aZ (aC sk) 0)))(h6:uni 2 (aC sk)):FV Tp 129 [(.p (.agg (kF dl sk dc))),(pI bib)] base (.tup [(.rp (cC dl (aC sk) (aC dc)) 0),(.p (.agg [(aA y0),(aA y1)])),(pI 0)]) []:=have k1:=fk 2 (yF dl sk dc h0) rfl;have k2:=fk 2 (wF dl (aC sk) (aC dc) h1) rfl;FV.fi func129 [k1.o,bF,.x (.agg (kF dl (aC sk) (aC dc))),k2.o,.c (pI (fN (fun x=>decide (bib=x)) (aZ (aC sk) 0))) [],bF,.x (.sl ((aC sk).length) ((aC sk).flatten.map aA)),.x (.agg [(aA y0),(aA y1)])] (gfz h6 h5 h4 (gr (.sl ((aC sk).length) ((aC sk).flatten.map aA)) (gc (aQ h3) (gt (FC Tp 20 [(.own 2),(pI bib)] [(2,(.row 3 ((aZ (aC sk) 0).length) ((aZ (aC sk) 0).map aA)))] 3 (pI (fN (fun x=>decide (bib=x)) (aZ (aC sk) 0))) []) (fv (aXw (aZ (aC sk) 0) bib h2)) (gc k2 (gr (.agg (kF dl (aC sk) (aC dc))) (gt (0+3≤(cC dl (aC sk) (aC dc)).length) (by first | decide | simp) (gc bUi (gc k1 gn)))))))))
theorem cJj(h0:cK dl sk dc)(h1:bZ (aC dc)):FV Tp 13 [(.p (.agg (kF dl sk dc)))] base (.tup [(.p (aE (cP dl (aC dc)))),(pI 0)]) []:=have k1:=fk 1 (yF dl sk dc h0) rfl;have k2:=fk 1 (aYn (dl:=dl) (sk:=(aC sk)) (dc:=(aC dc)) h1) rfl;FV.frz (FMM.fi 0 ⟨[],[],[1],[]⟩ func13 [k1.o,bF,k2.o] (gc k2 (gc bUi (gc k1 gn)))) (by kernel_rfl)
def kN(dl:Int)(sk dc:Lqq)(u0 u1 u2 u3 u4 u5:Int):St:=⟨fr 26 [(0,(.rp (cC dl sk dc) 0)),(3,(.ptr 0 0))],[some (.box 84 [(pI u0),(pI u1),(pI u2),(pI u3),(pI u4),(pI u5)])]⟩
theorem cJk(hl0:aF Tp 0 aFy (kN dl sk dc x0 x1 x2 x3 x4 x5) (.exit 0) (kN dl sk dc u0'0 u1'1 u2'2 u3'3 u4'4 u5'5)):FV Tp 134 [(.rp (cC dl sk dc) 0),(.p (dcE x0 x1 x2 x3 x4 x5))] base (pI u3'3) []:=FV.fi func134 [hl0.k 4 (gI [1,2,4,20] [0])] (gc hl0.code gn)
theorem cJl(hl0:aF Tp 0 aFy (kN dl sk dc x0 x1 x2 x3 x4 x5) .ret (cD (kN dl sk dc u0'0 u1'1 u2'2 u3'3 u4'4 u5'5) [(4,(pI 0))])):FV Tp 134 [(.rp (cC dl sk dc) 0),(.p (dcE x0 x1 x2 x3 x4 x5))] base (pI 0) []:=FV.fi func134 [hl0.k 4 (gI [1,2,4,20] [0])] (gc hl0.code gn)
section
variable(h0:(decide (u1≤4))=false)(h1:cG .i64 (atF dc.reverse) (.int .i64 u5))
include h0 h1
theorem bMz{Aa Ab Af Ah Ag Ai:Int}(h2:(dU (atF dc.reverse) (.int .i64 u5))=true)(h3:gP (atF dc.reverse) (.int .i64 u5)=some (dcE Aa Ab Af Ah Ag Ai)):aB Tp 0 aFy (kN dl sk dc u0 u1 u2 u3 u4 u5) .normal (kN dl sk dc Aa Ab Af Ah Ag Ai):=have k1:=fk 1 (eE u1) rfl;aB.fi (gI [1,2,4,20] [0]) [k1.o,bT,.x (.mp (atF dc.reverse)),bT,.x (dcE Aa Ab Af Ah Ag Ai)] (gc h3 (gc h2 (gc h1 (gr (.mp (atF dc.reverse)) (gc (cA h0) (gc k1 gn))))))
theorem aKq(h2:(dU (atF dc.reverse) (.int .i64 u5))=false):aB Tp 0 aFy (kN dl sk dc u0 u1 u2 u3 u4 u5) .ret (cD (kN dl sk dc u0 u1 u2 u3 u4 u5) [(4,(pI 0))]):=have k1:=fk 1 (eE u1) rfl;aB.fi (gI [1,2,5,19] [0]) [k1.o,bT,.x (.mp (atF dc.reverse)),bF] (gc h2 (gc h1 (gr (.mp (atF dc.reverse)) (gc (cA h0) (gc k1 gn)))))
end
theorem aKr(h0:(decide (u1≤4))=true):aB Tp 0 aFy (kN dl sk dc u0 u1 u2 u3 u4 u5) (.exit 0) (kN dl sk dc u0 u1 u2 u3 u4 u5):=have k1:=fk 1 (eE u1) rfl;aB.fi (gI [1,2,4,20] [0]) [k1.o,bF] (gc (aL h0) (gc k1 gn))
end
section
def cMr(sk:Lqq)(bib:Int):Int:=fN (fun x=>decide (bib=x)) (aZ sk 0)
theorem cJe{dl:Int}{sk dc:Lqq}(h:cK dl sk dc):uni 2 (aC sk)∧(aC sk).length≤1000∧(aZ (aC sk) 0).length≤1000:=by
 have:=h.len;refine ⟨mU h.us,by rw [eI];omega,by rw [aNa,eI];omega⟩
theorem cJf{dl:Int}{sk dc:Lqq}(h:cK dl sk dc){bib:Int}{i:Nat}{s0 s1:Int}(hp:cMr (aC sk) bib=(i:Int))(hs:(aC sk)[i]? = some [s0,s1]){base:Nat}:FV Tp 129 [.p (.agg (kF dl sk dc)),.p (aA bib)] base (.tup [sX dl (aC sk) (aC dc),.p (.agg [aA s0,aA s1]),.p (aA 0)]) []:=by
 obtain ⟨h1,h2,h3⟩:=cJe h;have I2:fN (fun x=>decide (bib=x)) (aZ (aC sk) 0)=(i:Int):=hp
 exact cJi h ⟨h1,h2⟩ h3 (by rw [I2];omega) (by rw [I2];simpa using hs) (by rw [I2];omega) h1
theorem bUg{dl:Int}{sk dc:Lqq}(h:cK dl sk dc){base:Nat}:FV Tp 13 [.p (.agg (kF dl sk dc))] base (.tup [.p (aE (cP dl (aC dc))),.p (aA 0)]) []:=cJj h (kK h)
theorem bEw{q:Lqq}(hq:(q.map dN).Nodup):atF q=q.map fun x=>(.int .i64 (dN x),uV x):=by
 have key:∀ (q p:Lqq),((p++q).map dN).Nodup→q.foldl lF (p.map fun x=>(.int .i64 (dN x),uV x))=(p++q).map fun x=>(.int .i64 (dN x),uV x):=by
  intro q
  induction q with
  | nil=>intro p _;simp
  | cons x q ih =>
   intro p h;rw [qT];have hn:dU (p.map fun x=>((.int .i64 (dN x),uV x):Value × PV)) (.int .i64 (dN x))=false:=by
    unfold dU;rw [List.any_eq_false];intro e he;obtain ⟨y,hy,rfl⟩:=Bq.1 he;rw [iV,List.nodup_append] at h
    have:=h.2.2 (dN y) (Bq.2 ⟨y,hy,rfl⟩) (dN x) (by simp)
    simpa [iU] using this
   have hst:lF (p.map fun x=>((.int .i64 (dN x),uV x):Value × PV)) x=(p.map fun x=>((.int .i64 (dN x),uV x):Value × PV))++[(.int .i64 (dN x),uV x)]:=by
    unfold lF;rw [hn,if_neg (by simp)]
   rw [hst];have e:(p.map fun x=>((.int .i64 (dN x),uV x):Value × PV))++[(.int .i64 (dN x),uV x)]=(p++[x]).map fun x=>((.int .i64 (dN x),uV x):Value × PV):=by simp
   have e2:p++x::q=(p++[x])++q:=by simp
   rw [e,ih (p++[x]) (by rw [← e2];exact h),e2]
 exact key q [] (by simpa using hq)
theorem aSs{dc:Lqq}(h:bZ dc):(dc.reverse.map dN).Nodup:=by
 rw [List.map_reverse,List.Nodup,List.pairwise_reverse,List.pairwise_map];exact h.up.imp fun h=>by omega
theorem aCv{dc:Lqq}(h:bZ dc){n:Int}(hn:inR n):cG .i64 (atF dc.reverse) (.int .i64 n):=by
 have ha:aAb (atF dc.reverse):=bTf fun x hx=>by have:=eX h (aCg.1 hx);omega
 refine ⟨ha.ky,?_,ha.nd⟩;show (decide (IntKind.i64=IntKind.i64) && (Lit.int .i64 n).wf)=true;have:(Lit.int .i64 n).wf=true:=by
  have e1:IntKind.i64.min = -9223372036854775808:=rfl;have e2:IntKind.i64.max=9223372036854775807:=rfl;unfold inR at hn
  show (decide _ && decide _)=true;rw [Cc,decide_eq_true_eq,decide_eq_true_eq,e1,e2];omega
 rw [this];rfl
theorem bUh{dc:Lqq}(h:bZ dc){x:List Int}(hx:x∈dc):dU (atF dc.reverse) (.int .i64 (dN x))=true∧gP (atF dc.reverse) (.int .i64 (dN x))=some (uV x):=by
 rw [bEw (aSs h)];have hf:dc.reverse.find? (fun y=>decide (dN y=dN x))=some x:=by
  cases hf:dc.reverse.find? (fun y=>decide (dN y=dN x)) with
  | none =>
   have:=aHx.1 hf x (aCg.2 hx);simp at this
  | some y =>
   have h1:=xV hf;have h2:dN y=dN x:=by simpa using aXf hf
   rw [aCs h (aCg.1 h1) hx h2]
 constructor
 ·unfold dU
  rw [List.any_map];exact List.any_eq_true.2 ⟨x,aCg.2 hx,by simp [iU]⟩
 ·unfold gP
  rw [List.find?_map];have e:(fun e:Value × PV=>decide (iU e.1=iU (Value.int IntKind.i64 (dN x)))) ∘ (fun x:List Int=>((Value.int .i64 (dN x),uV x):Value × PV))=fun y=>decide (dN y=dN x):=rfl
  rw [e,hf];rfl
theorem bEx{dc:Lqq}(h:bZ dc){n:Int}(hn:∀ x∈dc,dN x≠n):dU (atF dc.reverse) (.int .i64 n)=false:=by
 rw [bEw (aSs h)];unfold dU;rw [List.any_map,List.any_eq_false];intro x hx;have:=hn x (aCg.1 hx);show ¬ (decide (dN x=n))=true;simpa using this
def ofN(dc:Lqq)(n:Int):Option (List Int):=dc.find? fun x=>dN x == n
theorem tF{dc:Lqq}{n:Int}{x:List Int}(h:ofN dc n=some x):x∈dc∧dN x=n:=⟨xV h,by simpa using aXf h⟩
theorem aSt{dc:Lqq}{n:Int}(h:ofN dc n=none):∀ x∈dc,dN x≠n:=fun x hx=>by simpa using aHx.1 h x hx
theorem aOh{dc:Lqq}(hd:bZ dc){x:List Int}(hx:x∈dc):ofN dc (dN x)=some x:=by
 cases h:ofN dc (dN x) with
 | none=>exact absurd rfl (aSt h x hx)
 | some y=>obtain ⟨h1,h2⟩:=tF h;rw [aCs hd h1 hx h2]
def lT(dc:Lqq):Nat→List Int→Int
 | 0,_=>0
 | k+1,x=>if dK x≤4 then dB x else match ofN dc (dAb x) with
  | some y=>lT dc k y
  | none=>0
def rR(dc:Lqq)(x:List Int):Int:=lT dc (10000+1) x
theorem cJg{dl:Int}{sk dc:Lqq}(hd:bZ dc):∀ (k:Nat) (a b c d e f:Int),inR f→([a,b,c,d,e,f]∈dc∨b≤4∨∀ y∈dc,dN y≠f)→a<(k:Int) →
  (∃ a' b' c' d' e' f',lT dc (k+1) [a,b,c,d,e,f]=d'∧aF Tp 0 (sub (cd Tryz.f134) [1,0,0,0]) (kN dl sk dc a b c d e f) (.exit 0) (kN dl sk dc a' b' c' d' e' f')) ∨
  (lT dc (k+1) [a,b,c,d,e,f]=0∧∃ a' b' c' d' e' f',aF Tp 0 (sub (cd Tryz.f134) [1,0,0,0]) (kN dl sk dc a b c d e f) .ret (cD (kN dl sk dc a' b' c' d' e' f') [(4,.p (aA 0))])):=by
 intro k
 induction k with
 | zero =>
  intro a b c d e f hf hm hk
  by_cases h4:b≤4
  ·refine .inl ⟨a,b,c,d,e,f,?_,.exit (aKr (decide_eq_true h4)) (by simp)⟩
   unfold lT;rw [if_pos (show dK [a,b,c,d,e,f]≤4 from h4)];rfl
  ·rcases hm with hm | hm | hm
   ·have:1≤a:=(eX hd hm).1
    omega
   ·exact absurd hm h4
   ·refine .inr ⟨?_,a,b,c,d,e,f,.exit (aKq (decide_eq_false h4) (aCv hd hf) (bEx hd hm)) (by simp)⟩
    unfold lT;rw [if_neg (show ¬ dK [a,b,c,d,e,f]≤4 from h4)]
    have:ofN dc (dAb [a,b,c,d,e,f])=none:=by
     cases h:ofN dc (dAb [a,b,c,d,e,f]) with
     | none=>rfl
     | some y=>exact absurd (tF h).2 (hm y (tF h).1)
    rw [this]
 | succ k ih =>
  intro a b c d e f hf hm hk
  by_cases h4:b≤4
  ·refine .inl ⟨a,b,c,d,e,f,?_,.exit (aKr (decide_eq_true h4)) (by simp)⟩
   unfold lT;rw [if_pos (show dK [a,b,c,d,e,f]≤4 from h4)];rfl
  ·have hu:lT dc (k+1+1) [a,b,c,d,e,f]=match ofN dc (dAb [a,b,c,d,e,f]) with | some y=>lT dc (k+1) y | none=>0:=by
    conv=>lhs;unfold lT
    rw [if_neg (show ¬ dK [a,b,c,d,e,f]≤4 from h4)]
   rw [hu];cases h:ofN dc (dAb [a,b,c,d,e,f]) with
   | none=>exact .inr ⟨rfl,a,b,c,d,e,f,.exit (aKq (decide_eq_false h4) (aCv hd hf) (bEx hd (aSt h))) (by simp)⟩
   | some y =>
    obtain ⟨h1,h2⟩:=tF h
    rcases hm with hm | hm | hm
    ·obtain ⟨h3,h5⟩:=bUh hd h1
     rw [h2] at h3 h5
     have ho:=hd.ord _ hm;unfold orB at ho
     rw [if_neg (show ¬ [a,b,c,d,e,f].getD 1 0≤4 from h4)] at ho
     have J2:=within_iff.1 ho;have ho3:f≤a-1:=J2.2;obtain ⟨y0,y1,y2,y3,y4,y5,rfl⟩:=Bo (hd.ud y h1);have F6:y0=f:=h2;have Uo:=pR hd _ h1;have hst:=bMz (dl:=dl) (sk:=sk) (dc:=dc) (u0:=a) (u1:=b) (u2:=c) (u3:=d) (u4:=e) (u5:=f) (decide_eq_false h4) (aCv hd hf) h3 h5
     rcases ih y0 y1 y2 y3 y4 y5 (by have q1:0≤y5:=Uo.1;have q2:y5≤9998:=Uo.2;unfold inR;omega) (.inl h1) (by omega) with ⟨a',b',c',d',e',f',q1,q2⟩ | ⟨q1,a',b',c',d',e',f',q2⟩
     ·exact .inl ⟨a',b',c',d',e',f',q1,.step hst q2⟩
     ·exact .inr ⟨q1,a',b',c',d',e',f',.step hst q2⟩
    ·exact absurd hm h4
    ·exact absurd h2 (hm y h1)
theorem cJh{dl:Int}{sk dc:Lqq}(hd:bZ dc){a b c d e f:Int}(hf:inR f)(hm:[a,b,c,d,e,f]∈dc∨b≤4∨∀ y∈dc,dN y≠f)(ha:a≤9999){base:Nat}:FV Tp 134 [sX dl sk dc,.p (.agg [aA a,aA b,aA c,aA d,aA e,aA f])] base (.p (aA (rR dc [a,b,c,d,e,f]))) []:=by
 unfold rR
 rcases cJg (dl:=dl) (sk:=sk) hd 10000 a b c d e f hf hm (by omega) with ⟨a',b',c',d',e',f',q1,q2⟩ | ⟨q1,a',b',c',d',e',f',q2⟩
 ·rw [q1];exact cJk q2
 ·rw [q1];exact cJl q2
end
section
section
variable {α:Type}

def mv(A:List α)(x:α)(j:Nat)(R:List α):List α:=A.take j++x::(A.drop j++R)

theorem mv_length(A:List α)(x:α)(j:Nat)(R:List α)(hj:j≤A.length):(mv A x j R).length=A.length+1+R.length:=by
 unfold mv;simp;omega

theorem mv_get(A:List α)(x:α)(j:Nat)(R:List α)(hj:j≤A.length)(t:Nat) :
  (mv A x j R)[t]? = if t<j then A[t]? else if t=j then some x else if t≤A.length then A[t-1]? else R[t-A.length-1]? := by
 unfold mv
 by_cases h1:t<j
 ·rw [if_pos h1,zP (by simp;omega),List.getElem?_take_of_lt h1]
 ·rw [if_neg h1,zO (by simp;omega)]
  have hl:(A.take j).length=j:=by simp;omega
  rw [hl]
  by_cases h2:t=j
  ·rw [if_pos h2,show t-j=0 by omega];rfl
  ·rw [if_neg h2,show t-j=(t-j-1)+1 by omega,List.getElem?_cons_succ]
   by_cases h3:t≤A.length
   ·rw [if_pos h3,zP (by simp;omega),List.getElem?_drop]
    congr 1;omega
   ·rw [if_neg h3,zO (by simp;omega)]
    congr 1
    simp;omega

theorem mv_swap(A:List α)(x:α)(j:Nat)(R:List α)(hj:j≤A.length)(h0:0<j)(y:α)(hy:A[j-1]? = some y) :
  ((mv A x j R).set j y).set (j-1) x=mv A x (j-1) R:=by
 have hl:=mv_length A x j R hj;apply List.ext_getElem?;intro t;rw [List.getElem?_set,List.getElem?_set,mv_get A x (j-1) R (by omega),mv_get A x j R hj]
 simp only [zS,hl]
 by_cases h1:j-1=t
 ·subst h1
  rw [if_pos rfl,if_pos (by omega),if_neg (by omega),if_pos rfl]
 ·rw [if_neg h1]
  by_cases h2:j=t
  ·subst h2
   rw [if_pos rfl,if_pos (by omega),if_neg (by omega),if_neg (by omega),if_pos (by omega),hy]
  ·rw [if_neg h2]
   by_cases h3:t<j
   ·rw [if_pos h3,if_pos (by omega)]
   ·rw [if_neg h3,if_neg (by omega:¬ t=j),if_neg (by omega:¬ t<j-1),if_neg (by omega:¬ t=j-1)]

def insPos(lt:α→α→Bool)(x:α)(A:List α):Nat:=(A.reverse.dropWhile (lt x)).length
def ins(lt:α→α→Bool)(A:List α)(x:α):List α:=A.take (insPos lt x A)++x::A.drop (insPos lt x A)
def isort(lt:α→α→Bool)(l:List α):List α:=l.foldl (ins lt) []

theorem dropWhile_all_append{p:α→Bool}:∀ (l r:List α),(∀ x∈l,p x=true)→(l++r).dropWhile p=r.dropWhile p
 | [],_,_=>rfl
 | x::l,r,h=>by
  rw [List.cons_append,List.dropWhile_cons,if_pos (h x (by simp))]
  exact dropWhile_all_append l r (fun y hy=>h y (by simp [hy]))

theorem insPos_eq(lt:α→α→Bool)(x:α)(A:List α)(j:Nat)(hj:j≤A.length)(h:∀ t (_:t<A.length),j≤t→lt x A[t]=true)
  (h2:j=0∨∃ y,A[j-1]? = some y∧lt x y=false):insPos lt x A=j:=by
 unfold insPos;have e:A.reverse=(A.drop j).reverse++(A.take j).reverse:=by rw [← List.reverse_append,bHp]
 rw [e,dropWhile_all_append]
 ·rcases h2 with h0 | ⟨y,hy,hlt⟩
  ·subst h0;simp
  ·by_cases h0:j=0
   ·subst h0;simp
   ·have e2:A.take j=A.take (j-1)++[y]:=by
     rw [show j=(j-1)+1 by omega,List.take_add_one,Nat.add_sub_cancel,hy];rfl
    have hl:(A.take (j-1)).length=j-1:=by simp;omega
    rw [e2,List.reverse_append];show ((y::(A.take (j-1)).reverse).dropWhile (lt x)).length=j;rw [List.dropWhile_cons,hlt];simp;omega
 ·intro z hz
  rw [aCg] at hz
  obtain ⟨t,ht,rfl⟩:=List.getElem_of_mem hz;rw [List.getElem_drop];exact h (j+t) (by simp at ht;omega) (by omega)

theorem ins_length(lt:α→α→Bool)(A:List α)(x:α):(ins lt A x).length=A.length+1:=by
 unfold ins;simp;have:insPos lt x A≤A.length:=by
  unfold insPos;have h2:((A.reverse).dropWhile (lt x)).length≤A.reverse.length:=(List.dropWhile_sublist _).length_le;simpa using h2
 omega

theorem mv_end(A:List α)(x:α)(R:List α):mv A x A.length R=A++x::R:=by unfold mv;simp
theorem mv_ins(lt:α→α→Bool)(A:List α)(x:α)(R:List α):mv A x (insPos lt x A) R=ins lt A x++R:=by unfold mv ins;simp

theorem isort_length(lt:α→α→Bool)(l:List α):(isort lt l).length=l.length:=by
 unfold isort;have:∀ (l A:List α),(l.foldl (ins lt) A).length=A.length+l.length:=by
  intro l
  induction l with
  | nil=>intro A;simp
  | cons x r ih=>intro A;rw [qT,ih,ins_length];simp;omega
 rw [this];simp

theorem isort_snoc(lt:α→α→Bool)(l:List α)(k:Nat)(h:k<l.length):isort lt (l.take (k+1))=ins lt (isort lt (l.take k)) l[k]:=by
 unfold isort;rw [List.take_succ_eq_append_getElem h,xX];rfl
end
theorem E6{x:List Int}(h:x.length=3):∃ a b c,x=[a,b,c]:=by
 match x,h with
 | [a,b,c],_=>exact ⟨a,b,c,rfl⟩
theorem isort_mem{α:Type}(lt:α→α→Bool)(l:List α)(y:α):y∈isort lt l↔y∈l:=by
 unfold isort;have : ∀ (l A:List α),y∈l.foldl (ins lt) A↔y∈A∨y∈l:=by
  intro l
  induction l with
  | nil=>intro A;simp
  | cons x r ih =>
   intro A;rw [qT,ih];have:y∈ins lt A x↔y∈A∨y=x:=by
    unfold ins;rw [fV,gK];constructor
    ·rintro (h | h | h)
     ·exact Or.inl (List.mem_of_mem_take h)
     ·exact Or.inr h
     ·exact Or.inl (List.mem_of_mem_drop h)
    ·rintro (h | h)
     ·rw [← bHp (insPos lt x A) A,fV] at h
      rcases h with h | h
      ·exact Or.inl h
      ·exact Or.inr (Or.inr h)
     ·exact Or.inr (Or.inl h)
   rw [this,gK];constructor
   ·rintro ((h | h) | h) <;> simp [h]
   ·rintro (h | h | h) <;> simp [h]
 rw [this];simp

section
variable {α:Type}
theorem aAg(lt:α→α→Bool)(A:List α)(x:α):∃ B D:List α,A=B++D∧ins lt A x=B++x::D∧(∀ d∈D,lt x d=true)∧(B=[]∨∃ B' h,B=B'++[h]∧lt x h=false):=by
 have hA:A=(A.reverse.dropWhile (lt x)).reverse++(A.reverse.takeWhile (lt x)).reverse:=by
  rw [← List.reverse_append,List.takeWhile_append_dropWhile,List.reverse_reverse]
 generalize hdw:A.reverse.dropWhile (lt x)=dw at hA
 generalize htw:A.reverse.takeWhile (lt x)=tw at hA
 have hp:insPos lt x A=dw.reverse.length:=by unfold insPos;rw [hdw,List.length_reverse]
 refine ⟨dw.reverse,tw.reverse,hA,?_,fun d hd => ?_,?_⟩
 ·unfold ins
  rw [hp]
  conv=>lhs;rw [hA]
  rw [List.take_left',List.drop_left'] <;> rfl
 ·rw [aCg,← htw] at hd
  exact gC.1 List.all_takeWhile d hd
 ·cases dw with
  | nil=>exact .inl rfl
  | cons h r =>
   refine .inr ⟨r.reverse,h,by simp,?_⟩
   have:=List.head_dropWhile_not (lt x) (l:=A.reverse) (by rw [hdw];simp)
   simp only [hdw,List.head_cons] at this
   simpa using this
theorem aSv(lt:α→α→Bool)(A:List α)(x:α):(ins lt A x).Perm (x::A):=by
 obtain ⟨B,D,h1,h2,_⟩:=aAg lt A x;rw [h2,h1];exact List.perm_middle
theorem rG(lt:α→α→Bool)(l:List α):(isort lt l).Perm l:=by
 unfold isort;have:∀ (l A:List α),(l.foldl (ins lt) A).Perm (A++l):=by
  intro l
  induction l with
  | nil=>intro A;simp
  | cons x r ih =>
   intro A;rw [qT];refine (ih _).trans (((aSv lt A x).append_right r).trans ?_);exact List.perm_middle.symm
 simpa using this l []
theorem bAf{f:α→Int}{lt:α→α→Bool}(hlt:∀ x y,lt x y=decide (f x<f y)){A:List α}(x:α)(hs:A.Pairwise (fun a b=>f a≤f b)):(ins lt A x).Pairwise (fun a b=>f a≤f b):=by
 obtain ⟨B,D,rfl,h2,h3,h4⟩:=aAg lt A x;rw [h2];obtain ⟨s1,s2,s3⟩:=List.pairwise_append.1 hs;have hB:∀ b∈B,f b≤f x:=fun b hb=>by
  rcases h4 with rfl | ⟨B',h,rfl,hx⟩
  ·simp at hb
  ·rw [hlt,decide_eq_false_iff_not] at hx
   rcases fV.1 hb with hb | hb
   ·have:=(List.pairwise_append.1 s1).2.2 b hb h (by simp)
    omega
   ·simp at hb;subst hb;omega
 have hD:∀ d∈D,f x≤f d:=fun d hd=>by
  have:=h3 d hd;rw [hlt,decide_eq_true_eq] at this
  omega
 refine List.pairwise_append.2 ⟨s1,bXj.2 ⟨hD,s2⟩,fun a ha b hb => ?_⟩
 rcases gK.1 hb with rfl | hb
 ·exact hB a ha
 ·exact s3 a ha b hb
theorem mO{f:α→Int}{lt:α→α→Bool}(hlt:∀ x y,lt x y=decide (f x<f y))(l:List α):(isort lt l).Pairwise (fun a b=>f a≤f b):=by
 unfold isort;have:∀ (l A:List α),A.Pairwise (fun a b=>f a≤f b)→(l.foldl (ins lt) A).Pairwise (fun a b=>f a≤f b):=by
  intro l
  induction l with
  | nil=>intro A h;exact h
  | cons x r ih=>intro A h;rw [qT];exact ih _ (bAf hlt x h)
 exact this l [] .nil
end
section
variable {α:Type}
theorem bAg{f g:α→Int}{lt:α→α→Bool}(hlt:∀ x y,lt x y=decide (f x<f y)){A:List α}(x:α)(hs:A.Pairwise (fun a b=>f a<f b∨f a=f b∧g a<g b))(hg:∀ a∈A,g a<g x):(ins lt A x).Pairwise (fun a b=>f a<f b∨f a=f b∧g a<g b):=by
 obtain ⟨B,D,rfl,h2,h3,h4⟩:=aAg lt A x;rw [h2];obtain ⟨s1,s2,s3⟩:=List.pairwise_append.1 hs;have hB:∀ b∈B,f b≤f x:=fun b hb=>by
  rcases h4 with rfl | ⟨B',h,rfl,hx⟩
  ·simp at hb
  ·rw [hlt,decide_eq_false_iff_not] at hx
   rcases fV.1 hb with hb | hb
   ·have:=(List.pairwise_append.1 s1).2.2 b hb h (by simp)
    omega
   ·simp at hb;subst hb;omega
 have hD:∀ d∈D,f x<f d:=fun d hd=>by
  have:=h3 d hd
  rwa [hlt,decide_eq_true_eq] at this
 refine List.pairwise_append.2 ⟨s1,bXj.2 ⟨fun d hd => .inl (hD d hd),s2⟩,fun a ha b hb => ?_⟩
 rcases gK.1 hb with rfl | hb
 ·have h5:=hB a ha
  have h6:=hg a (mK _ ha)
  by_cases e:f a=f b
  ·exact .inr ⟨e,h6⟩
  ·exact .inl (by omega)
 ·exact s3 a ha b hb
theorem yM{f g:α→Int}{lt:α→α→Bool}(hlt:∀ x y,lt x y=decide (f x<f y))(l:List α)(hl:l.Pairwise (fun a b=>g a<g b)):(isort lt l).Pairwise (fun a b=>f a<f b∨f a=f b∧g a<g b):=by
 unfold isort;have:∀ (l A:List α),l.Pairwise (fun a b=>g a<g b)→(∀ a∈A,∀ x∈l,g a<g x)→A.Pairwise (fun a b=>f a<f b∨f a=f b∧g a<g b)→(l.foldl (ins lt) A).Pairwise (fun a b=>f a<f b∨f a=f b∧g a<g b):=by
  intro l
  induction l with
  | nil=>intro A _ _ h;exact h
  | cons x r ih =>
   intro A hl hA h;obtain ⟨h1,h2⟩:=bXj.1 hl;rw [qT];refine ih _ h2 (fun a ha y hy => ?_) (bAg hlt x h (fun a ha=>hA a ha x (iN ..)))
   rcases gK.1 ((aSv lt A x).mem_iff.1 ha) with rfl | ha
   ·exact h1 y hy
   ·exact hA a ha y (Cj _ hy)
 exact this l [] hl (fun a ha=>by simp at ha) .nil
end
end
section
variable {j x y Br Bb A8 Be B0 Bc:Int}{L M l:Lqq}{i base:Nat}

noncomputable abbrev aSu:Code:=sub (cd Tryz.f214) [1,0,0,1,0,0,1,0,0]
noncomputable abbrev bEy:Code:=sub (cd Tryz.f214) [1,0,0]
theorem nan_p0{r0:Bool}(Aq:r0=(x != x)):FV Tp 124 [(pI x)] base (pB r0) []:=by
 subst Aq;exact FV.fi func124 [] gn
theorem nan_ok(x:Int){base:Nat}:FV Tp 124 [.p (aA x)] base (pB false) []:=nan_p0 (by simp)
theorem cmp_p0(h0:x<y):FV Tp 62 [(pI x),(pI y)] base (pI (-1)) []:=FV.fi func62 [.c (pB false) [],.c (pB false) [],bF,bF,bT] (gc (bG h0) (gf (gf (gc (fk 0 (nan_ok y) rfl) (gc (fk 0 (nan_ok x) rfl) gn)))))
theorem cmp_p1(h0:y≤x)(h1:y<x):FV Tp 62 [(pI x),(pI y)] base (pI 1) []:=FV.fi func62 [.c (pB false) [],.c (pB false) [],bF,bF,bF,bT] (gc (bG h1) (gc (aQ h0) (gf (gf (gc (fk 0 (nan_ok y) rfl) (gc (fk 0 (nan_ok x) rfl) gn))))))
theorem cmp_p2(h0:y≤x)(h1:x≤y):FV Tp 62 [(pI x),(pI y)] base (pI 0) []:=FV.fi func62 [.c (pB false) [],.c (pB false) [],bF,bF,bF,bF] (gc (aQ h1) (gc (aQ h0) (gf (gf (gc (fk 0 (nan_ok y) rfl) (gc (fk 0 (nan_ok x) rfl) gn))))))
def cmpI(x y:Int):Int:=if x<y then -1 else if y<x then 1 else 0
theorem cmp_ok(x y:Int){base:Nat}:FV Tp 62 [.p (aA x),.p (aA y)] base (pI (cmpI x y)) []:=by
 unfold cmpI
 by_cases h1:x<y
 ·rw [if_pos h1];exact cmp_p0 h1
 ·rw [if_neg h1]
  by_cases h2:y<x
  ·rw [if_pos h2];exact cmp_p1 (by omega) h2
  ·rw [if_neg h2];exact cmp_p2 (by omega) (by omega)
def ltK(f:Nat)(x y:List Int):Bool:=decide (cmpI (x.getD f 0) (y.getD f 0)<0)
theorem aOi(f:Nat)(x y:List Int):ltK f x y=decide (x.getD f 0<y.getD f 0):=by
 unfold ltK cmpI;rw [decide_eq_decide]
 split
 ·omega
 ·split <;> omega
theorem bEz{a0 a1 a2 b0 b1 b2 r0:Int}(Aq:r0=(cmpI a2 b2)):FV Tp 97 [(.p (.agg [(aA a0),(aA a1),(aA a2)])),(.p (.agg [(aA b0),(aA b1),(aA b2)]))] base (pI r0) []:=by
 subst Aq;have k1:=fk 2 (cmp_ok a2 b2) rfl;exact FV.fi func97 [k1.o] (gc k1 gn)
def oD(l:Lqq)(i Ln:Nat)(Lc:List PV):St:=⟨fr 53 [(0,(.own 0)),(1,(pI 0)),(2,(pI (l.length:Int))),(3,(.fn 97 [] [])),(8,(pI (i:Int)))],[some (.row 63 Ln Lc)]⟩
theorem bFa{Aw:Nat}{L'1:Lqq}(hl0:aF Tp 1 bEy (oD l 1 l.length (l.flatten.map aA)) (.exit 0) (oD l Aw L'1.length (L'1.flatten.map aA))):FMM Tp 214 [(.own 0),(pI 0),(pI (l.length:Int)),(.fn 97 [] [])] [some (.row 63 l.length (l.flatten.map aA))] (.tup []) [some (.row 63 L'1.length (L'1.flatten.map aA))]:=FMM.fi 1 gE func214 [hl0.k 3 (gZ dr)] (gc hl0.code (gt (inR 1) (by show _∧_;omega) gn))
def lN(l:Lqq)(i:Nat)(j:Int)(Mn:Nat)(Mc:List PV):St:=⟨fr 53 [(0,(.own 0)),(1,(pI 0)),(2,(pI (l.length:Int))),(3,(.fn 97 [] [])),(8,(pI (i:Int))),(9,(pI j)),(12,(pI (i:Int))),(13,(pI (l.length:Int))),(14,(pB (decide ((i:Int)<(l.length:Int))))),(17,(pI (i:Int)))],[some (.row 63 Mn Mc)]⟩
theorem aZz{Fy:Int}{M'101:Lqq}{i':Nat}{L':Lqq}(h0:(i:Int)<(l.length:Int))(hl1:aF Tp 1 aSu (lN l i (i:Int) L.length (L.flatten.map aA)) (.exit 2) (lN l i Fy M'101.length (M'101.flatten.map aA)))(h2:dv i)(Ak:i'=(i+1))(Dx:L'.length=M'101.length)(Dy:L'.flatten.map aA=(M'101.flatten.map aA)):aB Tp 1 bEy (oD l i L.length (L.flatten.map aA)) .normal (oD l i' L'.length (L'.flatten.map aA)):=by
 subst Ak;rw [Dx,Dy];exact aB.fi (gZ dr) [bT,hl1.k 5 (gZ cq)] (gc h2 (gc hl1.code (g0 h0)))
theorem aFz(h0:(l.length:Int)≤(i:Int)):aB Tp 1 bEy (oD l i L.length (L.flatten.map aA)) (.exit 0) (oD l i L.length (L.flatten.map aA)):=aB.fi (gZ dr) [bF] (gc (aQ h0) gn)
section
variable(h0:(0:Int)<j)(h1:M[j.toNat]? = some [Br,Bb,A8])(h2:0≤j)(h3:uni 3 M)(h4:inR (j-1))(h5:M[(j-1).toNat]? = some [Be,B0,Bc])(h6:0≤(j-1))
include h0 h1 h2 h3 h4 h5 h6
theorem bAa{j':Int}{M':Lqq}(h7:(cmpI A8 Bc)<0)(h8:[(aA Be),(aA B0),(aA Bc)].length=3∧(j.toNat*3)+3≤(M.flatten.map aA).length)(h9:0≤(j-1)∧(j-1)<(M.length:Int))(A0:[(aA Br),(aA Bb),(aA A8)].length=3∧((j-1).toNat*3)+3≤((M.flatten.map aA).take (j.toNat*3)++[(aA Be),(aA B0),(aA Bc)]++(M.flatten.map aA).drop ((j.toNat*3)+3)).length)(Du:j'=(j-1))(H7:M'.length=M.length)(H8:M'.flatten.map aA=(((M.flatten.map aA).take (j.toNat*3)++[(aA Be),(aA B0),(aA Bc)]++(M.flatten.map aA).drop ((j.toNat*3)+3)).take ((j-1).toNat*3)++[(aA Br),(aA Bb),(aA A8)]++((M.flatten.map aA).take (j.toNat*3)++[(aA Be),(aA B0),(aA Bc)]++(M.flatten.map aA).drop ((j.toNat*3)+3)).drop (((j-1).toNat*3)+3))):aB Tp 1 aSu (lN l i j M.length (M.flatten.map aA)) .normal (lN l i j' M'.length (M'.flatten.map aA)):=by
 subst Du;rw [H7,H8];exact aB.fi (gZ cq) (rT 5++[.x (.agg [(aA Br),(aA Bb),(aA A8)])]++rT 5++[.x (.agg [(aA Be),(aA B0),(aA Bc)]),bT,.c (pI (cmpI A8 Bc)) [],bT,bT,bT,.x (.agg [(aA Be),(aA B0),(aA Bc)]),.x (.agg [(aA Br),(aA Bb),(aA A8)])]) (gc h4 (gc A0 (gc h9 (gc h8 (gc (aX (i:=j) h2 h1) (gc (dE (i:=j.toNat) h3 h1) (gc (eA (i:=j.toNat) h3 h1) (gc (aX (i:=j) h2 h1) (gc (dE (i:=(j-1).toNat) h3 h5) (gc (eA (i:=(j-1).toNat) h3 h5) (gc (aX (i:=(j-1)) h6 h5) (Az h4 (gc (bG h7) (Az (bG h0) (gt (FC Tp 97 [(.p (.agg [(aA Br),(aA Bb),(aA A8)])),(.p (.agg [(aA Be),(aA B0),(aA Bc)]))] [] 1 (pI (cmpI A8 Bc)) []) (FV.fc (bEz rfl) rfl) (gc (bG h0) (gc (dE (i:=(j-1).toNat) h3 h5) (gc (eA (i:=(j-1).toNat) h3 h5) (gc (bG h0) (gc (aX (i:=(j-1)) h6 h5) (gc (bG h0) (gc h4 (Ay (bG h0) (gc (dE (i:=j.toNat) h3 h1) (gc (eA (i:=j.toNat) h3 h1) (gc (bG h0) (gc (aX (i:=j) h2 h1) (Ay (bG h0) (g0 h0)))))))))))))))))))))))))))))
theorem bAb(h7:(0:Int)≤(cmpI A8 Bc)):aB Tp 1 aSu (lN l i j M.length (M.flatten.map aA)) (.exit 2) (lN l i j M.length (M.flatten.map aA)):=aB.fi (gZ cq) (rT 5++[.x (.agg [(aA Br),(aA Bb),(aA A8)])]++rT 5++[.x (.agg [(aA Be),(aA B0),(aA Bc)]),bT,.c (pI (cmpI A8 Bc)) [],bT,bT,bF]) (gc (aQ h7) (Az (bG h0) (gt (FC Tp 97 [(.p (.agg [(aA Br),(aA Bb),(aA A8)])),(.p (.agg [(aA Be),(aA B0),(aA Bc)]))] [] 1 (pI (cmpI A8 Bc)) []) (FV.fc (bEz rfl) rfl) (gc (bG h0) (gc (dE (i:=(j-1).toNat) h3 h5) (gc (eA (i:=(j-1).toNat) h3 h5) (gc (bG h0) (gc (aX (i:=(j-1)) h6 h5) (gc (bG h0) (gc h4 (Ay (bG h0) (gc (dE (i:=j.toNat) h3 h1) (gc (eA (i:=j.toNat) h3 h1) (gc (bG h0) (gc (aX (i:=j) h2 h1) (Ay (bG h0) (g0 h0)))))))))))))))))
end
theorem bAc(h0:j≤0):aB Tp 1 aSu (lN l i j M.length (M.flatten.map aA)) (.exit 2) (lN l i j M.length (M.flatten.map aA)):=aB.fi (gZ cq) (rF 13) (Ia (aQ h0) (Cf (aQ h0) gn))
theorem cJm(l:Lqq)(i:Nat)(A R:Lqq)(hA:A.length<1000)(hi:i=A.length)(x0 x1 x2:Int)(hu:uni 3 (A++[x0,x1,x2]::R)):∀ m,m≤A.length→(∀ t (h:t<A.length),m≤t→ltK 2 [x0,x1,x2] A[t]=true) →
  aF Tp 1 aSu (lN l i (m:Int) (mv A [x0,x1,x2] m R).length ((mv A [x0,x1,x2] m R).flatten.map aA)) (.exit 2) (lN l i (insPos (ltK 2) [x0,x1,x2] A:Int) (ins (ltK 2) A [x0,x1,x2]++R).length ((ins (ltK 2) A [x0,x1,x2]++R).flatten.map aA)):=by
 have huA:∀ y∈A,y.length=3:=fun y hy=>hu y (mK _ hy)
 have huM:∀ m,uni 3 (mv A [x0,x1,x2] m R):=fun m y hy=>by
  unfold mv at hy
  rcases fV.1 hy with h | h
  ·exact huA y (List.mem_of_mem_take h)
  ·rcases gK.1 h with rfl | h
   ·rfl
   ·rcases fV.1 h with h | h
    ·exact huA y (List.mem_of_mem_drop h)
    ·exact hu y (zQ _ (Cj _ h))
 intro m
 induction m with
 | zero =>
  intro _ hlt;have e:=insPos_eq (ltK 2) [x0,x1,x2] A 0 (Nat.zero_le _) hlt (.inl rfl);rw [← mv_ins,e];exact .exit (bAc (by simp)) (by simp)
 | succ m ih =>
  intro hm hlt;have hy:=Av (show m<A.length by omega)
  generalize A[m]=y at hy
  obtain ⟨y0,y1,y2,rfl⟩:=E6 (huA y (Bp hy));have e1:((m+1:Nat):Int).toNat=m+1:=by omega
  have e2:(((m+1:Nat):Int)-1).toNat=m:=by omega
  have hl:=mv_length A [x0,x1,x2] (m+1) R hm;have g1:(mv A [x0,x1,x2] (m+1) R)[m+1]? = some [x0,x1,x2]:=by rw [mv_get A _ _ R hm];simp
  have g2:(mv A [x0,x1,x2] (m+1) R)[m]? = some [y0,y1,y2]:=by rw [mv_get A _ _ R hm,if_pos (by omega)];exact hy
  by_cases hc:cmpI x2 y2<0
  ·have st:=kE (k:=3) (i:=m+1) (x:=[y0,y1,y2]) (huM (m+1)) (by omega) rfl
   have Fu:uni 3 ((mv A [x0,x1,x2] (m+1) R).set (m+1) [y0,y1,y2]):=aCr (huM _) rfl;have st2:=kE (k:=3) (i:=m) (x:=[x0,x1,x2]) Fu (by rw [zS];omega) rfl
   have gm:((mv A [x0,x1,x2] (m+1) R).set (m+1) [y0,y1,y2])[m]? = some [y0,y1,y2]:=by rw [List.getElem?_set,if_neg (by omega)];exact g2
   have hsw:=mv_swap A [x0,x1,x2] (m+1) R hm (by omega) [y0,y1,y2] (by simpa using hy)
   rw [Nat.add_sub_cancel] at hsw
   simp only [iB,List.map_nil] at st st2
   refine .step (bAa (j:=((m+1:Nat):Int)) (j':=(m:Int)) (M':=mv A [x0,x1,x2] m R) (by omega) (by rw [e1];exact g1) (by omega) (huM _) (by show _∧_;omega) (by rw [e2];exact g2) (by omega) hc ⟨rfl,by rw [e1];exact eA (huM _) g1⟩ ⟨by omega,by omega⟩ ⟨rfl,?_⟩ (by omega) (by rw [hl,mv_length A _ _ R (by omega)]) ?_) (ih (by omega) fun t ht h1 => ?_)
   ·rw [e1,e2,st];exact eA Fu gm
   ·rw [e1,e2,st,st2,hsw]
   ·by_cases h2:t=m
    ·subst h2
     have h3:=hy;rw [Av ht,Option.some.injEq] at h3
     rw [h3];simpa [ltK] using hc
    ·exact hlt t ht (by omega)
  ·have e:=insPos_eq (ltK 2) [x0,x1,x2] A (m+1) hm hlt (.inr ⟨[y0,y1,y2],by simpa using hy,by simpa [ltK] using hc⟩)
   rw [← mv_ins,e];exact .exit (bAb (by omega) (by rw [e1];exact g1) (by omega) (huM _) (by show _∧_;omega) (by rw [e2];exact g2) (by omega) (by omega)) (by simp)
theorem cBn(l:Lqq)(hu:uni 3 l)(hn:l.length<1000):FMM Tp 214 [.own 0,.p (aA 0),.p (aA (l.length:Int)),.fn 97 [] []] [some (.row 63 l.length (l.flatten.map aA))] (.tup []) [some (.row 63 (isort (ltK 2) l).length ((isort (ltK 2) l).flatten.map aA))]:=by
 have hui:∀ i,uni 3 (isort (ltK 2) (l.take i)):=fun i y hy=>hu y (List.mem_of_mem_take ((isort_mem (ltK 2) _ y).1 hy))
 have key:∀ d i,i+d=l.length→1≤i→aF Tp 1 bEy (oD l i (isort (ltK 2) (l.take i)++l.drop i).length ((isort (ltK 2) (l.take i)++l.drop i).flatten.map aA)) (.exit 0) (oD l l.length (isort (ltK 2) l).length ((isort (ltK 2) l).flatten.map aA)):=by
  intro d
  induction d with
  | zero =>
   intro i hi _;obtain rfl:i=l.length:=by omega
   rw [List.take_length,List.drop_length,List.append_nil];exact .exit (aFz (by omega)) (by simp)
  | succ d ih =>
   intro i hi h1;have hlt:i<l.length:=by omega
   have hx:=hu l[i] (fG hlt);generalize hxx:l[i]=x at hx
   obtain ⟨x0,x1,x2,rfl⟩:=E6 hx;have hAl:(isort (ltK 2) (l.take i)).length=i:=by rw [isort_length,jV];omega
   have hdr:l.drop i=[x0,x1,x2]::l.drop (i+1):=by rw [aRk hlt,hxx]
   have hin:=cJm l i (isort (ltK 2) (l.take i)) (l.drop (i+1)) (by omega) hAl.symm x0 x1 x2 (by
    intro y hy
    rcases fV.1 hy with h | h
    ·exact hui i y h
    ·rcases gK.1 h with rfl | h
     ·rfl
     ·exact hu y (List.mem_of_mem_drop h)) i (by omega) (fun t ht h2=>by omega)
   have hmv:mv (isort (ltK 2) (l.take i)) [x0,x1,x2] i (l.drop (i+1))=isort (ltK 2) (l.take i)++l.drop i:=by
    have:=mv_end (isort (ltK 2) (l.take i)) [x0,x1,x2] (l.drop (i+1));rw [hAl] at this;rw [this,hdr]
   have hsn:=isort_snoc (ltK 2) l i hlt;rw [hxx] at hsn
   rw [hmv,← hsn] at hin
   exact .step (aZz (by omega) hin (by show _∧_;omega) rfl rfl rfl) (ih (i+1) (by omega) (by omega))
 rcases Nat.eq_zero_or_pos l.length with h0 | hp
 ·have:l=[]:=uS h0
  subst this;exact bFa (aF.exit (aFz (l:=[]) (L:=[]) (i:=1) (by simp)) (by simp))
 ·have:=key (l.length-1) 1 (by omega) (by omega)
  have e1:isort (ltK 2) (l.take 1)++l.drop 1=l:=by
   cases l with
   | nil=>simp at hp
   | cons x r=>simp [isort,ins,insPos]
  rw [e1] at this
  exact bFa this
def aCw(l:Lqq):St:=⟨fr 63 [(0,(.own 0)),(1,(pI (l.length:Int))),(2,(.fn 97 [] [])),(6,(pI 20)),(7,(pI 0)),(8,(pI 20))],[some (.row 63 l.length (l.flatten.map aA))]⟩
def aCx(l:Lqq):St:=⟨fr 63 [(0,(.own 0)),(1,(pI (l.length:Int))),(2,(.fn 97 [] [])),(6,(pI 20)),(7,(pI 0)),(8,(pI 20))],[some (.row 63 ((isort (ltK 2) l).length) ((isort (ltK 2) l).flatten.map aA))]⟩
theorem cBo(hl0:aF Tp 1 (sub (cd Tryz.f166) dj) (aCw l) (.exit 0) (aCw l))(h1:uni 3 l)(h2:l.length<1000)(B6:aF Tp 1 (sub (cd Tryz.f166) de) (aCx l) (.exit 2) (aCx l)):FMM Tp 166 [(.own 0),(pI (l.length:Int)),(.fn 97 [] [])] [some (.row 63 l.length (l.flatten.map aA))] (.tup []) [some (.row 63 ((isort (ltK 2) l).length) ((isort (ltK 2) l).flatten.map aA))]:=have k1:=mq [0] 1 (cBn l h1 h2);FMM.fi 1 gE func166 [hl0.k 6 (gZ az),k1.o,B6.k 1 (gZ dp)] (gc B6.code (gc k1 (gc hl0.code gn)))
theorem bAd(h0:(l.length:Int)<20):aB Tp 1 (sub (cd Tryz.f166) dj) (aCw l) (.exit 0) (aCw l):=aB.fi (gZ az) [bF] (gc (kT h0) gn)
theorem bAe(h0:(l.length:Int)≤20):aB Tp 1 (sub (cd Tryz.f166) de) (aCx l) (.exit 2) (aCx l):=aB.fi (gZ dp) [bF] (gc (aQ h0) gn)
theorem cBp(l:Lqq)(hu:uni 3 l)(hn:l.length<20):FMM Tp 166 [.own 0,.p (aA (l.length:Int)),.fn 97 [] []] [some (.row 63 l.length (l.flatten.map aA))] (.tup []) [some (.row 63 (isort (ltK 2) l).length ((isort (ltK 2) l).flatten.map aA))] := 
 cBo (aF.exit (bAd (by omega)) (by simp)) hu (by omega) (aF.exit (bAe (by omega)) (by simp))
theorem cBq(h0:uni 3 l)(h1:l.length<20):FMM Tp 96 [(.own 0),(.fn 97 [] [])] [some (.row 63 l.length (l.flatten.map aA))] (.tup []) [some (.row 63 ((isort (ltK 2) l).length) ((isort (ltK 2) l).flatten.map aA))]:=have k1:=mq [0] 1 (cBp l h0 h1);FMM.fi 1 gE func96 [k1.o] (gc k1 gn)
theorem cJn(l:Lqq)(hu:uni 3 l)(hn:l.length<20):FMM Tp 96 [.own 0,.fn 97 [] []] [some (.row 63 l.length (l.flatten.map aA))] (.tup []) [some (.row 63 (isort (ltK 2) l).length ((isort (ltK 2) l).flatten.map aA))]:=cBq hu hn
end
section
variable {r0 Ld:Bool}{n102 Ad Au Aa Ab Br Bb A8 Be B0 Bc:Int}{t t' D9 T104:Lqb}{L p L' Fb Fx:Lqq}{l q u:List Int}{i j i' j' Aw base:Nat}{ov:PV}
variable {dl:Int}{sk dc:Lqq}

noncomputable abbrev aFw:Code:=sub (cd Tryz.f53) [1,1,1,1,0,1,0,0]
noncomputable abbrev aOf:Code:=sub (cd Tryz.f53) [1,1,0,1,0,0]
noncomputable abbrev aAf:Code:=sub (cd Tryz.f163) [1,0,1,0,0]
noncomputable abbrev aOg:Code:=pS (cd Tryz.f16) 5 [0,1,0,0]
theorem bUf:((0:Int) != 0)=false:=by first | decide | simp
theorem aFx{cs:List PV}{a b:Nat}{v x:PV}(hn:a≠b)(h:cs[b]? = some x):(cs.set a v)[b]? = some x:=by rw [List.getElem?_set_ne hn];exact h
def ocB(q:List Int)(n:Int):Bool:=q.contains n
abbrev cIw(dl:Int)(sk dc:Lqq)(ov:PV)(R:Lqq)(T T2:Lqb):Prop:=FMM Tp 53 [sX dl sk dc,zY] (cY dl sk dc ov T) (.own 7) (cY dl sk dc ov T2++[some (.row 63 R.length (R.flatten.map aA))])
def oT(dl:Int)(sk dc:Lqq)(ov:PV)(pn:Nat)(pc:List PV)(qn:Nat)(qc:List PV)(i:Nat)(te:List (Value × PV))(tk:Nat):St:=⟨fr 87 [(0,(.rp (cC dl sk dc) 0)),(3,(.ptr 7 0)),(4,(.p cR)),(5,(.own 8)),(6,(.own 9)),(16,(.p (fS sk))),(17,(pI (sk.length:Int))),(18,(pI (i:Int)))],[some (Hw dl sk dc),some (.box 31 [(.p ov)]),some G9,some (.mp te tk),some (.box 183 [(.mp 3)]),some (Hy dl sk dc),some Hz,some G9,some (.row 63 pn pc),some (.row 63 qn qc)]⟩
def kM(dl:Int)(sk dc:Lqq)(ov:PV)(Fb Fx:Lqq)(D9:Lqb)(Ln:Nat)(Lc:List PV)(j:Nat):St:=⟨fr 87 [(4,(.p cR)),(5,(.own 7)),(6,(.own 8)),(47,(pI ((isort (ltK 2) Fb).length:Int))),(48,(pI (j:Int)))],[some (Hw dl sk dc),some (.box 31 [(.p ov)]),some G9,some (.mp (aN D9) D9.length),some (.box 183 [(.mp 3)]),some (Hy dl sk dc),some Hz,some (.row 63 Ln Lc),some (.row 63 Fx.length (Fx.flatten.map aA))]⟩
theorem cIx{T:Lqb}{Cp:Nat}{L'4:Lqq}{Xa I6:Nat}{Fa:List PV}(hl0:aF Tp 7 aOf (oT dl sk dc ov 0 [] 0 [] 0 (aN T) T.length) (.exit 0) (oT dl sk dc ov Fb.length (Fb.flatten.map aA) Fx.length (Fx.flatten.map aA) Cp (aN D9) D9.length))(h1:uni 3 Fb)(h2:Fb.length<20)(B6:aF Tp 7 aFw (kM dl sk dc ov Fb Fx D9 ((isort (ltK 2) Fb).length) ((isort (ltK 2) Fb).flatten.map aA) 0) (.exit 2) (kM dl sk dc ov Fb Fx D9 L'4.length (L'4.flatten.map aA) Xa))(h4:(Fx.flatten.map aA).length=Fx.length*3∧L'4.length+Fx.length≤1000000)(H3:I6=(L'4.length+Fx.length))(El:Fa=((L'4.flatten.map aA)++(Fx.flatten.map aA))):FMM Tp 53 [(.rp (cC dl sk dc) 0),zY] (cY dl sk dc ov T) (.own 7) [some (Hw dl sk dc),some (.box 31 [(.p ov)]),some G9,some (.mp (aN D9) D9.length),some (.box 183 [(.mp 3)]),some (Hy dl sk dc),some Hz,some (.row 63 I6 Fa)]:=by
 subst H3 El;have k1:=mq [8] 10 (cJn Fb h1 h2);exact FMM.fi 7 ⟨[],[9],[],[]⟩ func53 [.x (fS sk),hl0.k 1 (gN bb [7,8,9] [(5,63),(6,63)]),k1.o,B6.k 4 (gI cr [8,9])] (gc h4 (gc B6.code (gc k1 (gc hl0.code (gr (fS sk) gn)))))
section
variable(h0:(i:Int)<(sk.length:Int))(h1:sk[i]? = some [Aa,Ab])(h2:uni 2 sk)(h3:bJs dl sk dc ov [Aa,Ab] n102 Ld t T104)
include h0 h1 h2 h3
theorem bMq{q q':Lqq}(h4:Ld=true)(h5:[(aA Aa),(aA (-1)),(aA 0)].length=1*3∧q.length+1≤1000000)(h6:dv i)(Tc:q'.length=(q.length+1))(Td:q'.flatten.map aA=((q.flatten.map aA)++[(aA Aa),(aA (-1)),(aA 0)]))(Ak:i'=(i+1))(A2:aN t'=(aN T104))(A3:t'.length=T104.length):aB Tp 7 aOf (oT dl sk dc ov p.length (p.flatten.map aA) q.length (q.flatten.map aA) i (aN t) t.length) .normal (oT dl sk dc ov p.length (p.flatten.map aA) q'.length (q'.flatten.map aA) i' (aN t') t'.length):=by
 subst Ak;have k1:=mq cu 11 h3;rw [Tc,Td,A2,A3];exact aB.fi (gI bb [7,8,12]) [bT,.x (.agg [(aA Aa),(aA Ab)]),k1.o,bT] (gc h6 (gc h5 (gt ([(aA Aa),(aA (-1)),(aA 0)].length=3) (by first | decide | simp) (gc h4 (gc k1 (gfl h2 h1 (g0 h0)))))))
theorem bMr{q p':Lqq}(h4:Ld=false)(h5:[(aA Aa),(aA 0),(aA n102)].length=1*3∧p.length+1≤1000000)(h6:dv i)(Te:p'.length=(p.length+1))(Tf:p'.flatten.map aA=((p.flatten.map aA)++[(aA Aa),(aA 0),(aA n102)]))(Ak:i'=(i+1))(A2:aN t'=(aN T104))(A3:t'.length=T104.length):aB Tp 7 aOf (oT dl sk dc ov p.length (p.flatten.map aA) q.length (q.flatten.map aA) i (aN t) t.length) .normal (oT dl sk dc ov p'.length (p'.flatten.map aA) q.length (q.flatten.map aA) i' (aN t') t'.length):=by
 subst Ak;have k1:=mq cu 11 h3;rw [Te,Tf,A2,A3];exact aB.fi (gI bb [7,12,9]) [bT,.x (.agg [(aA Aa),(aA Ab)]),k1.o,bF] (gc h6 (gc h5 (gt ([(aA Aa),(aA 0),(aA n102)].length=3) (by first | decide | simp) (gc h4 (gc k1 (gfl h2 h1 (g0 h0)))))))
end
theorem bMs{q:Lqq}(h0:(sk.length:Int)≤(i:Int)):aB Tp 7 aOf (oT dl sk dc ov p.length (p.flatten.map aA) q.length (q.flatten.map aA) i (aN t) t.length) (.exit 0) (oT dl sk dc ov p.length (p.flatten.map aA) q.length (q.flatten.map aA) i (aN t) t.length):=aB.fi (gI bb [7,8,9]) [bF] (gc (aQ h0) gn)
section
variable(h0:(j:Int)<((isort (ltK 2) Fb).length:Int))(h1:inR (((j+1):Nat):Int))(h2:L[j]? = some [Br,Bb,A8])(h3:((j*3)+1)<(L.flatten.map aA).length)
include h0 h1 h2 h3
theorem bMt(h4:(0:Int)<(j:Int))(h5:uni 3 L)(h6:inR ((j:Int)-1))(h7:L[((j:Int)-1).toNat]? = some [Be,B0,Bc])(h8:0≤((j:Int)-1))(h9:A8=Bc)(A0:((j*3)+1)<((L.flatten.map aA).set ((j*3)+1) (aA (((j+1):Nat):Int))).length)(Dx:L'.length=L.length)(Dy:L'.flatten.map aA=(((L.flatten.map aA).set ((j*3)+1) (aA (((j+1):Nat):Int))).set ((j*3)+1) (aA B0)))(Du:j'=(j+1)):aB Tp 7 aFw (kM dl sk dc ov Fb Fx D9 L.length (L.flatten.map aA) j) .normal (kM dl sk dc ov Fb Fx D9 L'.length (L'.flatten.map aA) j'):=by
 subst Du;rw [Dx,Dy];exact aB.fi (gI cr [7,8]) (rT 6++[.x (aA A8)]++rT 6++[.x (aA Bc),bT,bT,bT,.x (aA B0)]) (gc h1 (gc A0 (gc (aX (i:=(j:Int)) (C7 _) h2) (gt (((L.flatten.map aA).set ((j*3)+1) (aA (((j+1):Nat):Int)))[((((j:Int)-1).toNat*3)+1)]? = some (aA B0)) (aFx (by omega) (iX (i:=((j:Int)-1).toNat) (f:=1) h5 h7 rfl)) (gc (aX (i:=((j:Int)-1)) h8 h7) (gc h6 (gc (cT h9) (Az (bG h4) (gt (((L.flatten.map aA).set ((j*3)+1) (aA (((j+1):Nat):Int)))[((((j:Int)-1).toNat*3)+2)]? = some (aA Bc)) (aFx (by omega) (iX (i:=((j:Int)-1).toNat) (f:=2) h5 h7 rfl)) (Az (bG h4) (gc (aX (i:=((j:Int)-1)) h8 h7) (gc (bG h4) (gc h6 (Ay (bG h4) (gt (((L.flatten.map aA).set ((j*3)+1) (aA (((j+1):Nat):Int)))[((j*3)+2)]? = some (aA A8)) (aFx (by omega) (iX (i:=j) (f:=2) h5 h2 rfl)) (Az (bG h4) (gc (aX (i:=(j:Int)) (C7 _) h2) (Ay (bG h4) (gc h3 (gc (aX (i:=(j:Int)) (C7 _) h2) (gc h1 (g0 h0))))))))))))))))))))))
theorem bMu(h4:(0:Int)<(j:Int))(h5:uni 3 L)(h6:inR ((j:Int)-1))(h7:L[((j:Int)-1).toNat]? = some [Be,B0,Bc])(h8:0≤((j:Int)-1))(h9:A8≠Bc)(Dx:L'.length=L.length)(Dy:L'.flatten.map aA=((L.flatten.map aA).set ((j*3)+1) (aA (((j+1):Nat):Int))))(Du:j'=(j+1)):aB Tp 7 aFw (kM dl sk dc ov Fb Fx D9 L.length (L.flatten.map aA) j) .normal (kM dl sk dc ov Fb Fx D9 L'.length (L'.flatten.map aA) j'):=by
 subst Du;rw [Dx,Dy];exact aB.fi (gI cr [7,8]) (rT 6++[.x (aA A8)]++rT 6++[.x (aA Bc),bT,bT,bF]) (gc h1 (gc (bE h9) (Az (bG h4) (gt (((L.flatten.map aA).set ((j*3)+1) (aA (((j+1):Nat):Int)))[((((j:Int)-1).toNat*3)+2)]? = some (aA Bc)) (aFx (by omega) (iX (i:=((j:Int)-1).toNat) (f:=2) h5 h7 rfl)) (Az (bG h4) (gc (aX (i:=((j:Int)-1)) h8 h7) (gc (bG h4) (gc h6 (Ay (bG h4) (gt (((L.flatten.map aA).set ((j*3)+1) (aA (((j+1):Nat):Int)))[((j*3)+2)]? = some (aA A8)) (aFx (by omega) (iX (i:=j) (f:=2) h5 h2 rfl)) (Az (bG h4) (gc (aX (i:=(j:Int)) (C7 _) h2) (Ay (bG h4) (gc h3 (gc (aX (i:=(j:Int)) (C7 _) h2) (gc h1 (g0 h0)))))))))))))))))
theorem bMv(h4:(j:Int)≤0)(Dx:L'.length=L.length)(Dy:L'.flatten.map aA=((L.flatten.map aA).set ((j*3)+1) (aA (((j+1):Nat):Int))))(Du:j'=(j+1)):aB Tp 7 aFw (kM dl sk dc ov Fb Fx D9 L.length (L.flatten.map aA) j) .normal (kM dl sk dc ov Fb Fx D9 L'.length (L'.flatten.map aA) j'):=by
 subst Du;rw [Dx,Dy];exact aB.fi (gI cr [7,8]) ([bT]++rF 13) (gc h1 (Ia (aQ h4) (Cf (aQ h4) (gc h3 (gc (aX (i:=(j:Int)) (C7 _) h2) (gc h1 (g0 h0)))))))
end
theorem bMw(h0:((isort (ltK 2) Fb).length:Int)≤(j:Int)):aB Tp 7 aFw (kM dl sk dc ov Fb Fx D9 L.length (L.flatten.map aA) j) (.exit 2) (kM dl sk dc ov Fb Fx D9 L.length (L.flatten.map aA) j):=aB.fi (gI cr [7,8]) [bF] (gc (aQ h0) gn)
theorem cIy{dl:Int}{sk dc R0:Lqq}{T1:Lqb}(h0:cK dl sk dc)(h1:cIw dl (aC sk) (aC dc) cR R0 ([]:Lqb) T1):FV Tp 25 [(.p (.agg (kF dl sk dc)))] base (.tup [(.own base),(pI 0)]) [(base,(.row 63 R0.length (R0.flatten.map aA)))]:=have k1:=fk 1 (yF dl sk dc h0) rfl;have k2:=mN [] 1 (aNn (dl:=dl) (sk:=(aC sk)) (dc:=(aC dc)));have k3:=mq [1,2,3,4,5,6,7] 8 h1;FV.fi func25 [k1.o,bF,k2.o,k3.o] (gc k3 (gc k2 (gc bUf (gc k1 gn))))
theorem cIz{n:Int}(h0:q.length≤1000)(Aq:r0=(q.contains n)):FV Tp 52 [(pI n),(.rp [(aE q)] 0)] base (pB r0) []:=by
 subst Aq;have k1:=fk 0 (rA q n h0) rfl;exact FV.fi func52 [.x (aE q),k1.o] (gc k1 (gr (aE q) gn))
theorem cJa(n:Int)(q:List Int)(hq:q.length≤1000){base:Nat}:FV Tp 52 [.p (aA n),.rp [aE q] 0] base (pB (ocB q n)) []:=cIz hq rfl
theorem cBh{x:Int}(h0:q.length≤1000)(Aq:r0=(!(ocB q x))):FMM Tp 94 [(pI x),(.ptr 0 0)] [some (.box 44 [(.fn 52 [] [(.rp [(aE q)] 0)])])] (pB r0) [some (.box 44 [(.fn 52 [] [(.rp [(aE q)] 0)])])]:=by
 subst Aq;exact FMM.fi 1 gE func94 [.c (pB (ocB q x)) []] (gc (fk 1 (cJa x q h0) rfl) gn)
theorem bEv(x:Int)(q:List Int)(he:q.length≤1000):FMM Tp 94 [(pI x),.ptr 0 0] [some (.box 44 [(.fn 52 [] [(.rp [(aE q)] 0)])])] (pB (!(ocB q x))) [some (.box 44 [(.fn 52 [] [(.rp [(aE q)] 0)])])]:=cBh he rfl
def iJ(l q:List Int)(i:Nat):St:=⟨fr 19 [(0,(.p (aE l))),(1,(.fn 94 [] [(.ptr 0 0)])),(7,(pI (l.length:Int))),(8,(pI (i:Int)))],[some (.box 44 [(.fn 52 [] [(.rp [(aE q)] 0)])])]⟩
theorem cBi(hl0:aF Tp 1 aAf (iJ l q 0) (.exit 0) (iJ l q Aw)):FMM Tp 163 [(.p (aE l)),(.fn 94 [] [(.ptr 0 0)])] [some (.box 44 [(.fn 52 [] [(.rp [(aE q)] 0)])])] (pI (-1)) [some (.box 44 [(.fn 52 [] [(.rp [(aE q)] 0)])])]:=FMM.fi 1 gE func163 [hl0.k 6 (gZ dq)] (gc hl0.code gn)
theorem cBj(hl0:aF Tp 1 aAf (iJ l q 0) .ret (cD (iJ l q Aw) [(4,(pI (Aw:Int)))])):FMM Tp 163 [(.p (aE l)),(.fn 94 [] [(.ptr 0 0)])] [some (.box 44 [(.fn 52 [] [(.rp [(aE q)] 0)])])] (pI (Aw:Int)) [some (.box 44 [(.fn 52 [] [(.rp [(aE q)] 0)])])]:=FMM.fi 1 gE func163 [hl0.k 6 (gZ dq)] (gc hl0.code gn)
section
variable(h0:(i:Int)<(l.length:Int))(h1:l[i]? = some Ad)(h2:q.length≤1000)
include h0 h1 h2
theorem aZw(h3:(ocB q Ad)=false):aB Tp 1 aAf (iJ l q i) .ret (cD (iJ l q i) [(4,(pI (i:Int)))]):=have k1:=mq [0] 1 (bEv Ad q h2);aB.fi (gZ db) [bT,.x (aA Ad),k1.o,bT] (gc (cA h3) (gc k1 (gc (atm aA h1) (gc (ixn aA h1) (g0 h0)))))
theorem aZx(h3:(ocB q Ad)=true)(h4:dv i)(Ak:i'=(i+1)):aB Tp 1 aAf (iJ l q i) .normal (iJ l q i'):=by
 subst Ak;have k1:=mq [0] 1 (bEv Ad q h2);exact aB.fi (gZ dq) [bT,.x (aA Ad),k1.o,bF] (gc h4 (gc (aL h3) (gc k1 (gc (atm aA h1) (gc (ixn aA h1) (g0 h0))))))
end
theorem aZy(h0:(l.length:Int)≤(i:Int)):aB Tp 1 aAf (iJ l q i) (.exit 0) (iJ l q i):=aB.fi (gZ dq) [bF] (gc (aQ h0) gn)
theorem cBk(l q:List Int)(hl:l.length≤1000)(he:∀ x∈l,q.length≤1000):FMM Tp 163 [.p (aE l),(.fn 94 [] [(.ptr 0 0)])] [some (.box 44 [(.fn 52 [] [(.rp [(aE q)] 0)])])] (pI (fN (fun x => !(ocB q x)) l)) [some (.box 44 [(.fn 52 [] [(.rp [(aE q)] 0)])])]:=by
 rcases aF.find (P:=Tp) (k:=1) (b:=aAf) (fun i=>iJ l q i) (fun i _=>cD (iJ l q i) [(4,.p (aA (i:Int)))]) (iJ l q l.length) .ret (.exit 0) (by simp) (by simp) (fun x => !(ocB q x)) l
  (fun i x hx hp=>by exact aZx (by have:=aT hx;omega) hx (he _ (Bp hx)) (by simpa using hp) (aI (by have:=aT hx;omega)) rfl)
  (fun i x hx hp=>by exact aZw (by have:=aT hx;omega) hx (he _ (Bp hx)) (by simpa using hp))
  (aZy (l:=l) (i:=l.length) (by omega)) with ⟨i,x,h1,h2,h3,h4⟩ | ⟨h1,h2,h3⟩
 ·rw [eH h2];exact cBj h4
 ·rw [eT h1];exact cBi h3
theorem cBl(h0:l.length≤1000)(h1:∀ x∈l,q.length≤1000)(Aq:r0=(decide ((fN (fun x => !(ocB q x)) l) ≥ 0))):FMM Tp 93 [(.p (aE l)),(.fn 94 [] [(.ptr 0 0)])] [some (.box 44 [(.fn 52 [] [(.rp [(aE q)] 0)])])] (pB r0) [some (.box 44 [(.fn 52 [] [(.rp [(aE q)] 0)])])]:=by
 subst Aq;have k1:=mq [0] 1 (cBk l q h0 h1);exact FMM.fi 1 gE func93 [k1.o] (gc k1 gn)
theorem cBm(l q:List Int)(hl:l.length≤1000)(he:∀ x∈l,q.length≤1000):FMM Tp 93 [.p (aE l),(.fn 94 [] [(.ptr 0 0)])] [some (.box 44 [(.fn 52 [] [(.rp [(aE q)] 0)])])] (pB (l.any (fun x => !(ocB q x)))) [some (.box 44 [(.fn 52 [] [(.rp [(aE q)] 0)])])]:=cBl hl he (gT _ _).symm
theorem cJb(h0:l.length≤1000)(h1:∀ x∈l,q.length≤1000)(Aq:r0=(!(l.any (fun x => !(ocB q x))))):FV Tp 51 [(.p (aE l)),(.fn 52 [] [(.rp [(aE q)] 0)])] base (pB r0) []:=by
 subst Aq;have k1:=mq [0] 1 (cBm l q h0 h1);exact FV.fi func51 [k1.o] (gc k1 gn)
theorem cJc(l q:List Int)(hl:l.length≤1000)(he:∀ x∈l,q.length≤1000){base:Nat}:FV Tp 51 [.p (aE l),(.fn 52 [] [(.rp [(aE q)] 0)])] base (pB (l.all (ocB q))) []:=cJb hl he (by rw [List.all_eq_not_any_not])
def iR(dl:Int)(sk dc:Lqq)(u:List Int)(i:Int):St:=⟨fr 45 [(1,(.p (aE u))),(6,(.rp (cC dl (aC sk) (aC dc)) 0)),(9,(pI i))],[]⟩
theorem cJd{Aw:Int}{R1:Lqq}{T2:Lqb}(h0:cK dl sk dc)(h1:bZ (aC dc))(h2:u.length≤1000)(h3:∀ x∈u,(cP dl (aC dc)).length≤1000)(h4:(u.all (ocB (cP dl (aC dc))))=true)(Fw:aF Tp 0 aOg (iR dl sk dc u 1) (.exit 0) (iR dl sk dc u Aw))(h6:cIw dl (aC sk) (aC dc) (aE u) R1 ([]:Lqb) T2):FV Tp 16 [(.p (.agg (kF dl sk dc))),(.p (aE u))] base (.tup [(.own base),(pI 0)]) [(base,(.row 63 R1.length (R1.flatten.map aA)))]:=have k1:=fk 1 (yF dl sk dc h0) rfl;have k2:=fk 1 (aYn (dl:=dl) (sk:=(aC sk)) (dc:=(aC dc)) h1) rfl;have k3:=fk 1 (cJc u (cP dl (aC dc)) h2 h3) rfl;have k4:=mN [] 0 (aNo (dl:=dl) (sk:=(aC sk)) (dc:=(aC dc)) (on:=u.length) (ol:=(u.map aA)));have k5:=mq cu 7 h6;FV.fi func16 [k1.o,bF,k2.o,.g 2 ⟨[],[0],[1,2],[]⟩,k3.o,bF,Fw.k 4 (gZ cb),k4.o,k5.o] (gc k5 (gc k4 (gc Fw.code (gc (aL h4) (gc k3 (gc k2 (gc bUf (gc k1 gn))))))))
section
variable{i:Int}(h0:i<(u.length:Int))(h1:u[i.toNat]? = some Ad)(h2:0≤i)(h3:inR (i-1))(h4:u[(i-1).toNat]? = some Au)(h5:0≤(i-1))
include h0 h1 h2 h3 h4 h5
theorem bMx(h6:Ad≤Au):aB Tp 0 aOg (iR dl sk dc u i) .ret (cD (iR dl sk dc u i) [(4,(.p cR)),(5,(pI 4))]):=aB.fi (gZ [0,1,2,2,7,2,10,30]) [bT,.x (aA Ad),.x (aA Au),bT] (gc (aCh h6) (gt ((u.map aA)[((i-1).toNat*1)]? = some (aA Au)) (dF (i:=(i-1).toNat) h4) (gc (jE (g:=aA) h5 h4) (gc h3 (gt ((u.map aA)[(i.toNat*1)]? = some (aA Ad)) (dF (i:=i.toNat) h1) (gc (jE (g:=aA) h2 h1) (g0 h0)))))))
theorem bMy{i':Int}(h6:Au<Ad)(h7:inR (i+1))(Ak:i'=(i+1)):aB Tp 0 aOg (iR dl sk dc u i) .normal (iR dl sk dc u i'):=by
 subst Ak;exact aB.fi (gZ cb) [bT,.x (aA Ad),.x (aA Au),bF] (gc h7 (gc (kT h6) (gt ((u.map aA)[((i-1).toNat*1)]? = some (aA Au)) (dF (i:=(i-1).toNat) h4) (gc (jE (g:=aA) h5 h4) (gc h3 (gt ((u.map aA)[(i.toNat*1)]? = some (aA Ad)) (dF (i:=i.toNat) h1) (gc (jE (g:=aA) h2 h1) (g0 h0))))))))
end
theorem aKp{i:Int}(h0:(u.length:Int)≤i):aB Tp 0 aOg (iR dl sk dc u i) (.exit 0) (iR dl sk dc u i):=aB.fi (gZ cb) [bF] (gc (aQ h0) gn)
end
section
variable {n8:Int}{o q:List Int}{i l s:Nat}

def fK(q:List Int)(s i:Nat):List Int:=((List.range i).filter fun j=>s / 2 ^ j % 2 == 1).map fun j=>q.getD j 0
def kL(q:List Int):Lqq:=(List.range (2 ^ q.length)).map fun s=>fK q s q.length

theorem cAw(h0:0≤(q.length:Int)∧(q.length:Int)≤60∧IntKind.i64 = .i64)(h1:inR ((1:Int)*2 ^ ((q.length:Int).toNat))):dJ Tp 0 (sub (cd Tryz.f181) [0]) ⟨fr 35 [(0,(.yld l)),(1,(.rp [(aE q)] 0))],[]⟩ .normal ⟨fr 35 [(0,(.yld l)),(1,(.rp [(aE q)] 0)),(8,(pI ((1:Int)*2 ^ ((q.length:Int).toNat)))),(9,(pI 0))],[]⟩:=dJ.fi (gZ [2,6,10,25]) [.x (aE q)] (gc h1 (gc h0 (gr (aE q) gn)))
theorem cAx:dJ Tp 0 (sub (cd Tryz.f181) [1,0,0,0]) ⟨fr 35 [(0,(.yld l)),(1,(.rp [(aE q)] 0)),(8,(pI n8)),(9,(pI (s:Int)))],[]⟩ .normal ⟨fr 35 [(0,(.yld l)),(1,(.rp [(aE q)] 0)),(8,(pI n8)),(9,(pI (s:Int))),(10,(pB (decide ((s:Int)<n8))))],[]⟩:=dJ.fi (gZ [2,6,11,24]) [] gn
theorem cAy:dJ Tp 0 (sub (cd Tryz.f181) [1,0,0,1,1,0,0,0]) ⟨fr 35 [(0,(.yld l)),(1,(.rp [(aE q)] 0)),(8,(pI n8)),(9,(pI (s:Int)))],[]⟩ .normal ⟨fr 35 [(0,(.yld l)),(1,(.rp [(aE q)] 0)),(3,(pI (s:Int))),(8,(pI n8)),(9,(pI (s:Int)))],[]⟩:=dJ.fi (gZ [2,1,4,4,10,25]) [] gn
theorem cAz:dJ Tp 0 (sub (cd Tryz.f181) [1,0,0,1,1,0,0,1,0]) ⟨fr 35 [(0,(.yld l)),(1,(.rp [(aE q)] 0)),(3,(pI (s:Int))),(8,(pI n8)),(9,(pI (s:Int)))],[]⟩ .normal ⟨fr 35 [(0,(.yld l)),(1,(.rp [(aE q)] 0)),(3,(pI (s:Int))),(4,(.p cR)),(8,(pI n8)),(9,(pI (s:Int)))],[]⟩:=dJ.fi (gZ [2,1,5,3,10,25]) [] gn
theorem cBa:dJ Tp 0 (sub (cd Tryz.f181) [1,0,0,1,1,0,0,1,1,0,0]) ⟨fr 35 [(0,(.yld l)),(1,(.rp [(aE q)] 0)),(3,(pI (s:Int))),(4,(.p cR)),(8,(pI n8)),(9,(pI (s:Int)))],[]⟩ .normal ⟨fr 35 [(0,(.yld l)),(1,(.rp [(aE q)] 0)),(3,(pI (s:Int))),(4,(.own 0)),(8,(pI n8)),(9,(pI (s:Int))),(13,(pI (q.length:Int))),(14,(pI 0))],[some (.row 3 0 [])]⟩:=dJ.fi (gN bw [0] [(4,3)]) [.x (aE q)] (gr (aE q) gn)
theorem cBb:dJ Tp 0 (sub (cd Tryz.f181) [1,0,0,1,1,0,0,1,1,0,1,0,0,0]) ⟨fr 35 [(0,(.yld l)),(1,(.rp [(aE q)] 0)),(3,(pI (s:Int))),(4,(.own 0)),(8,(pI n8)),(9,(pI (s:Int))),(13,(pI (q.length:Int))),(14,(pI (i:Int)))],[some (.row 3 o.length (o.map aA))]⟩ .normal ⟨fr 35 [(0,(.yld l)),(1,(.rp [(aE q)] 0)),(3,(pI (s:Int))),(4,(.own 0)),(8,(pI n8)),(9,(pI (s:Int))),(13,(pI (q.length:Int))),(14,(pI (i:Int))),(15,(pB (decide ((i:Int)<(q.length:Int)))))],[some (.row 3 o.length (o.map aA))]⟩:=dJ.fi (gI [2,1,5,3,10,3,16,19] [0]) [] gn
theorem cBc:dJ Tp 0 (sub (cd Tryz.f181) ap) ⟨fr 35 [(0,(.yld l)),(1,(.rp [(aE q)] 0)),(3,(pI (s:Int))),(4,(.own 0)),(8,(pI n8)),(9,(pI (s:Int))),(13,(pI (q.length:Int))),(14,(pI (i:Int)))],[some (.row 3 o.length (o.map aA))]⟩ .normal ⟨fr 35 [(0,(.yld l)),(1,(.rp [(aE q)] 0)),(3,(pI (s:Int))),(4,(.own 0)),(5,(pI (i:Int))),(8,(pI n8)),(9,(pI (s:Int))),(13,(pI (q.length:Int))),(14,(pI (i:Int)))],[some (.row 3 o.length (o.map aA))]⟩:=dJ.fi (gI [2,1,6,2,10,3,15,20] [0]) [] gn
theorem cBd(h0:0≤((s:Int).fdiv (2 ^ min ((i:Int).toNat) (IntKind.bits .i64)))∧((s:Int).fdiv (2 ^ min ((i:Int).toNat) (IntKind.bits .i64)))≤9223372036854775807∧(1:Int)=1∧IntKind.i64 = .i64):dJ Tp 0 (sub (cd Tryz.f181) an) ⟨fr 35 [(0,(.yld l)),(1,(.rp [(aE q)] 0)),(3,(pI (s:Int))),(4,(.own 0)),(5,(pI (i:Int))),(8,(pI n8)),(9,(pI (s:Int))),(13,(pI (q.length:Int))),(14,(pI (i:Int)))],[some (.row 3 o.length (o.map aA))]⟩ .normal ⟨fr 35 [(0,(.yld l)),(1,(.rp [(aE q)] 0)),(3,(pI (s:Int))),(4,(.own 0)),(5,(pI (i:Int))),(8,(pI n8)),(9,(pI (s:Int))),(13,(pI (q.length:Int))),(14,(pI (i:Int))),(21,(pB ((((s:Int).fdiv (2 ^ min ((i:Int).toNat) (IntKind.bits .i64))) % 2) == 1)))],[some (.row 3 o.length (o.map aA))]⟩:=dJ.fi (gI [2,1,6,2,10,3,15,6,22,13] [0]) [] (gc h0 (gt (0≤(i:Int)) (C7 _) gn))
theorem cBe{x0:Int}(h0:q[i]? = some x0)(h1:[(aA x0)].length=1*1∧o.length+1≤1000000):dJ Tp 0 (sub (cd Tryz.f181) am) ⟨fr 35 [(0,(.yld l)),(1,(.rp [(aE q)] 0)),(3,(pI (s:Int))),(4,(.own 0)),(5,(pI (i:Int))),(8,(pI n8)),(9,(pI (s:Int))),(13,(pI (q.length:Int))),(14,(pI (i:Int)))],[some (.row 3 o.length (o.map aA))]⟩ .normal ⟨fr 35 [(0,(.yld l)),(1,(.rp [(aE q)] 0)),(3,(pI (s:Int))),(4,(.own 0)),(8,(pI n8)),(9,(pI (s:Int))),(13,(pI (q.length:Int))),(14,(pI (i:Int)))],[some (.row 3 (o.length+1) ((o.map aA)++[(aA x0)]))]⟩:=dJ.fi (gI bw [2]) [.x (aE q),.x (aA x0)] (gc h1 (gc (atm aA h0) (gc (ixn aA h0) (gr (aE q) gn))))
theorem cBf(h0:dv i):dJ Tp 0 (sub (cd Tryz.f181) aw) ⟨fr 35 [(0,(.yld l)),(1,(.rp [(aE q)] 0)),(3,(pI (s:Int))),(4,(.own 0)),(8,(pI n8)),(9,(pI (s:Int))),(13,(pI (q.length:Int))),(14,(pI (i:Int)))],[some (.row 3 o.length (o.map aA))]⟩ .normal ⟨fr 35 [(0,(.yld l)),(1,(.rp [(aE q)] 0)),(3,(pI (s:Int))),(4,(.own 0)),(8,(pI n8)),(9,(pI (s:Int))),(13,(pI (q.length:Int))),(14,(pI (((i+1):Nat):Int)))],[some (.row 3 o.length (o.map aA))]⟩:=dJ.fi (gI bw [0]) [] (gc h0 gn)
theorem cBg(h0:dv s):dJ Tp 0 (sub (cd Tryz.f181) [1,0,0,1,1,1]) ⟨fr 35 [(0,(.yld l)),(1,(.rp [(aE q)] 0)),(8,(pI n8)),(9,(pI (s:Int)))],[]⟩ .normal ⟨fr 35 [(0,(.yld l)),(1,(.rp [(aE q)] 0)),(8,(pI n8)),(9,(pI (((s+1):Nat):Int)))],[]⟩:=dJ.fi (gZ [2,6,10,25]) [] (gc h0 gn)
end
end KV
end Go.Proofs
section
namespace Go.Proofs
open Go.RowKit
namespace KV
open Tryz
attribute [local go_sem] Oper.semAt_some
theorem aCu(l:List (Nat × AV)):∀ (n k:Nat),(frm l n k).length=n
 | 0,_=>rfl
 | n+1,k=>by unfold frm;rw [nM,aCu]
theorem aZu(l:List (Nat × AV)):∀ (n k j:Nat) (h:j<(frm l n k).length),(frm l n k)[j]=look l (k+j)
 | 0,_,j,h=>by simp [frm] at h
 | n+1,k,0,h=>rfl
 | n+1,k,j+1,h=>by
  have:=aZu l n (k+1) j (by rw [aCu] at h ⊢;omega)
  rw [show k+(j+1)=k+1+j by omega]
  exact this
theorem aSp{C:Cx}{M:Mem}{w:World}{us:Array Value}:∀ {l:List (Nat × AV)},(∀ p∈l,Rep C M w p.2 (us.getD p.1 undef))→∀ j,Rep C M w (look l j) (us.getD j undef)
 | [],_,j => .any _
 | (i,x)::r,h,j=>by
  unfold look
  split
  ·rename_i hb
   rw [← Nat.eq_of_beq_eq_true hb];exact h (i,x) (iN ..)
  ·exact aSp (fun p hp=>h p (Cj _ hp)) j
theorem aSq{C:Cx}{M:Mem}{w:World}{us:Array Value}{n:Nat}{l:List (Nat × AV)}(hs:us.size=n)(h:∀ p∈l,Rep C M w p.2 (us.getD p.1 undef)):eF C M w (fr n l) us:=by
 refine ⟨by rw [hs,aCu],fun i hi => ?_⟩
 rw [aZu,gS];exact aSp h _
theorem wN{C:Cx}{M:Mem}{w:World}{us:Array Value}{n:Nat}{l:List (Nat × AV)}(h:eF C M w (fr n l) us)(i:Nat)(hi:i<n):Rep C M w (look l i) (us.getD i undef):=by
 have:=h.rep i (by rw [aCu];exact hi)
 rwa [aZu,gS] at this

section
variable {P:Program}
def InK(Cv:Cx)(V:World)(v0:Value)(st:St)(a:Act)(w:World):Prop:=Sim Tp Cv [] V st a w∧a.tmps.getD 1 undef=v0∧a.defers=[]
theorem InK.step{Cv:Cx}{V:World}{v0:Value}{c:Code}{st Am:St}{a:Act}{w:World}{n:Nat}{K:Act→World→Prop}{Q:Exit→Act→World→Prop}(h:dJ Tp 0 c st .normal Am)(hw:wrR c 1=false)(hi:InK Cv V v0 st a w)
  (hK:∀ a' w',InK Cv V v0 Am a' w'→K a' w'):c.wpIn (Fen none) n Tp (Exit.then K Q) a w :=
 wpIn_mono (h Cv [] V a w (by simp) hi.1 none n) fun e a' w' hq=>by
  obtain ⟨he,hs,hk⟩:=hq;subst he;exact hK a' w' ⟨hs,(hk.1 1 hw).trans hi.2.1,hk.2.trans hi.2.2⟩
end
noncomputable abbrev cO:Code:=cd Tryz.f181
abbrev stA(l:Nat)(q:List Int)(n8:Int)(s:Nat):St:=⟨fr 35 [(0,.yld l),(1,.rp [aE q] 0),(8,.p (aA n8)),(9,.p (aA (s:Int)))],[]⟩
abbrev stB(l:Nat)(q:List Int)(n8:Int)(s:Nat)(o:List Int)(i:Nat):St:=⟨fr 35 [(0,.yld l),(1,.rp [aE q] 0),(3,.p (aA (s:Int))),(4,.own 0),(8,.p (aA n8)),(9,.p (aA (s:Int))),(13,.p (aA (q.length:Int))),(14,.p (aA (i:Int)))],[some (.row 3 o.length (o.map aA))]⟩
theorem bMn(q:List Int)(s i:Nat):fK q s (i+1)=fK q s i++if s / 2 ^ i % 2 == 1 then [q.getD i 0] else []:=by
 unfold fK;rw [List.range_succ,oJ,iV]
 congr 1
 cases h:s / 2 ^ i % 2 == 1 <;> simp [h]
theorem aSr(q:List Int)(s i:Nat):(fK q s i).length≤i:=by
 unfold fK;rw [B9];have:=zR (fun j=>s / 2 ^ j % 2 == 1) (List.range i)
 rwa [aRl] at this
theorem cAv(s i:Nat)(hi:i≤60):(s:Int).fdiv (2 ^ min ((i:Int).toNat) (IntKind.bits .i64))=((s / 2 ^ i:Nat):Int):=by
 have hb:IntKind.bits .i64=64:=rfl;rw [aHy,hb,Nat.min_eq_left (by omega),Int.fdiv_eq_ediv_of_nonneg _ (by exact_mod_cast Nat.zero_le _)]
 push_cast
 rfl
theorem bTz{Cv:Cx}{V:World}{v0:Value}{l:Nat}{q:List Int}{n8:Int}{s:Nat}(hq:q.length≤60)(hs:s≤9223372036854775807){n:Nat}{K:Act→World→Prop}{Q:Exit→Act→World→Prop}{a:Act}{w:World}
  (hi:InK Cv V v0 (stB l q n8 s [] 0) a w) (hK:∀ a' w',InK Cv V v0 (stB l q n8 s (fK q s q.length) q.length) a' w'→K a' w') :
  (Code.block 2 (.loop (sub cO [1,0,0,1,1,0,0,1,1,0,1,0,0]))).wpIn (Fen none) n Tp (Exit.then K Q) a w:=by
 refine wpIn_block ?_;refine wpIn_loop_ghost (fun k a w=>∃ i,i≤q.length∧k=q.length-i∧InK Cv V v0 (stB l q n8 s (fK q s i) i) a w) q.length ⟨0,by omega,by omega,hi⟩ ?_
 rintro k a w ⟨i,hil,rfl,hI⟩;have e1:sub cO [1,0,0,1,1,0,0,1,1,0,1,0,0] = .seq (sub cO [1,0,0,1,1,0,0,1,1,0,1,0,0,0]) (.seq (.cond (.tmp 15) .skip (.exit 2)) (.seq (.block 3 (.seq (sub cO ap) (.seq (sub cO an) (.cond (.tmp 21) (sub cO am) .skip)))) (sub cO aw))):=by kernel_rfl
 rw [e1];refine wpIn_seq ?_;refine InK.step cBb (by kernel_rfl) hI fun a1 w1 h1 => ?_
 refine wpIn_seq ?_;obtain ⟨⟨C1,K6,_⟩,_⟩:=id h1;have P5:a1.eval (.tmp 15) = .bool (decide ((i:Int)<(q.length:Int))):=by
  have:=wN K6 15 (by omega)
  show a1.tmps.getD 15 undef=_;generalize a1.tmps.getD 15 undef=u at this
  have h2:Rep C1 _ w1 (.p (.v (.bool (decide ((i:Int)<(q.length:Int)))))) u:=this;cases h2 with
  | p _ _ h=>cases h;rfl
 by_cases hlt:i<q.length
 ·refine wpIn_cond_true (by rw [P5,decide_eq_true (by omega)]) (wpIn_skip ?_)
  show Code.wpIn _ _ _ _ _ _ _;have I7:InK Cv V v0 (stB l q n8 s (fK q s i) i) a1 w1:=⟨(fD (g:=⟨[15],[0],[],[]⟩) (k:=0) (dG _) (by kernel_rfl) h1.1),h1.2⟩
  refine wpIn_seq ?_;have hsd:=cAv s i (by omega)
  have hx:q[i]? = some (q.getD i 0):=by rw [Bw,Av hlt];rfl
  have hpl:=aSr q s i;have hfin:∀ a2 w2,InK Cv V v0 (stB l q n8 s (fK q s (i+1)) i) a2 w2→(sub cO aw).wpIn (Fen none) n Tp (Exit.then (fun a' w'=>∃ n',n'<q.length-i∧∃ i',i'≤q.length∧n'=q.length-i'∧InK Cv V v0 (stB l q n8 s (fK q s i') i') a' w') (Exit.inBlock 2 (Exit.then K Q))) a2 w2:=fun a2 w2 h2 =>
   InK.step (cBf (aI (by omega))) (by kernel_rfl) h2 fun a3 w3 h3=>⟨q.length-(i+1),by omega,i+1,by omega,rfl,h3⟩
  refine wpIn_block ?_;refine wpIn_seq ?_;refine InK.step cBc (by kernel_rfl) I7 fun a2 w2 h2 => ?_
  refine wpIn_seq ?_;have hle:s / 2 ^ i≤s:=Nat.div_le_self _ _;refine InK.step (cBd (s:=s) (i:=i) ⟨by rw [hsd];exact C7 _,by rw [hsd];exact Int.ofNat_le.2 (gL hle hs),rfl,rfl⟩) (by kernel_rfl) h2 fun a3 w3 h3 => ?_
  obtain ⟨⟨C3,L4,_⟩,_⟩:=id h3;have P6:a3.eval (.tmp 21) = .bool (s / 2 ^ i % 2 == 1):=by
   have:=wN L4 21 (by omega)
   show a3.tmps.getD 21 undef=_;generalize a3.tmps.getD 21 undef=u at this
   have h2:Rep C3 _ w3 (.p (.v (.bool (((s:Int).fdiv (2 ^ min ((i:Int).toNat) (IntKind.bits .i64))) % 2 == 1)))) u:=this;cases h2 with
   | p _ _ h =>
    cases h;rw [hsd]
    congr 1
    generalize s / 2 ^ i=z;rw [Bool.eq_iff_iff,beq_iff_eq,beq_iff_eq];omega
  have J7:InK Cv V v0 ⟨fr 35 [(0,.yld l),(1,.rp [aE q] 0),(3,.p (aA (s:Int))),(4,.own 0),(5,.p (aA (i:Int))),(8,.p (aA n8)),(9,.p (aA (s:Int))),(13,.p (aA (q.length:Int))),(14,.p (aA (i:Int)))],[some (.row 3 (fK q s i).length ((fK q s i).map aA))]⟩ a3 w3:=⟨(fD (g:=⟨[21],[0],[],[]⟩) (k:=0) (dG _) (by kernel_rfl) h3.1),h3.2⟩
  have hp:=bMn q s i;cases hb:s / 2 ^ i % 2 == 1 with
  | true =>
   refine wpIn_cond_true (by rw [P6,hb]) ?_
   rw [hb,if_pos rfl] at hp
   refine wpIn_mono (cBe (o:=fK q s i) hx ⟨rfl,by omega⟩ Cv [] V a3 w3 (by simp) J7.1 none n) ?_
   rintro e a4 w4 ⟨rfl,h4,Un⟩;refine hfin a4 w4 ⟨?_,(Un.1 1 (by kernel_rfl)).trans J7.2.1,Un.2.trans J7.2.2⟩
   have e8:(stB l q n8 s (fK q s (i+1)) i)=⟨fr 35 [(0,.yld l),(1,.rp [aE q] 0),(3,.p (aA (s:Int))),(4,.own 0),(8,.p (aA n8)),(9,.p (aA (s:Int))),(13,.p (aA (q.length:Int))),(14,.p (aA (i:Int)))],[some (.row 3 ((fK q s i).length+1) ((fK q s i).map aA++[aA (q.getD i 0)]))]⟩:=by
    rw [hp];unfold stB;rw [jT,iV];rfl
   rw [e8];exact h4
  | false =>
   refine wpIn_cond_false (by rw [P6,hb]) (wpIn_skip ?_)
   rw [hb,if_neg (by simp),List.append_nil] at hp
   refine hfin a3 w3 ?_;rw [hp];exact ⟨(fD (g:=⟨[5],[0],[],[]⟩) (k:=0) (dG _) (by kernel_rfl) J7.1),J7.2⟩
 ·obtain rfl:i=q.length:=by omega
  refine wpIn_cond_false (by rw [P5,decide_eq_false (by omega)]) (wpIn_exit ?_)
  show Exit.inBlock 2 (Exit.then K Q) (.exit 2) a1 w1
  unfold Exit.inBlock;dsimp only;rw [if_pos rfl];exact hK a1 w1 ⟨(fD (g:=⟨[15],[0],[],[]⟩) (k:=0) (dG _) (by kernel_rfl) h1.1),h1.2⟩
theorem aOe{a:Act}{W:World}{l id t0 t1 t2 t3:Nat}{ts:Array TypeId}{p0 p1 p2 p3:String}{f0 f1 f2 f3:Array Edge}{u:Value}{A B:World→Prop}{K:Act→World→Prop}{Q:Exit→Act→World→Prop}
  (hs:a.tmps.size=35) (h0:a.tmps.getD 0 undef = .func (.yield l) #[] #[]) (h4:a.tmps.getD 4 undef=u)
  (hy:YieldAt (Fen none) 1 Tp l #[u] W (fun e W'=>(e = .returned (.bool true)∧A W')∨(e = .returned (.bool false)∧B W')))
  (hA:∀ a' W',A W'→a'.defers=a.defers→a'.tmps.size=35→(∀ i,i<30→a'.tmps.getD i undef=a.tmps.getD i undef)→a'.tmps.getD 33 undef = .bool false→K a' W')
  (hB:∀ a' W',B W'→a'.defers=a.defers→a'.tmps.getD 33 undef = .bool true→K a' W') :
  (Code.region id #[{ dst:=some 30,op := .move (.tmp 0),type:=t0,pos:=p0,after:=f0,guard:=none },{ dst:=some 31,op := .move (.tmp 4),type:=t1,pos:=p1,after:=f1,guard:=none },
   {dst:=some 32,op := .call { callee := .value (.tmp 30),args := #[.tmp 31],argTypes:=ts },type:=t2,pos:=p2,after:=f2,guard:=none },{ dst:=some 33,op := .unOp .not 4 (.tmp 32),type:=t3,pos:=p3,after:=f3,guard:=none }] false).wpIn (Fen none) 2 Tp (Exit.then K Q) a W:=by
 refine wpIn_region_lit (wpListIn_plain rfl fun K1 S7 => ?_)
 unfold Oper.wpIn;refine ⟨fun f _=>trivial,?_⟩
 rw [Oper.semAt_plain _ _ _ (by intro c Fg;cases Fg)]
 simp only [execOp,Sem.run_pure];refine S7 _ _ (wpListIn_plain rfl fun K2 Pd => ?_)
 unfold Oper.wpIn;refine ⟨fun f _=>trivial,?_⟩
 rw [Oper.semAt_plain _ _ _ (by intro c Fg;cases Fg)]
 simp only [execOp,Sem.run_pure];refine Pd _ _ (wpListIn_plain rfl fun K3 M8 => ?_)
 unfold Oper.wpIn;refine ⟨fun f _=>trivial,?_⟩
 rw [Oper.semAt_plain _ _ _ (by intro c Fg;cases Fg)]
 obtain ⟨fn,tmps,assign,body,hrun,hR⟩:=hy;have S8:(((a.put (some 30) (a.eval (.tmp 0))).put (some 31) ((a.put (some 30) (a.eval (.tmp 0))).eval (.tmp 4)))).eval (.tmp 30) = .func (.yield l) #[] #[]:=by
  show ((a.tmps.setIfInBounds 30 (a.tmps.getD 0 undef)).setIfInBounds 31 _).getD 30 undef=_;rw [h0];simp [Bn,Array.getElem?_setIfInBounds,hs]
 have S9:(((a.put (some 30) (a.eval (.tmp 0))).put (some 31) ((a.put (some 30) (a.eval (.tmp 0))).eval (.tmp 4)))).eval (.tmp 31)=u:=by
  show ((a.tmps.setIfInBounds 30 (a.tmps.getD 0 undef)).setIfInBounds 31 ((a.tmps.setIfInBounds 30 (a.tmps.getD 0 undef)).getD 4 undef)).getD 31 undef=_;rw [← h4];simp [Bn,Array.getElem?_setIfInBounds,hs]
 have Pt:∀ i,i<30→(((a.put (some 30) (a.eval (.tmp 0))).put (some 31) ((a.put (some 30) (a.eval (.tmp 0))).eval (.tmp 4)))).tmps.getD i undef=a.tmps.getD i undef:=fun i hi=>by
  rw [tE (fun e=>by cases e;omega),tE (fun e=>by cases e;omega)]
 have eD:(((a.put (some 30) (a.eval (.tmp 0))).put (some 31) ((a.put (some 30) (a.eval (.tmp 0))).eval (.tmp 4)))).defers=a.defers:=rfl;have eS:(((a.put (some 30) (a.eval (.tmp 0))).put (some 31) ((a.put (some 30) (a.eval (.tmp 0))).eval (.tmp 4)))).tmps.size=35:=by
  show ((a.tmps.setIfInBounds _ _).setIfInBounds _ _).size=35;simp [hs]
 revert S8 S9 Pt eD eS;dsimp only;generalize (((a.put (some 30) (a.eval (.tmp 0))).put (some 31) ((a.put (some 30) (a.eval (.tmp 0))).eval (.tmp 4))))=a2;intro S8 S9 Pt eD eS;have er:Sem.run Tp (execOp a2.eval { dst:=some 32,op := .call { callee := .value (.tmp 30),args := #[.tmp 31],argTypes:=ts },type:=t2,pos:=p2,after:=f2,guard:=none }) W = .ok (.round l fn tmps assign body) W:=by
  rw [← hrun];simp only [execOp,resolve,Deferred.ofValue,S8,S9,List.map_toArray,iB,List.map_nil,Sem.run_bind,Sem.run_pure,invoke];simp
 rw [er,Oper.uponIn_round];refine ⟨fun h=>by simp [Fen,Fence.wide] at h,hR.mono ?_⟩
 have last:∀ (b:Bool) (w3:World),(∀ a',a'.defers=a.defers→a'.tmps.size=35→(∀ i,i<30→a'.tmps.getD i undef=a.tmps.getD i undef)→a'.tmps.getD 33 undef = .bool (!b)→K a' w3)→K3 (a2.put (some 32) (.bool b)) w3:=fun b w3 hfin=>by
  refine M8 _ _ (wpListIn_plain rfl fun K4 Pl => ?_)
  unfold Oper.wpIn;refine ⟨fun f _=>trivial,?_⟩
  rw [Oper.semAt_plain _ _ _ (by intro c Fg;cases Fg)]
  have Ww:(a2.put (some 32) (.bool b)).eval (.tmp 32) = .bool b:=by
   show (a2.tmps.setIfInBounds 32 _).getD 32 undef=_;simp [Bn,eS]
  have eu:Sem.run Tp (execOp (a2.put (some 32) (.bool b)).eval { dst:=some 33,op := .unOp .not 4 (.tmp 32),type:=t3,pos:=p3,after:=f3,guard:=none }) w3 = .ok (.value (.bool !b)) w3:=by
   simp only [execOp,Ww];rfl
  rw [eu];refine Pl _ _ (wpListIn_nil (hfin _ eD ?_ (fun i hi => ?_) ?_))
  ·show ((a2.tmps.setIfInBounds _ _).setIfInBounds _ _).size=35
   simp [eS]
  ·rw [tE (fun e=>by cases e;omega),tE (fun e=>by cases e;omega)]
   exact Pt i hi
  ·show ((a2.tmps.setIfInBounds 32 _).setIfInBounds 33 _).getD 33 undef=_
   simp [Bn,eS]
 rintro e w3 (⟨rfl,h⟩ | ⟨rfl,h⟩)
 ·exact last true w3 fun a' h1 h2 h3 h4=>hA a' w3 h h1 h2 h3 h4
 ·exact last false w3 fun a' h1 h2 h3 h4=>hB a' w3 h h1 h4
end KV
end Go.Proofs
end
section
namespace Go.Proofs
open Go.RowKit
namespace KV
open Tryz
structure Lp (l:Nat) (v0:Value) (n8:Int) (s:Nat) (a:Act):Prop where
 size:a.tmps.size=35
 s0:a.tmps.getD 0 undef = .func (.yield l) #[] #[]
 s1:a.tmps.getD 1 undef=v0
 s8:a.tmps.getD 8 undef = .int .i64 n8
 s9:a.tmps.getD 9 undef = .int .i64 (s:Int)
 df:a.defers=[]
abbrev cxF(F:Nat→Prop):Cx:={ ι:=fun _=>none,κ:=fun _=>0,F:=F,R:=[] }
theorem bEt{P:Program}{F:Nat→Prop}{W:World}(hF:∀ b,F b→b<W.heap.size):aO P (cxF F) [] W :=
 ⟨fun _ _ _ _ h=>by simp at h,fun _ _ _ h=>by simp at h,fun _ _ _ h=>by simp at h,fun _ _ _ _ _ h=>by simp at h,fun _ _ _ h=>by simp at h,hF,fun _ _ _ h=>by simp at h⟩
theorem aSo{C:Cx}{M:Mem}{w:World}{n:Int}{u:Value}(h:Rep C M w (.p (aA n)) u):u = .int .i64 n:=by
 cases h with
 | p _ _ h=>cases h;rfl
theorem Lp.ink{F:Nat→Prop}{l:Nat}{v0:Value}{q:List Int}{n8:Int}{s:Nat}{a:Act}{W:World}(h:Lp l v0 n8 s a)(hF:∀ b,F b→b<W.heap.size)(hr:Rep (cxF F) [] W (.rp [aE q] 0) v0):InK (cxF F) W v0 (stA l q n8 s) a W:=by
 refine ⟨⟨cxF F,aSq h.size ?_,bEt hF,Fr.refl _ _ _,?_⟩,h.s1,h.df⟩
 ·intro p hp
  simp only [gK,List.not_mem_nil,or_false] at hp
  rcases hp with rfl | rfl | rfl | rfl
  ·rw [h.s0];exact .yld l
  ·rw [h.s1];exact hr
  ·rw [h.s8];exact .p _ _ (.v _)
  ·rw [h.s9];exact .p _ _ (.v _)
 ·rw [h.df];exact .nil rfl (pG rfl)
theorem InK.lp{Cv:Cx}{V W:World}{l:Nat}{v0:Value}{n8:Int}{s:Nat}{a:Act}{st:St}(h:InK Cv V v0 st a W)(Wr:st.t.length=35)(e0:st.t[0]? = some (.yld l))(e8:st.t[8]? = some (.p (aA n8)))(e9:st.t[9]? = some (.p (aA (s:Int)))):Lp l v0 n8 s a:=by
 obtain ⟨⟨C,hS,_⟩,h1,hd⟩:=h;refine ⟨hS.size.trans Wr,?_,h1,aSo (hS.at e8),aSo (hS.at e9),hd⟩
 have:=hS.at e0
 revert this;generalize a.tmps.getD 0 undef=u;intro this;cases this;rfl
theorem bTx{C0 C:Cx}{V W:World}{M:Mem}(h:Fr C0 [] V C M W):V.grownBy W none :=
 ⟨h.os,h.tape,h.out,h.size,fun k hk _=>h.keep k hk (fun _ _ h=>by simp at h)⟩
theorem InK.grown{Cv:Cx}{V W:World}{v0:Value}{st:St}{a:Act}(h:InK Cv V v0 st a W):V.grownBy W none:=by
 obtain ⟨⟨C,_,_,hF,_⟩,_⟩:=h;exact bTx hF
theorem InK.kp{Cv:Cx}{V W:World}{v0:Value}{st:St}{a:Act}(h:InK Cv V v0 st a W){F:Nat→Prop}(hF:∀ b,F b→b<V.heap.size):KpG F V W :=
 ⟨h.grown.size,fun b hb=>pW h.grown b (hF b hb)⟩
theorem InK.rowH{F:Nat→Prop}{V W:World}{v0:Value}{st:St}{a:Act}{o:List Int}(h:InK (cxF F) V v0 st a W)(e4:st.t[4]? = some (.own 0))(em:st.m=[some (mM o)])(hl:o.length≤1000):bUb Tp (o,a.tmps.getD 4 undef) V W:=by
 obtain ⟨⟨C,hS,hM,hF,_⟩,_⟩:=h;refine ⟨hl,C,em ▸ hM,em ▸ hS.at e4,fun b hb => ?_⟩
 rcases hF.new 0 (mM o) b (by rw [em];rfl) rfl hb with h | ⟨i,o',h,_⟩
 ·exact h
 ·simp at h
theorem bEu{n:Nat}(h:n≤1152921504606846977):inR (n:Int):=by unfold inR;omega
theorem bTy{n:Nat}(h:n≤60):(2:Nat) ^ n≤1152921504606846976:=gL (Nat.pow_le_pow_right (by omega) h) (by decide)
theorem bMj(q:List Int)(s:Nat)(h:s<2 ^ q.length):(kL q).take (s+1)=(kL q).take s++[fK q s q.length]:=by
 rw [List.take_add_one]
 congr 1
 unfold kL;rw [jU,bRc h];rfl
theorem yL(q:List Int):(kL q).length=2 ^ q.length:=by unfold kL;simp
set_option maxHeartbeats 2000000 in
theorem bMk{F:Nat→Prop}{q:List Int}(hq:q.length≤60){l:Nat}{v0:Value}{w:World}(hF:∀ b,F b→b<w.heap.size)(hr:Rep (cxF F) [] w (.rp [aE q] 0) v0){a:Act}(ha:a.tmps.size=35)(Ws:a.tmps.getD 0 undef = .func (.yield l) #[] #[])(Nv:a.tmps.getD 1 undef=v0)(had:a.defers=[])
  {J Jx:List (List Int × Value)→World→Prop} (hJ:AbidesFrom w.heap.size J) (hJx:AbidesFrom w.heap.size Jx)
  (hY:∀ pre x W0 W1,J pre W0→W0.grownBy W1 none→bUb Tp x W0 W1→pre.length<2 ^ q.length→YieldAt (Fen none) 1 Tp l #[x.2] W1 fun e W' =>
   (e = .returned (.bool true)∧J (pre++[x]) W'∧KpG F W0 W')∨(e = .returned (.bool false)∧Jx (pre++[x]) W'))
  (h0:J [] w) {R:Ending→World→Prop} (hR:∀ W',((∃ xs:List (List Int × Value),xs.map (·.1)=kL q∧J xs W')∨(∃ pre:List (List Int × Value),pre.map (·.1) <+: kL q∧Jx pre W'))→R (.returned (.tuple #[])) W') :
  cO.wpIn (Fen none) 2 Tp (bodyPost Tp Tryz.f181 R) a w:=by
 have hpow:=bTy hq;obtain ⟨N,hN⟩:∃ N,2 ^ q.length=N:=⟨_,rfl⟩;rw [hN] at hpow
 have c0 : cO = .seq (sub cO [0]) (.block 0 (.loop (.seq (sub cO [1, 0, 0, 0]) (.seq (.cond (.tmp 10) .skip (.exit 0)) (.seq (.block 1 (.seq (sub cO [1, 0, 0, 1, 1, 0, 0, 0]) (.seq (sub cO [1, 0, 0, 1, 1, 0, 0, 1, 0]) (.seq (.seq (sub cO [1, 0, 0, 1, 1, 0, 0, 1, 1, 0, 0]) (.block 2 (.loop (sub cO [1, 0, 0, 1, 1, 0, 0, 1, 1, 0, 1, 0, 0])))) (.seq (.region 10 #[{ dst := some 30, op := .move (.tmp 0), type := 189, pos := "outcome.go:38", after := #[], guard := none }, { dst := some 31, op := .move (.tmp 4), type := 31, pos := "outcome.go:38", after := #[], guard := none }, { dst := some 32, op := .call { callee := .value (.tmp 30), args := #[.tmp 31], argTypes := #[31] }, type := 4, pos := "outcome.go:38", after := #[{ on := 0, ground := .data }, { on := 1, ground := .data }], guard := none }, { dst := some 33, op := .unOp .not 4 (.tmp 32), type := 4, pos := "outcome.go:38", after := #[{ on := 2, ground := .data }], guard := none }] false) (.cond (.tmp 33) .ret .skip)))))) (sub cO [1, 0, 0, 1, 1, 1])))))) := by kernel_rfl
 rw [c0];have hsame:∀ {W'},KpG F w W'→Rep (cxF F) [] W' (.rp [aE q] 0) v0:=fun hk=>by
  cases hr with
  | rp _ _ b o us h1 h2 h3 =>
   exact .rp _ _ b o us (fun i hi=>⟨(h1 i hi).1,(eG (hk.same b (h1 i hi).1) _).trans (h1 i hi).2⟩) (fun i hi=>(h2 i hi).mono (fun _ h=>h) hk.same) h3
 have hFw:∀ {W'},KpG F w W'→∀ b,F b→b<W'.heap.size:=fun hk b hb=>fU (hF b hb) hk.size
 have Um:(1:Int)*2 ^ ((q.length:Int).toNat)=(N:Int):=by
  rw [aHy,Int.one_mul,← hN];push_cast;rfl
 have S3:InK (cxF F) w v0 ⟨fr 35 [(0,.yld l),(1,.rp [aE q] 0)],[]⟩ a w:=by
  refine ⟨⟨cxF F,aSq ha ?_,bEt hF,Fr.refl _ _ _,by rw [had];exact .nil rfl (pG rfl)⟩,Nv,had⟩
  intro p hp;simp only [gK,List.not_mem_nil,or_false] at hp
  rcases hp with rfl | rfl
  ·rw [Ws];exact .yld l
  ·rw [Nv];exact hr
 refine wpIn_seq ?_;refine InK.step (cAw (l:=l) (q:=q) ⟨by omega,by omega,rfl⟩ (by rw [Um];exact bEu (by omega))) (by kernel_rfl) S3 fun a1 w1 h1 => ?_
 rw [Um] at h1
 refine wpIn_block ?_;refine wpIn_loop_ghost (fun k a W=>∃ s,s≤N∧k=N-s∧Lp l v0 (N:Int) s a∧KpG F w W∧∃ pre:List (List Int × Value),pre.map (·.1)=(kL q).take s∧J pre W) (N)
  ⟨0,by omega,by omega,h1.lp (s:=0) (by rfl) (by rfl) (by rfl) (by rfl),h1.kp hF,[],by simp,hJ [] w w1 none h0 h1.grown (fun r e=>by cases e)⟩ ?_
 rintro k a W ⟨s,hs,rfl,hL,hK,pre,hpre,hJp⟩;have hI:=hL.ink (hFw hK) (hsame hK);have grow:∀ {W0 W':World} {ys},KpG F w W0→J ys W0→W0.grownBy W' none→J ys W':=fun hk hj hg=>hJ _ _ _ none hj hg (fun r e=>by cases e)
 refine wpIn_seq ?_;refine InK.step cAx (by kernel_rfl) hI fun a2 w2 h2 => ?_
 have P3:a2.eval (.tmp 10) = .bool (decide ((s:Int)<(N:Int))):=by
  obtain ⟨⟨C2,Wt,_⟩,_⟩:=id h2;have:=wN Wt 10 (by omega)
  show a2.tmps.getD 10 undef=_;revert this;generalize a2.tmps.getD 10 undef=u;intro this;have h3:Rep C2 _ w2 (.p (.v (.bool (decide ((s:Int)<(N:Int)))))) u:=this;cases h3 with
  | p _ _ h=>cases h;rfl
 refine wpIn_seq ?_
 by_cases hlt:s<N
 ·refine wpIn_cond_true (by rw [P3,decide_eq_true (by omega)]) (wpIn_skip ?_)
  show Code.wpIn _ _ _ _ _ _ _;have F6:InK (cxF F) W v0 (stA l q (N:Int) s) a2 w2:=⟨(fD (g:=⟨[10],[],[],[]⟩) (k:=0) (dG _) (by kernel_rfl) h2.1),h2.2⟩
  refine wpIn_seq ?_;refine wpIn_block ?_;refine wpIn_seq ?_;refine InK.step cAy (by kernel_rfl) F6 fun a3 w3 h3 => ?_
  refine wpIn_seq ?_;refine InK.step cAz (by kernel_rfl) h3 fun a4 w4 h4 => ?_
  refine wpIn_seq ?_;refine wpIn_seq ?_;refine InK.step cBa (by kernel_rfl) h4 fun a5 w5 h5 => ?_
  refine bTz hq (by omega) h5 fun a6 w6 h6 => ?_
  refine wpIn_seq ?_;have Mb:Lp l v0 (N:Int) s a6:=h6.lp (s:=s) (by rfl) (by rfl) (by rfl) (by rfl)
  have hpl:pre.length=s:=by
   have:=congrArg List.length hpre;rw [B9,jV,yL,hN] at this
   omega
  have hrow:bUb Tp (fK q s q.length,a6.tmps.getD 4 undef) W w6:=h6.rowH (by rfl) (by rfl) (gL (aSr q s q.length) (by omega))
  have hmap:(pre++[(fK q s q.length,a6.tmps.getD 4 undef)]).map (·.1)=(kL q).take (s+1):=by
   rw [bMj q s (hN ▸ hlt),iV,hpre];rfl
  refine aOe Mb.size Mb.s0 rfl (hY pre _ W w6 hJp h6.grown hrow (by omega)) (A:=fun W'=>J (pre++[(fK q s q.length,a6.tmps.getD 4 undef)]) W'∧KpG F W W') (B:=fun W'=>Jx (pre++[(fK q s q.length,a6.tmps.getD 4 undef)]) W') ?_ ?_
  ·rintro a7 w7 ⟨S4,Wu⟩ S5 Sj Mv S6
   refine wpIn_cond_false S6 (wpIn_skip ?_);show Code.wpIn _ _ _ _ _ _ _;have Wv:Lp l v0 (N:Int) s a7:=⟨Sj,(Mv 0 (by omega)).trans Mb.s0,(Mv 1 (by omega)).trans Mb.s1,(Mv 8 (by omega)).trans Mb.s8,(Mv 9 (by omega)).trans Mb.s9,S5.trans Mb.df⟩
   have P4:=hK.trans Wu;refine InK.step (cBg (bEu (by omega))) (by kernel_rfl) (Wv.ink (hFw P4) (hsame P4)) fun a8 w8 h8 => ?_
   exact ⟨N-(s+1),by omega,s+1,by omega,rfl,h8.lp (by rfl) (by rfl) (by rfl) (by rfl),P4.trans (h8.kp (hFw P4)),_,hmap,grow P4 S4 h8.grown⟩
  ·rintro a7 w7 S4 S5 S6
   refine wpIn_cond_true S6 (wpIn_ret ?_);exact bodyPost_ret (results_none rfl _ _ _) (S5.trans Mb.df) (hR _ (.inr ⟨_,by rw [hmap];exact List.take_prefix _ _,S4⟩))
 ·have hsN:s=N:=by omega
  subst hsN;refine wpIn_cond_false (by rw [P3,decide_eq_false (by omega)]) (wpIn_exit ?_)
  have Eu:Lp l v0 (s:Int) s a2:=h2.lp (by rfl) (by rfl) (by rfl) (by rfl)
  show Exit.inBlock 0 (bodyPost Tp Tryz.f181 R) (.exit 0) a2 w2;unfold Exit.inBlock;dsimp only;rw [if_pos rfl];refine ⟨Eu.df,_,results_none rfl _ _ _,hR _ (.inl ⟨pre,?_,grow hK hJp h2.grown⟩)⟩;rw [hpre,← hN,← yL,List.take_length]
theorem cMp{C:Cx}{M:Mem}{w:World}{cs:List PV}{k:Nat}{u:Value}(h:Rep C M w (.rp cs k) u):Rep (cxF C.F) [] w (.rp cs k) u:=by
 cases h with
 | rp _ _ b o us h1 h2 h3=>exact .rp _ _ b o us h1 h2 h3
theorem cMq{F:Nat→Prop}{w W:World}{cs:List PV}{k:Nat}{u:Value}(h:Rep (cxF F) [] w (.rp cs k) u)(hk:KpG F w W):Rep (cxF F) [] W (.rp cs k) u:=by
 cases h with
 | rp _ _ b o us h1 h2 h3=>exact .rp _ _ b o us (fun i hi=>⟨(h1 i hi).1,(eG (hk.same b (h1 i hi).1) _).trans (h1 i hi).2⟩) (fun i hi=>(h2 i hi).mono (fun _ h=>h) hk.same) h3
theorem bMl(y v0:Value)(k:Nat):(#[y] ++ #[v0]++Array.replicate k undef).size=2+k∧(#[y] ++ #[v0]++Array.replicate k undef).getD 0 undef=y∧(#[y] ++ #[v0]++Array.replicate k undef).getD 1 undef=v0:=by
 refine ⟨by simp,?_,?_⟩ <;> simp [Bn,Array.getElem?_append]
theorem bMm(q:List Int)(hq:q.length≤60):cEb Tp (.fn 181 [] [.rp [aE q] 0]) 181 (2 ^ q.length) (kL q):=fun C M w u O5 hFs=>by
 cases O5 with
 | fn _ _ _ us vs h1 h2 h3 h4 =>
  obtain rfl:us = #[]:=by simpa using h1
  have q0:=h4 0 (by simp)
  simp only [List.getElem_cons_zero] at q0
  obtain ⟨v0,rfl⟩:∃ v0,vs = #[v0]:=by
   have:vs.toList.length=1:=by simpa using h2
   match hv:vs.toList,this with
   | [x0],_=>exact ⟨x0,by rw [← hv]⟩
  change Rep C M w (.rp [aE q] 0) v0 at q0
  have hr:=cMp q0;refine ⟨#[v0],rfl,fun l J Jx W hW hJ hJx hY h0 => ?_⟩
  have hk:KpG C.F w W:=⟨hW.size,fun b hb=>hW.block b (hFs b hb)⟩
  have Ha:=cMq hr hk;refine callsIn_of_wp func181 rfl trivial ?_ rfl;obtain ⟨k1,k2,k3⟩:=bMl (.func (.yield l) #[] #[]) v0 (Tryz.f181.ntmps-(#[Value.func (.yield l) #[] #[]] ++ #[v0]).size);exact bMk hq (fun b hb=>fU (hFs b hb) hW.size) Ha (a:={ tmps := #[.func (.yield l) #[] #[]] ++ #[v0]++Array.replicate (Tryz.f181.ntmps-(#[Value.func (.yield l) #[] #[]] ++ #[v0]).size) undef,defers:=[] }) k1 k2 k3 rfl hJ hJx hY h0 fun W' h=>⟨⟨_,rfl⟩,h⟩
end KV
end Go.Proofs
end
namespace Go.Proofs
namespace KV
open Tryz
section
variable {Bz:Bool}{dl tm bib Ad:Int}{dc sk:Lqq}{c l:List Int}{i j i' j' Aw base:Nat}
variable {dl:Int}{sk dc:Lqq}

noncomputable abbrev aFv:Code:=sub (cd Tryz.f163) [1,0,1,0,0]
noncomputable abbrev aOd:Code:=sub (cd Tryz.f137) [1,1,1,0,1,0,0]
theorem cIs{q:List Int}:FV Tp 136 [(.p (aE q))] base (.fn 181 [] [(.rp [(aE q)] 0)]) []:=FV.fi func136 [.g 3 ⟨[],[],[0],[]⟩] gn
abbrev cNi(dl:Int)(sk dc:Lqq)(x:List Int)(r:Int):Prop:=∀ base:Nat,FV Tp 134 [sX dl sk dc,.p (.agg (x.map aA))] base (pI r) []
theorem cIt{n y0 y1 y2 y3 y4 y5 r6:Int}{r0:Bool}(h0:cG .i64 (atF dc.reverse) (.int .i64 n))(h1:(dU (atF dc.reverse) (.int .i64 n))=true)(h2:gP (atF dc.reverse) (.int .i64 n)=some (dcE y0 y1 y2 y3 y4 y5))(h3:cNi dl sk dc [y0,y1,y2,y3,y4,y5] r6)(Aq:r0=(r6 != bib)):FV Tp 158 [(pI n),(.rp [(PV.rp (cC dl sk dc) 0)] 0),(.rp [(aA bib),(aA tm)] 0)] base (pB r0) []:=by
 subst Aq;exact FV.fi func158 [.x (PV.rp (cC dl sk dc) 0),.x (PV.rp (cC dl sk dc) 0),.x (.mp (atF dc.reverse)),bT,.x (dcE y0 y1 y2 y3 y4 y5),.c (pI r6) [],.x (aA bib)] (gr (aA bib) (gc (fk 0 (h3 _) rfl) (gc h2 (gc h1 (gc h0 (gr (.mp (atF dc.reverse)) (gr (PV.rp (cC dl sk dc) 0) (gr (PV.rp (cC dl sk dc) 0) gn))))))))
abbrev bTw(dl:Int)(sk dc:Lqq):PV := .rp (cC dl sk dc) 0
abbrev aZq(dl:Int)(sk dc:Lqq)(bib tm n:Int)(b:Bool):Prop:=∀ base:Nat,FV Tp 158 [.p (aA n),.rp [bTw dl sk dc] 0,.rp [aA bib,aA tm] 0] base (pB b) []
def iI(l:List Int)(dl:Int)(sk dc:Lqq)(bib tm:Int)(i:Nat):St:=⟨fr 19 [(0,(.own 0)),(1,(.fn 158 [] [(.rp [(PV.rp (cC dl sk dc) 0)] 0),(.rp [(aA bib),(aA tm)] 0)])),(7,(pI (l.length:Int))),(8,(pI (i:Int)))],[some (.row 3 l.length (l.map aA))]⟩
theorem cAs(hl0:aF Tp 1 aFv (iI l dl sk dc bib tm 0) (.exit 0) (iI l dl sk dc bib tm Aw)):FMM Tp 163 [(.own 0),(.fn 158 [] [(.rp [(PV.rp (cC dl sk dc) 0)] 0),(.rp [(aA bib),(aA tm)] 0)])] [some (.row 3 l.length (l.map aA))] (pI (-1)) [some (.row 3 l.length (l.map aA))]:=FMM.fi 1 gE func163 [hl0.k 6 (gZ dq)] (gc hl0.code gn)
theorem cAt(hl0:aF Tp 1 aFv (iI l dl sk dc bib tm 0) .ret (cD (iI l dl sk dc bib tm Aw) [(4,(pI (Aw:Int)))])):FMM Tp 163 [(.own 0),(.fn 158 [] [(.rp [(PV.rp (cC dl sk dc) 0)] 0),(.rp [(aA bib),(aA tm)] 0)])] [some (.row 3 l.length (l.map aA))] (pI (Aw:Int)) [some (.row 3 l.length (l.map aA))]:=FMM.fi 1 gE func163 [hl0.k 6 (gZ dq)] (gc hl0.code gn)
section
variable(h0:(i:Int)<(l.length:Int))(h1:l[i]? = some Ad)(h2:aZq dl sk dc bib tm Ad Bz)
include h0 h1 h2
theorem aZr(h3:Bz=true):aB Tp 1 aFv (iI l dl sk dc bib tm i) .ret (cD (iI l dl sk dc bib tm i) [(4,(pI (i:Int)))]):=aB.fi (gZ db) [bT,.x (aA Ad),.c (pB Bz) [],bT] (gc h3 (gc (fk 1 (h2 _) rfl) (gc (atm aA h1) (gc (aX (i:=(i:Int)) (C7 _) h1) (g0 h0)))))
theorem aZs(h3:Bz=false)(h4:dv i)(Ak:i'=(i+1)):aB Tp 1 aFv (iI l dl sk dc bib tm i) .normal (iI l dl sk dc bib tm i'):=by
 subst Ak;exact aB.fi (gZ dq) [bT,.x (aA Ad),.c (pB Bz) [],bF] (gc h4 (gc h3 (gc (fk 1 (h2 _) rfl) (gc (atm aA h1) (gc (aX (i:=(i:Int)) (C7 _) h1) (g0 h0))))))
end
theorem aZt(h0:(l.length:Int)≤(i:Int)):aB Tp 1 aFv (iI l dl sk dc bib tm i) (.exit 0) (iI l dl sk dc bib tm i):=aB.fi (gZ dq) [bF] (gc (aQ h0) gn)
abbrev cAu(l:List Int)(dl:Int)(sk dc:Lqq)(bib tm i:Int):Prop:=FMM Tp 163 [.own 0,(.fn 158 [] [(.rp [(PV.rp (cC dl sk dc) 0)] 0),(.rp [(aA bib),(aA tm)] 0)])] [some (.row 3 l.length (l.map aA))] (pI i) [some (.row 3 l.length (l.map aA))]
def oS(dl:Int)(sk dc:Lqq)(bib tm:Int)(cn:Nat)(cc:List PV)(i j:Nat):St:=⟨fr 42 [(0,(.own 0)),(1,(.fn 158 [] [(.rp [(PV.rp (cC dl sk dc) 0)] 0),(.rp [(aA bib),(aA tm)] 0)])),(4,(.p cR)),(5,(pI (i:Int))),(6,(pI (j:Int)))],[some (.row 3 cn cc)]⟩
theorem cIu{i0:Nat}{Dq:List Int}{Cp P2:Nat}{Fa:List PV}(h0:cAu l dl sk dc bib tm (i0:Int))(h1:(i0:Int)≠(-1:Int))(h2:dv i0)(B6:aF Tp 1 aOd (oS dl sk dc bib tm l.length (l.map aA) i0 (i0+1)) (.exit 0) (oS dl sk dc bib tm Dq.length (Dq.map aA) Cp P2))(h4:0≤(Cp:Int)∧(Cp:Int)≤(Dq.length:Int)∧(Dq.length:Int)≤(Dq.length:Int))(h5:(Cp*1)+(Dq.length-Cp)≤(Dq.map aA).length)(h6:0≤(0:Int)∧(0:Int)≤(Cp:Int)∧(Cp:Int)≤(Dq.length:Int))(El:Fa=((((Dq.map aA).take (Cp*1)++List.replicate (Dq.length-Cp) (PV.v (.int .i64 0))++(Dq.map aA).drop ((Cp*1)+(List.replicate (Dq.length-Cp) (PV.v (.int .i64 0))).length)).drop 0).take (Cp*(((Dq.map aA).take (Cp*1)++List.replicate (Dq.length-Cp) (PV.v (.int .i64 0))++(Dq.map aA).drop ((Cp*1)+(List.replicate (Dq.length-Cp) (PV.v (.int .i64 0))).length)).length / Dq.length)))):FMM Tp 137 [(.own 0),(.fn 158 [] [(.rp [(PV.rp (cC dl sk dc) 0)] 0),(.rp [(aA bib),(aA tm)] 0)])] [some (.row 3 l.length (l.map aA))] (.p (.sl Cp Fa)) [some .dead]:=by
 subst El;have k1:=mq [0] 1 h0;exact FMM.fi 1 ⟨[],[],[0],[]⟩ func137 [k1.o,bF,B6.k 4 (gZ dt)] (gc h6 (gc h5 (gc h4 (gc B6.code (gc h2 (gc (bE h1) (gc k1 gn)))))))
theorem cIv(h0:cAu l dl sk dc bib tm (-1)):FMM Tp 137 [(.own 0),(.fn 158 [] [(.rp [(PV.rp (cC dl sk dc) 0)] 0),(.rp [(aA bib),(aA tm)] 0)])] [some (.row 3 l.length (l.map aA))] (.p (aE l)) [some .dead]:=have k1:=mq [0] 1 h0;FMM.fi 1 ⟨[],[],[0],[]⟩ func137 [k1.o,bT] (gt (((-1:Int) == (-1))=true) (by first | decide | simp) (gc k1 gn))
section
variable(h0:(j:Int)<(c.length:Int))(h1:c[j]? = some Ad)(h2:aZq dl sk dc bib tm Ad Bz)
include h0 h1 h2
theorem bMg{Ci:Int}{c':List Int}(h3:Bz=false)(h4:c[i]? = some Ci)(h5:(i*1)<(c.map aA).length)(h6:dv i)(h7:dv j)(Nb:c'.length=c.length)(Nc:c'.map aA=((c.map aA).set (i*1) (aA Ad)))(Ak:i'=(i+1))(Du:j'=(j+1)):aB Tp 1 aOd (oS dl sk dc bib tm c.length (c.map aA) i j) .normal (oS dl sk dc bib tm c'.length (c'.map aA) i' j'):=by
 subst Ak Du;rw [Nb,Nc];exact aB.fi (gZ dt) [bT,.x (aA Ad),.c (pB Bz) [],bT] (gc h7 (gc h6 (gc h5 (gc (aX (i:=(i:Int)) (C7 _) h4) (gc (cA h3) (gc (fk 1 (h2 _) rfl) (gc (atm aA h1) (gc (aX (i:=(j:Int)) (C7 _) h1) (g0 h0)))))))))
theorem bMh(h3:Bz=true)(h4:dv j)(Du:j'=(j+1)):aB Tp 1 aOd (oS dl sk dc bib tm c.length (c.map aA) i j) .normal (oS dl sk dc bib tm c.length (c.map aA) i j'):=by
 subst Du;exact aB.fi (gZ dt) [bT,.x (aA Ad),.c (pB Bz) [],bF] (gc h4 (gc (aL h3) (gc (fk 1 (h2 _) rfl) (gc (atm aA h1) (gc (aX (i:=(j:Int)) (C7 _) h1) (g0 h0))))))
end
theorem bMi(h0:(c.length:Int)≤(j:Int)):aB Tp 1 aOd (oS dl sk dc bib tm c.length (c.map aA) i j) (.exit 0) (oS dl sk dc bib tm c.length (c.map aA) i j):=aB.fi (gZ dt) [bF] (gc (aQ h0) gn)
end
section
structure aIh (p:Int→Bool) (l:List Int) (j:Nat) (x:List Int × Nat):Prop where
 len:x.1.length=l.length
 le:x.2<j
 kept:x.1.take x.2=(l.take j).filter fun n => !p n
 rest:x.1.drop j=l.drop j
theorem aIh.skip{p:Int→Bool}{l:List Int}{j:Nat}{x:List Int × Nat}(h:aIh p l j x)(hj:j<l.length){n:Int}(hn:x.1[j]? = some n)(hp:p n=true):aIh p l (j+1) x:=by
 have hl:l[j]? = some n:=by
  have:=congrArg (·[0]?) h.rest
  simp only [List.getElem?_drop,Nat.add_zero] at this
  rw [← this];exact hn
 refine ⟨h.len,by have:=h.le;omega,?_,?_⟩
 ·rw [h.kept,List.take_add_one,hl]
  simp [oJ,hp]
 ·rw [← List.drop_drop,h.rest,List.drop_drop]
theorem aIh.keep{p:Int→Bool}{l:List Int}{j:Nat}{x:List Int × Nat}(h:aIh p l j x)(hj:j<l.length){n:Int}(hn:x.1[j]? = some n)(hp:p n=false):aIh p l (j+1) (x.1.set x.2 n,x.2+1):=by
 have hl:l[j]? = some n:=by
  have:=congrArg (·[0]?) h.rest
  simp only [List.getElem?_drop,Nat.add_zero] at this
  rw [← this];exact hn
 have hle:=h.le;have hlen:=h.len;refine ⟨by simp [h.len],by simpa using hle,?_,?_⟩
 ·show (x.1.set x.2 n).take (x.2+1)=_
  rw [List.take_add_one,List.take_set_of_le (dG _),h.kept,List.getElem?_set_self (by omega),List.take_add_one,hl]
  simp [oJ,hp]
 ·show (x.1.set x.2 n).drop (j+1)=_
  rw [List.drop_set_of_lt (by omega),← List.drop_drop,h.rest,List.drop_drop]
theorem aIh.start{p:Int→Bool}{l:List Int}{i:Nat}{n:Int}(hi:l[i]? = some n)(hp:p n=true)(hb:∀ m∈l.take i,p m=false):aIh p l (i+1) (l,i):=by
 refine ⟨rfl,Nat.lt_succ_self _,?_,rfl⟩;show l.take i=_;rw [List.take_add_one,hi];simp only [oJ];rw [List.filter_eq_self.2 fun m hm=>by simp [hb m hm]]
 simp [hp]
theorem aSn{p:Int→Bool}{l:List Int}{i:Nat}(h:l.findIdx? p=some i):∀ m∈l.take i,p m=false:=fun m hm=>by
 obtain ⟨hi,h1,h2⟩:=List.findIdx?_eq_some_iff_getElem.1 h;obtain ⟨j,hj,rfl⟩:=List.getElem_of_mem hm;rw [List.getElem_take];rw [jV] at hj
 have:=h2 j (by omega)
 simpa using this

theorem cAr{l:List Int}{dl:Int}{sk dc:Lqq}{bib tm:Int}(hl:l.length≤1000){p:Int→Bool}(hp:∀ n∈l,aZq dl sk dc bib tm n (p n)) :
  (∃ i n,l[i]? = some n∧l.findIdx? p=some i∧p n=true∧cAu l dl sk dc bib tm (i:Int))∨(l.any p=false∧cAu l dl sk dc bib tm (-1)):=by
 rcases aF.find (P:=Tp) (k:=1) (b:=(sub (cd Tryz.f163) dh)) (fun i=>iI l dl sk dc bib tm i) (fun i _=>cD (iI l dl sk dc bib tm i) [(4,.p (aA (i:Int)))]) (iI l dl sk dc bib tm l.length) .ret (.exit 0) (by simp) (by simp) p l
  (fun i x hx hq=>aZs (by have:=aT hx;omega) hx (hp x (Bp hx)) hq (aI (by have:=aT hx;omega)) rfl)
  (fun i x hx hq=>aZr (by have:=aT hx;omega) hx (hp x (Bp hx)) hq)
  (aZt (by omega)) with ⟨i,x,h1,h2,h3,h4⟩ | ⟨h1,h2,h3⟩
 ·exact .inl ⟨i,x,h1,h2,h3,cAt h4⟩
 ·exact .inr ⟨h2,cAs h3⟩
theorem cIr{l:List Int}{dl:Int}{sk dc:Lqq}{bib tm:Int}(hl:l.length≤1000){p:Int→Bool}(hp:∀ n∈l,aZq dl sk dc bib tm n (p n)) :
  FMM Tp 137 [.own 0,.fn 158 [] [.rp [bTw dl sk dc] 0,.rp [aA bib,aA tm] 0]] [some (.row 3 l.length (l.map aA))] (.p (aE (l.filter fun n => !p n))) [some .dead]:=by
 rcases cAr hl hp with ⟨i,n,h1,h2,h3,h4⟩ | ⟨h1,h2⟩
 ·have hi:=aT h1
  obtain ⟨d,hm⟩:∃ d,i+1+d=l.length:=⟨l.length-(i+1),by omega⟩
  obtain ⟨⟨c,k⟩,hI,hL⟩:=aF.ex (P:=Tp) (k:=1) (b:=(sub (cd Tryz.f137) ct)) (e := .exit 0) (fun j (x:List Int × Nat)=>oS dl sk dc bib tm x.1.length (x.1.map aA) x.2 (i+1+j)) (fun x=>oS dl sk dc bib tm x.1.length (x.1.map aA) x.2 l.length) (fun j x=>aIh p l (i+1+j) x∧∀ n∈x.1,n∈l) (by simp) d
   (fun j x hj hx=>by
    obtain ⟨hI,hs⟩:=hx;have hlt:i+1+j<x.1.length:=by rw [hI.len];omega
    have hle:=hI.le;have hlen:=hI.len;obtain ⟨y,hy⟩:∃ y,x.1[i+1+j]? = some y:=⟨_,Av hlt⟩;have hyl:=hs y (Bp hy);cases hq:p y with
    | true=>exact ⟨x,⟨hI.skip (by omega) hy hq,hs⟩,bMh (by omega) hy (hp y hyl) hq (aI (by omega)) rfl⟩
    | false =>
     obtain ⟨z,hz⟩:∃ z,x.1[x.2]? = some z:=⟨_,Av (by omega)⟩
     refine ⟨_,⟨hI.keep (by omega) hy hq,fun n hn => ?_⟩,bMg (c:=x.1) (c':=x.1.set x.2 y) (by omega) hy (hp y hyl) hq hz (by rw [B9];omega) (aI (by omega)) (aI (by omega)) (by simp) (by rw [List.map_set,Nat.mul_one]) rfl rfl⟩
     rcases List.mem_or_eq_of_mem_set hn with h | rfl
     ·exact hs n h
     ·exact hyl)
   (fun x hx=>by
    have:=bMi (dl:=dl) (sk:=sk) (dc:=dc) (bib:=bib) (tm:=tm) (c:=x.1) (i:=x.2) (j:=l.length) (by rw [hx.1.len];omega)
    rw [show i+1+d=l.length from hm];exact this)
   (acc:=(l,i)) ⟨aIh.start h1 h3 (aSn h2),fun n h=>h⟩
  obtain ⟨hI,_⟩:=hI;have hlen:=hI.len;have hle:=hI.le;have hk:=hI.kept;simp only [hm,List.take_length] at hlen hle hk
  have fin:=cIu (l:=l) (Dq:=c) (Cp:=k) (P2:=l.length) (Fa:=(c.take k).map aA) h4 (by omega) (aI (by omega)) hL ⟨by omega,by omega,by omega⟩ (by rw [B9];omega) ⟨by omega,by omega,by omega⟩ (by
   rw [List.drop_zero,Nat.mul_one,List.length_replicate];have Eu:(((c.map aA).take k)++List.replicate (c.length-k) (PV.v (.int .i64 0))++(c.map aA).drop (k+(c.length-k))).length=c.length:=by
    simp only [jT,jV,B9,List.length_replicate,bHq];omega
   rw [Eu,Nat.div_self (by omega),Nat.mul_one,List.append_assoc,List.take_append_of_le_length (by rw [jV,B9];omega),List.take_take,Nat.min_self,List.map_take])
  rw [← hk];have e:aE (c.take k) = .sl k ((c.take k).map aA):=by
   show PV.sl (c.take k).length _=_;rw [jV,Nat.min_eq_left (by omega)]
  rw [e];exact fin
 ·have:(l.filter fun n => !p n)=l:=List.filter_eq_self.2 fun n hn=>by
   have:=List.any_eq_false.1 h1 n hn;simpa using this
  rw [this];exact cIv h2

end
section
open Go.RowKit Go.Lib Go.Shelf
theorem cIq{n:Nat}{x:PV}{r:List PV}{I6:Nat}{Fa:List PV}(h0:(x::r).length=n*1∧0+n≤1000000)(H3:I6=(0+n))(El:Fa=(x::r)){base:Nat}:FV Tp 107 [(.p (.sl n (x::r)))] base (.own base) [(base,(.row 3 I6 Fa))]:=by
 subst H3 El;exact FV.fi func107 [] (gc h0 gn)
set_option maxHeartbeats 1000000 in
theorem cAq(n c:Nat)(w:World):Calls Tp 107 #[.slice none n c] w fun e w'=>e = .returned (.slice none 0 0)∧w'=w:=by
 have Wq:∀ (w:World) (a:Option Addr) (n c n' c':Nat),(binOp .eql 31 (.slice a n c) (.slice none n' c')).run Tp w = .ok (.bool a.isNone) w:=fun w a n c n' c'=>Lib.run_eql_slice_nil w _ _ a n c n' c' Tryz.underlying31
 go_enter func107,Tryz.ntmps107
 go_wp2
 go_ret
 exact ⟨rfl,rfl⟩
theorem S2:(Tryz.prog.info? 3).map (fun i=>(i.zero,i.size,i.bytes))=some (some (.int .i64 0),1,8):=by kernel_rfl
set_option maxHeartbeats 2000000 in
theorem bTu(a:Addr)(c:Nat)(w:World):Calls Tp 107 #[.slice (some a) 0 c] w fun e w'=>∃ v',e = .returned v'∧w'.ownsRow w.heap.size 3 1 v' 0 []∧Below w.heap.size w w':=by
 obtain ⟨i0,hi,N6,Fl,Nn⟩:=info_parts S2;have Wq:∀ (w:World) (a:Option Addr) (n c n' c':Nat),(binOp .eql 31 (.slice a n c) (.slice none n' c')).run Tp w = .ok (.bool a.isNone) w:=fun w a n c n' c'=>Lib.run_eql_slice_nil w _ _ a n c n' c' Tryz.underlying31
 go_enter func107,Tryz.ntmps107
 go_wp2_with (at_builtin;refine wpList_append_own _ rfl _ _ 31 rfl w.heap.size 3 i0 (.int .i64 0) 1 8 Tryz.underlying31 hi N6 Fl Nn rfl (by decide) _ _ _ rfl (World.ownsRow_made w #[] 0 (dG _) (Nat.zero_le _) rfl) a 0 c [] rfl rfl (by intro j u hj;simp at hj) (by intro u hu;cases hu) (by unfold maxLen;omega) (by omega) (by simp) ?_)
 intro v' w1 hown hgrow hnil
 go_wp2
 go_ret
 refine ⟨v',rfl,by simpa using hown,?_⟩
 exact ((Below.refl _ w).alloc (dG _) _).grown hgrow (by simp) (by intro k hk;simp [Value.ownBlock] at hk;omega)
theorem bMf{base:Nat}:FV Tp 107 [.p (.sl 0 [])] base (.own base) [(base,.row 3 0 [])]:=bJg (uI (show (Tryz.prog.info? 3).map (fun i=>i.size)=some 1 by kernel_rfl)) fun p c w=>by
 cases p with
 | none =>
  refine (cAq 0 c w).mono ?_;rintro e w' ⟨rfl,rfl⟩;exact ⟨_,rfl,World.ownsRow_nil _ _ _ _,Below.refl _ _⟩
 | some a=>exact bTu a c w
theorem bTv(l:List Int)(hl:l.length≤1000){base:Nat}:FV Tp 107 [.p (aE l)] base (.own base) [(base,.row 3 l.length (l.map aA))]:=by
 cases l with
 | nil=>exact bMf
 | cons x l=>exact cIq (n:=(x::l).length) (x:=aA x) (r:=l.map aA) ⟨by simp,by simp at hl ⊢;omega⟩ (by simp) rfl
end
section
variable {Fq:Bool}{mn mx Q1 Cm n200 Aa Ab:Int}{T202:Lqb}{x Ch:List Int}{i aln chn La:Nat}
variable {dl:Int}{sk dc:Lqq}

theorem aOa:0≤(1:Int)∧(1:Int)<2:=by first | decide | simp
theorem aOb:0≤(0:Int)∧(0:Int)<2:=by first | decide | simp
abbrev cNh(l:List Int)(dl:Int)(sk dc:Lqq)(bib tm:Int)(o:List Int):Prop:=FMM Tp 137 [.own 0,.fn 158 [] [.rp [bTw dl sk dc] 0,.rp [aA bib,aA tm] 0]] [some (.row 3 l.length (l.map aA))] (.p (aE o)) [some .dead]
def chE(x:Int × Bool × List Int):List PV:=[aA x.1,blP x.2.1,aE x.2.2]
def oR(dl:Int)(sk dc:Lqq)(aln:Nat)(alc:List PV)(i:Nat):St:=⟨fr 77 [(1,(.rp [(PV.rp (cC dl sk dc) 0)] 0)),(2,(.p cR)),(3,(pI 0)),(4,(.p (aE (cP dl dc)))),(5,(.own 0)),(22,(.p (fS sk))),(23,(pI (sk.length:Int))),(24,(pI (i:Int)))],[some (.row 232 aln alc)]⟩
theorem cIp{L9:Nat}{Ma:List PV}{Hv:Nat}(h0:bZ dc)(h1:((cP dl dc).length:Int)≤8)(hl2:aF Tp 0 (sub (cd Tryz.f91) cj) (oR dl sk dc 0 [] 0) (.exit 0) (oR dl sk dc L9 Ma Hv)){base:Nat}:FV Tp 91 [(.rp (cC dl sk dc) 0)] base (.tup [(.own base),(pI 0)]) [(base,(.row 232 L9 Ma))]:=have k1:=fk 0 (aYn (dl:=dl) (sk:=sk) (dc:=dc) h0) rfl;FV.fi func91 [.g 3 ⟨[],[],[0],[]⟩,.x (PV.rp (cC dl sk dc) 0),k1.o,.g 2 ⟨[],[],[0],[]⟩,bF,.x (PV.rp (cC dl sk dc) 0),.x (fS sk),hl2.k 1 (gN [0,1,6,16,25,51] [0] [(5,232)])] (gc hl2.code (gr (fS sk) (gr (PV.rp (cC dl sk dc) 0) (gc (aQ h1) (gc k1 (gr (PV.rp (cC dl sk dc) 0) gn))))))
def aOc(dl:Int)(sk dc:Lqq)(aln:Nat)(alc:List PV)(i:Nat)(Aa Ab:Int)(Ch:List Int)(chn:Nat)(chc:List PV)(mn mx:Int):St:=⟨fr 77 [(1,(.rp [(PV.rp (cC dl sk dc) 0)] 0)),(2,(.p cR)),(3,(pI 0)),(4,(.p (aE (cP dl dc)))),(5,(.own 0)),(7,(.rp [(aA Aa),(aA Ab)] 0)),(8,(.p (aE Ch))),(9,(.ptr 2 0)),(22,(.p (fS sk))),(23,(pI (sk.length:Int))),(24,(pI (i:Int))),(25,(pB (decide ((i:Int)<(sk.length:Int))))),(26,(.rp (sk.flatten.map aA) (i*2))),(27,(.p (.agg [(aA Aa),(aA Ab)]))),(28,(.p (aE (cP dl dc)))),(29,(.own 1)),(30,(.fn 158 [] [(.rp [(PV.rp (cC dl sk dc) 0)] 0),(.rp [(aA Aa),(aA Ab)] 0)])),(31,(.p (aE Ch))),(32,(.p (.agg [(aA 1099511627776),(aA 0)]))),(33,(.p (.agg [cR,(aA 1099511627776),(aA 0)]))),(34,(.p (aE Ch))),(35,(.fn 181 [] [(.rp [(aE Ch)] 0)]))],[some (.row 232 aln alc),some .dead,some (.box 232 [(.own 3),(pI mn),(pI mx)]),some (.row 234 chn chc)]⟩
def aZo(dl:Int)(sk dc:Lqq)(aln:Nat)(alc:List PV)(i:Nat)(Aa Ab:Int)(Ch:List Int):St:=⟨fr 77 [(1,(.rp [(PV.rp (cC dl sk dc) 0)] 0)),(2,(.p cR)),(3,(pI 0)),(4,(.p (aE (cP dl dc)))),(5,(.own 0)),(7,(.rp [(aA Aa),(aA Ab)] 0)),(8,(.p (aE Ch))),(9,(.ptr 2 0)),(22,(.p (fS sk))),(23,(pI (sk.length:Int))),(24,(pI (i:Int))),(25,(pB (decide ((i:Int)<(sk.length:Int))))),(26,(.rp (sk.flatten.map aA) (i*2))),(27,(.p (.agg [(aA Aa),(aA Ab)]))),(28,(.p (aE (cP dl dc)))),(29,(.own 1)),(30,(.fn 158 [] [(.rp [(PV.rp (cC dl sk dc) 0)] 0),(.rp [(aA Aa),(aA Ab)] 0)])),(31,(.p (aE Ch))),(32,(.p (.agg [(aA 1099511627776),(aA 0)]))),(33,(.p (.agg [cR,(aA 1099511627776),(aA 0)]))),(34,(.p (aE Ch))),(35,(.fn 181 [] [(.rp [(aE Ch)] 0)]))],[some (.row 232 aln alc),some .dead,some (.box 232 [(.p cR),(pI 1099511627776),(pI 0)])]⟩
theorem bMb{alc:List PV}{Ey:Nat}{Ez:List PV}{Gz G0:Int}{Py:Nat}{Pz:List PV}{i':Nat}(h0:(i:Int)<(sk.length:Int))(h1:sk[i]? = some [Aa,Ab])(h2:uni 2 sk)(h3:(cP dl dc).length≤1000)(h4:cNh (cP dl dc) dl sk dc Aa Ab Ch)(Fw:aB Tp 0 (sub (cd Tryz.f91) aq) (aZo dl sk dc aln alc i Aa Ab Ch) .normal (aOc dl sk dc aln alc i Aa Ab Ch Ey Ez Gz G0))(h6:[(.sl Ey Ez),(aA Gz),(aA G0)].length=1*3∧aln+1≤1000000)(h7:dv i)(P0:Py=(aln+1))(P1:Pz=(alc++[(.sl Ey Ez),(aA Gz),(aA G0)]))(Ak:i'=(i+1)):aB Tp 0 (sub (cd Tryz.f91) cj) (oR dl sk dc aln alc i) .normal (oR dl sk dc Py Pz i'):=by
 subst P0 P1 Ak;have k1:=fk 1 (bTv (cP dl dc) h3) rfl;have k2:=mq [1] 2 h4;have k3:=fk 3 (cIs (q:=Ch)) rfl;exact aB.fi (gI [0,1,6,16,25,51] [3]) [bT,.x (.agg [(aA Aa),(aA Ab)]),.g 1 ⟨[],[0],[1],[]⟩,k1.o,k2.o,k3.o,Fw.k 1 (gI bu [0,1,2]),.g 0 ⟨[29],[0,2],[3],[]⟩] (gc h7 (gc h6 (gt ([(.sl Ey Ez),(aA Gz),(aA G0)].length=3) (by first | decide | simp) (gc Fw (gc k3 (gc k2 (gc k1 (gfl h2 h1 (g0 h0)))))))))
theorem bMc{alc:List PV}(h0:(sk.length:Int)≤(i:Int)):aB Tp 0 (sub (cd Tryz.f91) cj) (oR dl sk dc aln alc i) (.exit 0) (oR dl sk dc aln alc i):=aB.fi (gI [0,1,6,16,25,51] [0]) [bF] (gc (aQ h0) gn)
def aZp(dl:Int)(sk dc:Lqq)(aln:Nat)(alc:List PV)(i:Nat)(Aa Ab:Int)(Ch:List Int)(chn:Nat)(chc:List PV)(mn mx:Int):St:=⟨fr 77 [(1,(.rp [(PV.rp (cC dl sk dc) 0)] 0)),(2,(.p cR)),(3,(pI 0)),(4,(.p (aE (cP dl dc)))),(5,(.own 0)),(7,(.rp [(aA Aa),(aA Ab)] 0)),(8,(.p (aE Ch))),(9,(.ptr 2 0)),(22,(.p (fS sk))),(23,(pI (sk.length:Int))),(24,(pI (i:Int))),(25,(pB (decide ((i:Int)<(sk.length:Int))))),(26,(.rp (sk.flatten.map aA) (i*2))),(27,(.p (.agg [(aA Aa),(aA Ab)]))),(28,(.p (aE (cP dl dc)))),(30,(.fn 158 [] [(.rp [(PV.rp (cC dl sk dc) 0)] 0),(.rp [(aA Aa),(aA Ab)] 0)])),(31,(.p (aE Ch))),(32,(.p (.agg [(aA 1099511627776),(aA 0)]))),(33,(.p (.agg [cR,(aA 1099511627776),(aA 0)]))),(34,(.p (aE Ch))),(35,(.fn 181 [] [(.rp [(aE Ch)] 0)]))],[some (.row 232 aln alc),some .dead,some (.box 232 [(.own 5),(pI mn),(pI mx)]),some .dead,some .dead,some (.row 234 chn chc)]⟩
section
variable(h0:bJs dl sk dc (aE x) [Aa,Ab] n200 Fq ([]:Lqb) T202)
include h0
theorem bMd{alc chc Ju:List PV}(h1:Fq=true)(h2:[(aA 1099511627776),(blP Fq),(aE x)].length=1*3∧chn+1≤1000000)(h3:([(1099511627776:Int)]:List Int).length≤1000)(Jv:La=(chn+1))(Jw:Ju=(chc++[(aA 1099511627776),(blP Fq),(aE x)]))(Na:Q1=(if (1099511627776:Int)<mn then 1099511627776 else mn))(Db:Cm=(aCj mx ([(1099511627776:Int)]:List Int))):aB Tp 5 (sub (cd Tryz.f91) ao) (rfO (aOc dl sk dc aln alc i Aa Ab Ch chn chc mn mx) 36 10 x) .normal (aZp dl sk dc aln alc i Aa Ab Ch La Ju Q1 Cm):=by
 subst Jv Jw Na Db;have k1:=mN [] 5 (aNo (dl:=dl) (sk:=sk) (dc:=dc) (on:=x.length) (ol:=(x.map aA)));have k2:=mq [5,6,7,8,9,10,11] 13 h0;exact aB.fi (gI bu [13]) [.g 2 ⟨[29],[],[4],[]⟩,.x (PV.rp (cC dl sk dc) 0),.x (.agg [(aA Aa),(aA Ab)]),.x (PV.rp (cC dl sk dc) 0),k1.o,k2.o,bT,.c (pI (aCj mx ([(1099511627776:Int)]:List Int))) []] (gc aOa (gc aOb (gt (FC Tp 159 [(pI mx),(.own 15)] [(15,(.row 3 1 [(aA 1099511627776)]))] 16 (pI (aCj mx ([(1099511627776:Int)]:List Int))) []) (fv (aYo mx ([(1099511627776:Int)]:List Int) h3)) (gc aOa (gc aOb (gc h2 (gt ([(aA 1099511627776),(blP Fq),(aE x)].length=3) (by first | decide | simp) (gc h1 (gc k2 (gc k1 (gr (PV.rp (cC dl sk dc) 0) (gr (.agg [(aA Aa),(aA Ab)]) (gt (0+2≤[(aA Aa),(aA Ab)].length) (by first | decide | simp) (gr (PV.rp (cC dl sk dc) 0) gn))))))))))))))
theorem bMe{alc chc Ju:List PV}(h1:Fq=false)(h2:[(aA n200),(blP Fq),(aE x)].length=1*3∧chn+1≤1000000)(h3:([n200]:List Int).length≤1000)(Jv:La=(chn+1))(Jw:Ju=(chc++[(aA n200),(blP Fq),(aE x)]))(Na:Q1=(if n200<mn then n200 else mn))(Db:Cm=(aCj mx ([n200]:List Int))):aB Tp 5 (sub (cd Tryz.f91) ao) (rfO (aOc dl sk dc aln alc i Aa Ab Ch chn chc mn mx) 36 10 x) .normal (aZp dl sk dc aln alc i Aa Ab Ch La Ju Q1 Cm):=by
 subst Jv Jw Na Db;have k1:=mN [] 5 (aNo (dl:=dl) (sk:=sk) (dc:=dc) (on:=x.length) (ol:=(x.map aA)));have k2:=mq [5,6,7,8,9,10,11] 13 h0;exact aB.fi (gI bu [13]) [.g 2 ⟨[29],[],[4],[]⟩,.x (PV.rp (cC dl sk dc) 0),.x (.agg [(aA Aa),(aA Ab)]),.x (PV.rp (cC dl sk dc) 0),k1.o,k2.o,bF,.c (pI (aCj mx ([n200]:List Int))) []] (gc aOa (gc aOb (gt (FC Tp 159 [(pI mx),(.own 15)] [(15,(.row 3 1 [(aA n200)]))] 16 (pI (aCj mx ([n200]:List Int))) []) (fv (aYo mx ([n200]:List Int) h3)) (gc aOa (gc aOb (gc h2 (gt ([(aA n200),(blP Fq),(aE x)].length=3) (by first | decide | simp) (gc h1 (gc k2 (gc k1 (gr (PV.rp (cC dl sk dc) 0) (gr (.agg [(aA Aa),(aA Ab)]) (gt (0+2≤[(aA Aa),(aA Ab)].length) (by first | decide | simp) (gr (PV.rp (cC dl sk dc) 0) gn))))))))))))))
end
end
section
section
variable {α:Type} {E:α→List PV} {k:Nat}
theorem bFb(hE:∀ a,(E a).length=k)(l:List α):((l.map E).flatten).length=l.length*k:=by
 induction l with
 | nil=>simp
 | cons a l ih=>rw [iB,xY,jT,hE,ih,nM,aHz];omega
theorem aAh(hE:∀ a,(E a).length=k){l:List α}{i:Nat}{e:α}(h:l[i]? = some e):∃ a b,(l.map E).flatten=a++(E e++b)∧a.length=i*k:=by
 obtain ⟨hi,rfl⟩:=Bs.1 h;refine ⟨((l.take i).map E).flatten,((l.drop (i+1)).map E).flatten,?_,?_⟩
 ·have:l=l.take i++(l[i]::l.drop (i+1)):=by rw [← aRk hi,bHp]
  have e2:=congrArg (fun l=>(l.map E).flatten) this
  simp only [iV,iB,bRd,xY] at e2
  exact e2
 ·rw [bFb hE,jV];congr 1;omega
theorem bNa{l:List α}{i f:Nat}(hE:∀ a,(E a).length=k){e:α}{x:PV}(h:l[i]? = some e)(hx:(E e)[f]? = some x):((l.map E).flatten)[i*k+f]? = some x:=by
 obtain ⟨a,b,e1,e2⟩:=aAh hE h;have hf:=(Bs.1 hx).1;rw [e1,← e2,zO (by omega),Nat.add_sub_cancel_left,zP hf]
 exact hx
theorem wO{l:List α}{i:Nat}(hE:∀ a,(E a).length=k){e:α}(h:l[i]? = some e):i*k+k≤((l.map E).flatten).length:=by
 obtain ⟨a,b,e1,e2⟩:=aAh hE h;rw [e1,jT,jT,hE,e2];omega
theorem nK{l:List α}{i:Nat}(hE:∀ a,(E a).length=k){e:α}(h:l[i]? = some e){x:PV}(hx:PV.agg (E e)=x):some (.agg ((((l.map E).flatten).drop (i*k)).take k):PV)=some x:=by
 obtain ⟨a,b,e1,e2⟩:=aAh hE h;rw [e1,← e2,List.drop_left,List.take_left' (hE e),hx]
theorem tG{l:List α}{i:Int}(hE:∀ a,(E a).length=k)(hk:0<k)(h0:0≤i){e:α}(h:l[i.toNat]? = some e):0≤i∧i<(l.length:Int)∧i.toNat*k<((l.map E).flatten).length:=by
 have hi:=(Bs.1 h).1;refine ⟨h0,by omega,?_⟩
 rw [bFb hE];exact Nat.mul_lt_mul_of_pos_right hi hk
end
end
section
abbrev bX:=Int × Bool × List Int
abbrev fT:=List bX × Int × Int
def hpE(h:fT):List PV:=[.sl h.1.length (h.1.map chE).flatten,aA h.2.1,aA h.2.2]
abbrev far:Int:=1099511627776
def chM(dl:Int)(dc:Lqq)(s0 s1:Int)(q:List Int):bX:=(if (cI dl q dc s0 s1).2 then far else (cI dl q dc s0 s1).1,(cI dl q dc s0 s1).2,q)
def mnM(l:List bX):Int:=l.foldl (fun m x=>if x.1<m then x.1 else m) far
def mxM(l:List bX):Int:=l.foldl (fun m x=>if x.1 > m then x.1 else m) 0
def nJ(dl:Int)(dc:Lqq)(s0 s1:Int)(o:List Int):fT:=((kL o).map (chM dl dc s0 s1),mnM ((kL o).map (chM dl dc s0 s1)),mxM ((kL o).map (chM dl dc s0 s1)))
def aIg(dc:Lqq)(n:Int):Int:=match ofN dc n with
 | some x=>rR dc x
 | none=>0
def rS(dl:Int)(dc:Lqq)(bib:Int):List Int:=(cP dl dc).filter fun n => !(aIg dc n != bib)
def bY(dl:Int)(sk dc:Lqq):List fT:=sk.map fun s=>nJ dl dc (s.getD 0 0) (s.getD 1 0) (rS dl dc (s.getD 0 0))
theorem bEs(x:bX):kG (chE x)=true:=by
 obtain ⟨a,b,l⟩:=x;show (nmP (aA a) && (nmP (blP b) && (nmP (aE l) && true)))=true;have h:nmP (aE l)=true:=by
  show kG (l.map aA)=true;exact aFf aA (fun _=>rfl) l
 rw [h];rfl
theorem aBr:∀ (a b:List PV),kG (a++b)=(kG a && kG b)
 | [],b=>rfl
 | x::a,b=>by
  show (nmP x && kG (a++b))=((nmP x && kG a) && kG b);rw [aBr a b,Bool.and_assoc]
theorem uL{α:Type}{E:α→List PV}(h:∀ a,kG (E a)=true):∀ l:List α,kG (l.map E).flatten=true
 | []=>rfl
 | a::l=>by rw [iB,xY,aBr,h a,uL h l];rfl
theorem cAo(x:fT):kG (hpE x)=true:=by
 obtain ⟨l,a,b⟩:=x;show (kG (l.map chE).flatten && (nmP (aA a) && (nmP (aA b) && true)))=true;rw [uL bEs];rfl
def cIo(dl:Int)(sk dc:Lqq)(al:List fT)(i:Nat)(y0 y1:Int)(o:List Int)(l:List bX):St:=aOc dl sk dc al.length (al.map hpE).flatten i y0 y1 o l.length (l.map chE).flatten (mnM l) (mxM l)
def cMo(dl:Int)(sk dc:Lqq)(al:List fT)(i:Nat)(y0 y1:Int)(o:List Int)(l:List bX):St:=aZp dl sk dc al.length (al.map hpE).flatten i y0 y1 o l.length (l.map chE).flatten (mnM l) (mxM l)
theorem cAp(l:List bX)(c:bX):(l++[c]).length=l.length+1∧((l++[c]).map chE).flatten=(l.map chE).flatten++chE c∧mnM (l++[c])=(if c.1<mnM l then c.1 else mnM l)∧mxM (l++[c])=aCj (mxM l) [c.1]:=by
 refine ⟨by simp,by simp,?_,?_⟩
 ·unfold mnM;rw [xX];rfl
 ·unfold mxM;rw [xX];rfl
theorem bLz{dl:Int}{sk dc:Lqq}(hd:bZ dc){al:List fT}{i:Nat}{y0 y1:Int}(hs : -1≤y1∧y1≤360000){o:List Int}{l:List bX}(hl:l.length+1≤1000000){x:List Int}(hx:x.length≤1000) :
  aB Tp 5 (sub (cd Tryz.f91) ao) (rfO (cIo dl sk dc al i y0 y1 o l) 36 10 x) .normal (cMo dl sk dc al i y0 y1 o (l++[chM dl dc y0 y1 x])):=by
 obtain ⟨T',_,hT⟩:=cGr (sk:=sk) hd (fun n=>aRy hx n) y0 y1 hs (T:=[]) cE.nil
 obtain ⟨e1,e2,e3,e4⟩:=cAp l (chM dl dc y0 y1 x);cases hb:(cI dl x dc y0 y1).2 with
 | true =>
  have ec:chM dl dc y0 y1 x=(far,true,x):=by unfold chM;rw [hb];rfl
  rw [hb] at hT
  rw [ec] at e1 e2 e3 e4 ⊢
  exact bMd hT rfl ⟨rfl,hl⟩ (by simp) e1 e2 e3 e4
 | false =>
  have ec:chM dl dc y0 y1 x=((cI dl x dc y0 y1).1,false,x):=by unfold chM;rw [hb];rfl
  rw [hb] at hT
  rw [ec] at e1 e2 e3 e4 ⊢
  exact bMe hT rfl ⟨rfl,hl⟩ (by simp) e1 e2 e3 e4
theorem bMa{dl:Int}{sk dc:Lqq}(hd:bZ dc){al:List fT}{i:Nat}{y0 y1:Int}(hs : -1≤y1∧y1≤360000){o:List Int}(ho:o.length≤8) :
  aB Tp 0 (sub (cd Tryz.f91) aq) (aZo dl sk dc al.length (al.map hpE).flatten i y0 y1 o) .normal (cIo dl sk dc al i y0 y1 o ((kL o).map (chM dl dc y0 y1))):=by
 have hp:(2:Nat) ^ o.length≤256:=gL (Nat.pow_le_pow_right (by omega) ho) (by decide)
 refine (bMp (P:=Tp) (k:=0) (kb:=5) (kk:=3) (g0:=⟨[],[3],[],[(102000,234)]⟩) (g1:=⟨[],[5],[],[]⟩) (aZo dl sk dc al.length (al.map hpE).flatten i y0 y1 o)
  (fun pre=>cIo dl sk dc al i y0 y1 o (pre.map (chM dl dc y0 y1))) (fun pre l=>cMo dl sk dc al i y0 y1 o ((pre++[l]).map (chM dl dc y0 y1))) (fun _ _=>⟨[],[]⟩) _ [] (fun _ _=>false)
  (cc := sub (cd Tryz.f91) [1, 1, 1, 1, 0, 1, 0, 0, 1, 1, 0, 0, 1, 1, 1, 0, 1, 0]) (gi := 35) (p1 := 36) (d := 10) (id := 11) (ty := 31) (pos := "outcome.go:71") (body := sub (cd Tryz.f91) [1, 1, 1, 1, 0, 1, 0, 0, 1, 1, 0, 0, 1, 1, 1, 0, 1, 0, 1]) (by kernel_rfl)
  rfl (fun _=>rfl) (g := .fn 181 [] [.rp [aE o] 0]) (by rfl) (bMm o (by omega)) (fun args w=>rfl) (fun _=>rfl) (fun pre => ?_) (fun _ _=>rfl) (fun _ _=>rfl) rfl rfl (fun _=>by show 4<5;omega) (by kernel_rfl) (fun x=>rfl) (by show 3≤3;omega) rfl (by kernel_rfl) (fun pre l=>by kernel_rfl) (fun _ _ h=>by cases h) (gR:=⟨[],[],[],[]⟩) (fun pre l hpl hx=>⟨fun _ => ?_,fun h=>by cases h⟩)).1 (fun _ _ _=>rfl)
 ·show (kG (al.map hpE).flatten && (kG [] && (kG ((pre.map (chM dl dc y0 y1)).map chE).flatten && true)))=true
  rw [uL cAo,uL bEs];rfl
 ·have:=bLz (dl:=dl) (y0:=y0) (sk:=sk) hd (al:=al) (i:=i) hs (o:=o) (l:=pre.map (chM dl dc y0 y1)) (by rw [B9];omega) hx
  rw [iV];exact this
end
section
theorem cIm{dl:Int}{sk dc:Lqq}(hd:bZ dc){bib tm n:Int}(hn:n∈cP dl dc):aZq dl sk dc bib tm n (aIg dc n != bib):=fun base=>by
 unfold cP at hn
 obtain ⟨x,hx,rfl⟩:=Bq.1 hn;have hx:=(qR.1 hx).1;have hr:=eX hd hx;have hs:aIg dc (dN x)=rR dc x:=by unfold aIg;rw [aOh hd hx]
 rw [hs];obtain ⟨h1,h2⟩:=bUh hd hx;have hk:=aCv hd (n:=dN x) (by show _∧_;omega)
 have hab:=pR hd x hx;obtain ⟨a,b,c,d,e,f,rfl⟩:=Bo (hd.ud x hx);have hf:inR f:=by
  have:=(lM.1 (hd.rng _ hx));unfold inR;simp [dAb] at this hab ⊢;omega
 exact cIt hk h1 h2 (fun base=>cJh hd hf (.inl hx) hr.2) rfl
theorem bTt(dl:Int)(dc:Lqq)(b:Int):(rS dl dc b).length≤(cP dl dc).length:=zR _ _
theorem cAn{dl:Int}{sk dc:Lqq}(hd:bZ dc)(hu:uni 2 sk)(hl:sk.length≤1000)(hs:∀ s∈sk,-1≤s.getD 1 0∧s.getD 1 0≤360000)(ho:(cP dl dc).length≤8) :
  aF Tp 0 (sub (cd Tryz.f91) cj) (oR dl sk dc 0 [] 0) (.exit 0) (oR dl sk dc (bY dl sk dc).length ((bY dl sk dc).map hpE).flatten sk.length):=by
 obtain ⟨acc,hI,hL⟩:=aF.ex (P:=Tp) (k:=0) (b:=sub (cd Tryz.f91) cj) (e := .exit 0) (fun i (al:List fT)=>oR dl sk dc al.length (al.map hpE).flatten i) (fun al=>oR dl sk dc al.length (al.map hpE).flatten sk.length) (fun i al=>al=bY dl (sk.take i) dc) (by simp) sk.length
  (fun i al hi hal=>by
   obtain ⟨x,hx⟩:∃ x,sk[i]? = some x:=⟨_,Av hi⟩;have hm:=Bp hx;have hsx:=hs x hm;obtain ⟨y0,y1,rfl⟩:=len2 (hu x hm);have hlen:al.length=i:=by rw [hal];unfold bY;rw [B9,jV];omega
   refine ⟨al++[nJ dl dc y0 y1 (rS dl dc y0)],?_,bMb (Ch:=rS dl dc y0) (by omega) hx hu (by omega) (cIr (by omega) fun n hn=>cIm hd hn) (bMa hd hsx (gL (bTt dl dc y0) ho)) ⟨rfl,by omega⟩ (aI (by omega)) (by simp) (by simp only [iV,iB,List.map_nil,bRd,xY,List.flatten_nil,List.append_nil];rfl) rfl⟩
   rw [hal];unfold bY;rw [List.take_add_one,hx];simp)
  (fun al _=>bMc (by omega)) (acc:=[]) (by simp [bY])
 rw [List.take_length] at hI
 rw [← hI];exact hL
theorem cIn{dl:Int}{sk dc:Lqq}(hd:bZ dc)(hu:uni 2 sk)(hl:sk.length≤1000)(hs:∀ s∈sk,-1≤s.getD 1 0∧s.getD 1 0≤360000)(ho:(cP dl dc).length≤8){base:Nat} :
  FV Tp 91 [sX dl sk dc] base (.tup [.own base,.p (aA 0)]) [(base,.row 232 (bY dl sk dc).length ((bY dl sk dc).map hpE).flatten)]:=cIp hd (by omega) (cAn hd hu hl hs ho)
end
end KV
end Go.Proofs
section
namespace Go.Proofs
open Go.Shelf
def Tryz.lays189_ren:Go.Shelf.Ren:=⟨fun | 189=>161 | 125=>195 | 257=>209 | 128=>231 | 129=>232 | 294=>255 | 295=>256 | 296=>257 | 297=>258 | 298=>259 | 299=>260 | 216=>261 | 300=>262 | 301=>263 | 328=>284 | 329=>271 | 330=>272 | 331=>285 | 332=>286 | 215=>124 | 343=>294 | n=>n,fun | 28=>31 | 3=>3 | 46=>266 | 0=>0 | 51=>94 | 53=>288 | 4=>4 | 183=>281 | 182=>280 | 131=>179 | 5=>5 | 9=>9 | 218=>307 | 222=>311 | 228=>322 | 229=>236 | n=>n,fun | n=>n⟩
theorem Tryz.lays189:Go.Proofs.Lays.n189 Tryz.prog Tryz.lays189_ren:={
 mixed:=by kernel_rfl
 f125:=func195.trans (congrArg some (by kernel_rfl))
 f128:=func231.trans (congrArg some (by kernel_rfl))
 f129:=func232.trans (congrArg some (by kernel_rfl))
 f189:=func161.trans (congrArg some (by kernel_rfl))
 f215:=func124.trans (congrArg some (by kernel_rfl))
 f216:=func261.trans (congrArg some (by kernel_rfl))
 f257:=func209.trans (congrArg some (by kernel_rfl))
 f294:=func255.trans (congrArg some (by kernel_rfl))
 f295:=func256.trans (congrArg some (by kernel_rfl))
 f296:=func257.trans (congrArg some (by kernel_rfl))
 f297:=func258.trans (congrArg some (by kernel_rfl))
 f298:=func259.trans (congrArg some (by kernel_rfl))
 f299:=func260.trans (congrArg some (by kernel_rfl))
 f300:=func262.trans (congrArg some (by kernel_rfl))
 f301:=func263.trans (congrArg some (by kernel_rfl))
 f328:=func284.trans (congrArg some (by kernel_rfl))
 f329:=func271.trans (congrArg some (by kernel_rfl))
 f330:=func272.trans (congrArg some (by kernel_rfl))
 f331:=func285.trans (congrArg some (by kernel_rfl))
 f332:=func286.trans (congrArg some (by kernel_rfl))
 f343:=func294.trans (congrArg some (by kernel_rfl))
 t0:=Tryz.underlying0
 a0:=Tryz.isAgg0
 z0:=Tryz.sizeOf0
 v0:=Tryz.zeroValue0
 t3:=Tryz.underlying3
 a3:=Tryz.isAgg3
 z3:=Tryz.sizeOf3
 v3:=Tryz.zeroValue3
 t4:=Tryz.underlying4
 a4:=Tryz.isAgg4
 z4:=Tryz.sizeOf4
 v4:=Tryz.zeroValue4
 t5:=Tryz.underlying5
 a5:=Tryz.isAgg5
 z5:=Tryz.sizeOf5
 v5:=Tryz.zeroValue5
 t9:=Tryz.underlying9
 a9:=Tryz.isAgg9
 z9:=Tryz.sizeOf9
 v9:=Tryz.zeroValue9
 t28:=Tryz.underlying31
 a28:=Tryz.isAgg31
 z28:=Tryz.sizeOf31
 v28:=Tryz.zeroValue31
 t46:=Tryz.underlying266
 a46:=Tryz.isAgg266
 z46:=Tryz.sizeOf266
 v46:=Tryz.zeroValue266
 t51:=Tryz.underlying94
 a51:=Tryz.isAgg94
 z51:=Tryz.sizeOf94
 v51:=Tryz.zeroValue94
 t53:=Tryz.underlying288
 a53:=Tryz.isAgg288
 z53:=Tryz.sizeOf288
 v53:=Tryz.zeroValue288
 t131:=Tryz.underlying179
 a131:=Tryz.isAgg179
 z131:=Tryz.sizeOf179
 v131:=Tryz.zeroValue179
 t182:=Tryz.underlying280
 a182:=Tryz.isAgg280
 z182:=Tryz.sizeOf280
 v182:=Tryz.zeroValue280
 t183:=Tryz.underlying281
 a183:=Tryz.isAgg281
 z183:=Tryz.sizeOf281
 v183:=Tryz.zeroValue281
 t218:=Tryz.underlying307
 a218:=Tryz.isAgg307
 z218:=Tryz.sizeOf307
 v218:=Tryz.zeroValue307
 t222:=Tryz.underlying311
 a222:=Tryz.isAgg311
 z222:=Tryz.sizeOf311
 v222:=Tryz.zeroValue311
 t228:=Tryz.underlying322
 a228:=Tryz.isAgg322
 z228:=Tryz.sizeOf322
 v228:=Tryz.zeroValue322
 t229:=Tryz.underlying236
 a229:=Tryz.isAgg236
 z229:=Tryz.sizeOf236
 v229:=Tryz.zeroValue236 }
open Go.Sort Go.RowKit in
theorem Tryz.slices_Sort_int(blk off cap:Nat)(zs:List Int)(w:World)(hH:Holds (Value.int .i64) w blk off zs.toArray)(hblk:blk<w.heap.size)(hsz:zs.length<4611686018427387904) :
  Calls Tryz.prog 161 #[.slice (some ⟨blk,off,none⟩) zs.length cap] w fun e w' =>
   e = .returned (.tuple #[])∧∃ n os,w'=grow (putRow (Value.int .i64) (Sort.ahead w n) blk off (zs.mergeSort fun x y=>decide (x≤y)).toArray) os:=Any.slices_Sort_int Tryz.lays189 blk off cap zs w hH hblk hsz
def Tryz.laysNm220_ren:Go.Shelf.Ren:=⟨fun | 20=>162 | n=>n,fun | 22=>31 | 3=>3 | 4=>4 | 0=>0 | n=>n,fun | n=>n⟩
theorem Tryz.laysNm220:Go.Proofs.Lays2.n20 Tryz.prog Tryz.laysNm220_ren:={
 mixed:=by kernel_rfl
 f20:=func162.trans (congrArg some (by kernel_rfl))
 t0:=Tryz.underlying0
 a0:=Tryz.isAgg0
 z0:=Tryz.sizeOf0
 v0:=Tryz.zeroValue0
 t3:=Tryz.underlying3
 a3:=Tryz.isAgg3
 z3:=Tryz.sizeOf3
 v3:=Tryz.zeroValue3
 t4:=Tryz.underlying4
 a4:=Tryz.isAgg4
 z4:=Tryz.sizeOf4
 v4:=Tryz.zeroValue4
 t22:=Tryz.underlying31
 a22:=Tryz.isAgg31
 z22:=Tryz.sizeOf31
 v22:=Tryz.zeroValue31
 i3:=by kernel_rfl }
open Go.RowKit Go.Lib Go.Sort in
theorem Tryz.slices_Compact_int(blk off cap:Nat)(zs:List Int)(w:World)(hH:Holds (Value.int .i64) w blk off zs.toArray)(hsz:zs.length≤9223372036854775807)(hcap:zs.length≤cap) :
  Calls Tryz.prog 162 #[.slice (some ⟨blk,off,none⟩) zs.length cap] w fun e w'=>e = .returned (.slice (some ⟨blk,off,none⟩) (Lib.compact zs).length cap)∧∃ q,w'=putRow (Value.int .i64) (Sort.ahead w q) blk off (Lib.compact zs++List.replicate (zs.length-(Lib.compact zs).length) 0).toArray:=Any.slices_Compact_int Tryz.laysNm220 blk off cap zs w hH hsz hcap
open Go.RowKit Go.Lib Go.Sort in
theorem Tryz.slices_Compact_int_empty(a:Option Addr)(cap:Nat)(w:World) :
  Calls Tryz.prog 162 #[.slice a 0 cap] w fun e w'=>e = .returned (.slice a 0 cap)∧w'=w:=Any.slices_Compact_int_empty Tryz.laysNm220 a cap w
theorem Tryz.slices_Sort_int_none(p:Option Addr)(cap:Nat)(w:World) :
  Calls Tryz.prog 161 #[.slice p 0 cap] w fun e w'=>e = .returned (.tuple #[])∧w'=w:=Any.slices_Sort_int_none Tryz.lays189 p cap w
end Go.Proofs
end
section
namespace Go.Proofs
open Go.RowKit Go.Lib Go.Sort
namespace KL
def OwnI(w:World)(base:Nat)(v:Value)(l:List Int):Prop:=w.ownsRow base 3 1 v l.length (l.map (Value.int .i64))

def leB:Int→Int→Bool:=fun x y=>decide (x≤y)

theorem bUj(base:Nat)(v:Value)(l:List Int)(w:World)(hv:OwnI w base v l)(hlen:l.length≤1000000) :
  Calls Tryz.prog 161 #[v] w fun e w'=>e = .returned (.tuple #[])∧OwnI w' base v (l.mergeSort leB)∧w.grownBy w' v.ownBlock:=by
 have hown:=hv
 rcases hv.2 with ⟨rfl,h0⟩ | ⟨g,cap,cur,rfl,hb,hg,hn,hm,hs,ht⟩
 ·have:l=[]:=List.eq_nil_of_length_eq_zero h0
  subst this;refine (Tryz.slices_Sort_int_none none 0 w).mono ?_;rintro e w' ⟨rfl,rfl⟩;exact ⟨rfl,by simpa using hown,World.grownBy.refl _ _⟩
 ·have hlt:=lt_of_block hg
  refine (Tryz.slices_Sort_int g 0 cap l w (holds_of_blockI hg (by simpa using ht)) hlt (by omega)).mono ?_
  rintro e w' ⟨rfl,n,os,rfl⟩;refine ⟨rfl,?_,grownBy_sortedI _⟩;have hl:(l.mergeSort leB).length=l.length:=List.length_mergeSort l;unfold OwnI;rw [hl];exact ownsRow_sortedI hl hb hg hn hm hs

end KL
open KL
namespace KV
open Tryz
open Go.Shelf
variable {P:Program} {C:Cx} {M:Mem} {w w':World}
abbrev gX(l:List Int):AO := .row 3 l.length (l.map aA)
theorem aSw{F:Nat→Prop}{cur:Array Value}{l:List Int}(hle:l.length≤cur.size)(h:∀ j (hj:j<(l.map aA).length),bQ F w (l.map aA)[j] (cur.getD j undef)):cur.toList.take l.length=l.map (Value.int .i64):=by
 apply List.ext_getElem
 ·simp;omega
 ·intro i h1 h2
  have hi:i<l.length:=by simpa using h2
  have:=h i (by simpa using hi)
  rw [List.getElem_map] at this
  rw [List.getElem_map,List.getElem_take];cases hx:cur.getD i undef with
  | int k z =>
   rw [hx] at this
   cases this;rw [Array.getD_eq_getD_getElem?,Array.getElem?_eq_getElem (by omega)] at hx
   simpa using hx
  | _=>rw [hx] at this;cases this
theorem aSx(F:Nat→Prop){cur:Array Value}{l:List Int}(h:cur.toList.take l.length=l.map (Value.int .i64)):(∀ j (hj:j<(l.map aA).length),bQ F w (l.map aA)[j] (cur.getD j undef))∧∀ j,j<(l.map aA).length→(cur.getD j undef).oneCell'=true:=by
 have key:∀ j (hj:j<l.length),cur.getD j undef = .int .i64 l[j]:=fun j hj=>by
  have h1:=congrArg (fun x=>x[j]?) h
  simp only [List.getElem?_take,hj,if_true,List.getElem?_map,List.getElem?_eq_getElem hj,Option.map_some,Array.getElem?_toList] at h1
  rw [Array.getD_eq_getD_getElem?,h1];rfl
 refine ⟨fun j hj => ?_,fun j hj => ?_⟩
 ·have Ce:j<l.length:=by simpa using hj
  rw [List.getElem_map,key j Ce];exact .v _
 ·rw [key j (by simpa using hj)];rfl

theorem Ij:∃ i,Tryz.prog.info? 3=some i∧i.size=1:=uI (show (Tryz.prog.info? 3).map (fun i=>i.size)=some 1 by kernel_rfl)
theorem aOj{id:Nat}{l:List Int}{u:Value}(hM:aO Tryz.prog C M w)(ho:M[id]? = some (some (gX l)))(h:Rep C M w (.own id) u):OwnI w 0 u l:=by
 refine ⟨by simp,?_⟩
 cases h with
 | own _ _ h0 ha hr =>
  rcases hr _ _ _ ho with ⟨rfl,_,hn⟩ | ⟨b,rfl,hb⟩
  ·exact .inl ⟨rfl,hn⟩
  ·rcases hM.row _ _ _ _ ho with ⟨F3,_⟩ | ⟨b',arr,inf,Ar,q1,q2,q3,q4,q5,q6,q7,q8⟩
   ·rw [hb] at F3;cases F3
   ·rw [hb] at Ar;cases Ar
    obtain ⟨i,hi,hs⟩:=Ij;rw [hi] at q2;cases q2
    exact .inr ⟨b,_,arr,rfl,Nat.zero_le _,q1,q5,q6,by rw [q3,hs],by rw [Nat.mul_one];exact aSw (by rw [q3,hs];omega) q7⟩

theorem uM{l l':List Int}{u u':Value}{d:Bool}(hM:aO Tryz.prog C [some (gX l)] w)(h:Rep C [some (gX l)] w (.own 0) u)(hown:OwnI w' 0 u' l')(hg:w.grownBy w' u.ownBlock)
  (hb:u'.ownBlock=u.ownBlock) (hd:d=false→u'=u∧l'.length=l.length) :
  ∃ C',Fr C [some (gX l)] w C' (if d then [some .dead,some (gX l')] else [some (gX l')]) w'∧aO Tryz.prog C' (if d then [some .dead,some (gX l')] else [some (gX l')]) w'∧Rep C' (if d then [some .dead,some (gX l')] else [some (gX l')]) w' (.own (if d then 1 else 0)) u':=by
 have J5:∀ (id:Nat) (o:AO),([some (gX l)]:Mem)[id]? = some (some o)→id=0∧o=gX l:=fun id o h=>by
  cases id with
  | zero=>simp at h;exact ⟨rfl,h.symm⟩
  | succ i=>simp at h
 have hblk:∀ b,C.ι 0=some b→u.ownBlock=some b∧∃ cap,u = .slice (some ⟨b,0,none⟩) l.length cap∧cap=C.κ 0:=fun b P8=>by
  cases h with
  | own _ _ h0 ha hr =>
   rcases hr _ _ _ rfl with ⟨_,hn,_⟩ | ⟨b',rfl,Ar⟩
   ·rw [P8] at hn;cases hn
   ·rw [P8] at Ar;cases Ar;exact ⟨rfl,_,rfl,rfl⟩
 have hnb:C.ι 0=none→u = .slice none 0 0:=fun hn=>by
  cases h with
  | own _ _ h0 ha hr =>
   rcases hr _ _ _ rfl with ⟨hu,_,_⟩ | ⟨b',rfl,Ar⟩
   ·exact hu
   ·rw [hn] at Ar;cases Ar
 have hkeep:∀ b,b<w.heap.size→(∀ (id:Nat) (o:AO),([some (gX l)]:Mem)[id]? = some (some o)→o.live=true→C.ι id≠some b)→w'.heap[b]? = w.heap[b]? := fun b B5 hn=>by
  refine hg.block b B5 fun he => ?_
  cases hι:C.ι 0 with
  | none=>rw [hnb hι] at he;cases he
  | some b' =>
   rw [(hblk b' hι).1] at he;cases he
   exact hn 0 _ rfl rfl hι
 have hFz:∀ b,C.F b→w'.heap[b]? = w.heap[b]? := fun b hf=>hkeep b (hM.Fs b hf) fun id o hm hl he=>hM.nF id o b hm hl he hf
 cases d with
 | false =>
  obtain ⟨rfl,hlen⟩:=hd rfl;simp only [Bool.false_eq_true,if_false];have Dn:∀ (id:Nat) (o:AO),([some (gX l')]:Mem)[id]? = some (some o)→id=0∧o=gX l':=fun id o h=>by
   cases id with
   | zero=>simp at h;exact ⟨rfl,h.symm⟩
   | succ i=>simp at h
  have P9:∀ b,C.ι 0=some b→∃ cur,w'.heap[b]? = some (.cells cur 3 (0,0))∧l'.length≤C.κ 0∧C.κ 0≤maxLen∧cur.size=C.κ 0∧cur.toList.take l'.length=l'.map (Value.int .i64):=fun b hι=>by
   obtain ⟨_,cap,hu,hc⟩:=hblk b hι
   rcases hown.2 with ⟨he,_⟩ | ⟨g,Fz,cur,hv,_,hh,r1,r2,r3,r4⟩
   ·rw [hu] at he;cases he
   ·rw [hu] at hv
    obtain ⟨e1,_,e3⟩:=Value.slice.inj hv;cases e1;subst e3;subst hc;exact ⟨cur,hh,r1,r2,by omega,by simpa using r4⟩
  refine ⟨C,⟨hg.os,hg.tape,hg.output,hg.size,hkeep,fun id o hm => ?_,fun id o hm ty n cs hx => ?_,fun id o hm o' hx hl => ?_,fun id o b hm hl hb => ?_,fun _ h=>h,fun _ h => .inl h⟩,
   ⟨fun id ty n cs hm => ?_,fun id ty cs hm => ?_,fun id es cl hm => ?_,fun id F7 o o' b h1 _ h2 _ _ _ => ?_,fun id o b hm hl hb => ?_,fun b hb=>Nat.lt_of_lt_of_le (hM.Fs b hb) hg.size,fun id o b hm hl hb => ?_⟩,?_⟩
  ·obtain ⟨rfl,rfl⟩:=J5 id o hm
   exact ⟨⟨_,rfl⟩,rfl,rfl⟩
  ·obtain ⟨rfl,rfl⟩:=J5 id o hm
   obtain ⟨_,he⟩:=Dn _ _ hx;cases he;exact ⟨l.map aA,by rw [hlen];rfl⟩
  ·obtain ⟨rfl,rfl⟩:=J5 id o hm
   rfl
  ·obtain ⟨rfl,rfl⟩:=Dn id o hm
   exact .inr ⟨0,_,rfl,rfl,hb⟩
  ·obtain ⟨rfl,he⟩:=Dn id _ hm
   cases he;cases hι:C.ι 0 with
   | none =>
    have:=hnb hι
    rcases hown.2 with ⟨_,h0⟩ | ⟨g,Fz,cur,hv,_⟩
    ·have:l'=[]:=List.eq_nil_of_length_eq_zero h0
     subst this;exact .inl ⟨rfl,rfl,rfl⟩
    ·rw [this] at hv;cases hv
   | some b =>
    obtain ⟨cur,q1,q2,q3,q4,q5⟩:=P9 b hι;obtain ⟨i,hi,hs⟩:=Ij;obtain ⟨r1,r2⟩:=aSx (w:=w') C.F q5;exact .inr ⟨b,cur,i,rfl,q1,hi,by rw [hs,q4,Nat.mul_one],by simp [hs],q2,q3,r1,r2⟩
  ·obtain ⟨_,he⟩:=Dn id _ hm;cases he
  ·obtain ⟨_,he⟩:=Dn id _ hm;cases he
  ·obtain ⟨rfl,_⟩:=Dn id _ h1
   obtain ⟨rfl,_⟩:=Dn F7 _ h2;rfl
  ·obtain ⟨rfl,_⟩:=Dn id _ hm
   exact hM.nF 0 _ b rfl rfl hb
  ·obtain ⟨rfl,_⟩:=Dn id _ hm
   exact Nat.lt_of_lt_of_le (hM.lt 0 _ b rfl rfl hb) hg.size
  ·cases h with
   | own _ _ h0 ha hr =>
    refine .own 0 _ h0 ⟨_,rfl⟩ fun ty n cs hx => ?_
    obtain ⟨_,he⟩:=Dn 0 _ hx;cases he
    rcases hr _ _ _ rfl with ⟨q1,q2,q3⟩ | ⟨b,q1,q2⟩
    ·exact .inl ⟨q1,q2,by omega⟩
    ·exact .inr ⟨b,by rw [q1,hlen],q2⟩
 | true =>
  simp only [if_true]
  let Fz:Nat:=match u' with | .slice _ _ c=>c | _=>0
  have Dn:∀ (id:Nat) (o:AO),([some .dead,some (gX l')]:Mem)[id]? = some (some o)→(id=0∧o = .dead)∨(id=1∧o=gX l'):=fun id o h=>by
   match id,h with
   | 0,h=>simp at h;exact .inl ⟨rfl,h.symm⟩
   | 1,h=>simp at h;exact .inr ⟨rfl,h.symm⟩
   | i+2,h=>simp at h
  refine ⟨{ ι:=fun i=>if i=1 then u'.ownBlock else C.ι i,κ:=fun i=>if i=1 then Fz else C.κ i,F:=C.F },⟨hg.os,hg.tape,hg.output,hg.size,hkeep,fun id o hm => ?_,fun id o hm ty n cs hx => ?_,fun id o hm o' hx hl => ?_,fun id o b hm hl hbb => ?_,fun _ h=>h,fun _ h => .inl h⟩,
   ⟨fun id ty n cs hm => ?_,fun id ty cs hm => ?_,fun id es cl hm => ?_,fun id F7 o o' b h1 l1 h2 l2 _ _ => ?_,fun id o b hm hl hbb => ?_,fun b hb=>Nat.lt_of_lt_of_le (hM.Fs b hb) hg.size,fun id o b hm hl hbb => ?_⟩,?_⟩
  ·obtain ⟨rfl,rfl⟩:=J5 id o hm
   exact ⟨⟨_,rfl⟩,rfl,rfl⟩
  ·obtain ⟨rfl,rfl⟩:=J5 id o hm
   rcases Dn _ _ hx with ⟨_,he⟩ | ⟨he,_⟩
   ·cases he
   ·cases he
  ·obtain ⟨rfl,rfl⟩:=J5 id o hm
   rfl
  ·rcases Dn id o hm with ⟨rfl,rfl⟩ | ⟨rfl,rfl⟩
   ·cases hl
   ·simp only [if_true] at hbb
    rw [hb] at hbb
    cases hι:C.ι 0 with
    | none=>rw [hnb hι] at hbb;cases hbb
    | some b' =>
     rw [(hblk b' hι).1] at hbb;cases hbb
     exact .inr ⟨0,_,rfl,rfl,hι⟩
  ·rcases Dn id _ hm with ⟨_,he⟩ | ⟨rfl,he⟩
   ·cases he
   ·cases he
    simp only [if_true]
    rcases hown.2 with ⟨rfl,h0⟩ | ⟨g,cp,cur,rfl,_,hh,r1,r2,r3,r4⟩
    ·have:l'=[]:=List.eq_nil_of_length_eq_zero h0
     subst this;exact .inl ⟨rfl,rfl,rfl⟩
    ·obtain ⟨i,hi,hs⟩:=Ij
     obtain ⟨q1,q2⟩:=aSx (w:=w') C.F (by simpa using r4)
     exact .inr ⟨g,cur,i,rfl,hh,hi,by rw [hs];exact r3,by simp [hs],r1,r2,q1,q2⟩
  ·rcases Dn id _ hm with ⟨_,he⟩ | ⟨_,he⟩ <;> cases he
  ·rcases Dn id _ hm with ⟨_,he⟩ | ⟨_,he⟩ <;> cases he
  ·rcases Dn id _ h1 with ⟨_,rfl⟩ | ⟨rfl,_⟩
   ·cases l1
   ·rcases Dn F7 _ h2 with ⟨_,rfl⟩ | ⟨rfl,_⟩
    ·cases l2
    ·rfl
  ·rcases Dn id _ hm with ⟨_,rfl⟩ | ⟨rfl,_⟩
   ·cases hl
   ·simp only [if_true] at hbb
    rw [hb] at hbb
    cases hι:C.ι 0 with
    | none=>rw [hnb hι] at hbb;cases hbb
    | some b' =>
     rw [(hblk b' hι).1] at hbb;cases hbb
     exact hM.nF 0 _ _ rfl rfl hι
  ·rcases Dn id _ hm with ⟨_,rfl⟩ | ⟨rfl,_⟩
   ·cases hl
   ·simp only [if_true] at hbb
    rw [hb] at hbb
    cases hι:C.ι 0 with
    | none=>rw [hnb hι] at hbb;cases hbb
    | some b' =>
     rw [(hblk b' hι).1] at hbb;cases hbb
     exact Nat.lt_of_lt_of_le (hM.lt 0 _ _ rfl rfl hι) hg.size
  ·have h0:u'.oneCell'=true:=by
    rcases hown.2 with ⟨rfl,_⟩ | ⟨g,cp,cur,rfl,_⟩ <;> rfl
   refine .own 1 _ h0 ⟨_,rfl⟩ fun ty n cs hx => ?_
   rcases Dn _ _ hx with ⟨he,_⟩ | ⟨_,he⟩
   ·cases he
   ·cases he
    simp only [if_true]
    rcases hown.2 with ⟨rfl,h9⟩ | ⟨g,cp,cur,rfl,_⟩
    ·exact .inl ⟨rfl,rfl,h9⟩
    ·exact .inr ⟨g,rfl,rfl⟩

theorem sortI_ok(l:List Int)(hl:l.length≤1000000):FMM Tryz.prog 161 [.own 0] [some (gX l)] (.tup []) [some (gX (l.mergeSort leB))]:=fun C w us hus hM n=>by
 obtain ⟨u,rfl,hu⟩:=sR hus;refine (callsIn_wide.2 (bUj 0 u l w (aOj hM rfl hu) hl)).mono ?_;rintro e w' ⟨rfl,h1,h2⟩;obtain ⟨C',f,m,_⟩:=uM (d:=false) hM hu h1 h2 rfl (fun _=>⟨rfl,List.length_mergeSort l⟩)
 exact ⟨_,rfl,C',f,m,.tup [] #[] rfl (fun i h=>by simp at h)⟩
theorem bAh(l:List Int):(Lib.compact l).length≤l.length:=by
 unfold Lib.compact Lib.compactUpTo;rw [List.length_map];exact Nat.le_trans (List.length_filter_le _ _) (by simp)
theorem aSy(base:Nat)(v:Value)(l:List Int)(w:World)(hv:KL.OwnI w base v l)(hlen:l.length≤1000000) :
  Calls Tryz.prog 162 #[v] w fun e w'=>∃ p' n' Fz,e = .returned (.slice p' n' Fz)∧n'=(Lib.compact l).length∧KL.OwnI w' base (.slice p' n' Fz) (Lib.compact l)∧w.grownBy w' v.ownBlock∧((Value.slice p' n' Fz).ownBlock=v.ownBlock):=by
 have hown:=hv
 rcases hv.2 with ⟨rfl,h0⟩ | ⟨b,cap,cur,rfl,hb,hg,hn,hm,hs,ht⟩
 ·have:l=[]:=List.eq_nil_of_length_eq_zero h0
  subst this;refine (Tryz.slices_Compact_int_empty none 0 w).mono ?_;rintro e w' ⟨rfl,rfl⟩;exact ⟨_,_,_,rfl,rfl,hown,World.grownBy.refl _ _,rfl⟩
 ·refine (Tryz.slices_Compact_int b 0 cap l w (holds_of_blockI hg (by simpa using ht)) (by omega) (by simpa using hn)).mono ?_
  rintro e w' ⟨rfl,q,rfl⟩;have hfl:=bAh l;refine ⟨_,_,_,rfl,rfl,?_,?_,rfl⟩
  ·have:=ownsRow_putRow (enc:=Value.int .i64) (q:=q) (k:=(Lib.compact l).length) (ys:=Lib.compact l++List.replicate (l.length-(Lib.compact l).length) 0) hown (by simp;omega) hfl
   unfold KL.OwnI;simpa using this
  ·exact grownBy_sortedI (os := #[]) (n:=q) (g:=b) (w:=w) ((Lib.compact l++List.replicate (l.length-(Lib.compact l).length) 0).toArray)
theorem aSz(l:List Int)(hl:l.length≤1000000):FMM Tryz.prog 162 [.own 0] [some (.row 3 l.length (l.map aA))] (.own 1) [some .dead,some (.row 3 (Lib.compact l).length ((Lib.compact l).map aA))]:=fun C w us hus hM n=>by
 obtain ⟨u,rfl,hu⟩:=sR hus;refine (callsIn_wide.2 (aSy 0 u l w (aOj hM rfl hu) hl)).mono ?_;rintro e w' ⟨p',n',Fz,rfl,h0,h1,h2,h3⟩;obtain ⟨C',f,m,r⟩:=uM (d:=true) hM hu h1 h2 h3 (fun h=>by cases h)
 exact ⟨_,rfl,C',f,m,r⟩
end KV
end Go.Proofs
end
namespace Go.Proofs
namespace KV
open Tryz
section
variable {ou inn Bz:Bool}{t Bt C8 C9:Int}{o o' Ek:List Int}{i n s i' few base K9 many Ih:Nat}

noncomputable abbrev tD:Code:=sub (cd Tryz.f160) [1,1,0,1,0,0]
noncomputable abbrev aFt:Code:=sub (cd Tryz.f92) [1,0,1,0,0]
noncomputable abbrev aFu:Code:=sub (cd Tryz.f92) [1,0,1,0,0,1,1,0,0,1,1,1,1,1,0,0]
theorem aNy:0≤(0:Int)∧(0:Int)<2:=by first | decide | simp
theorem aNz:0≤(1:Int)∧(1:Int)<2:=by first | decide | simp
def iQ(al:List fT)(s:Nat)(t:Int)(few many i:Nat):St:=⟨fr 39 [(1,(pI (s:Int))),(2,(pI t)),(6,(pI 0)),(7,(pI 0)),(8,(pI (few:Int))),(9,(pI (many:Int))),(12,(.p (.sl al.length ((al.map hpE).flatten)))),(13,(pI (al.length:Int))),(14,(pI (i:Int)))],[]⟩
theorem cIi{al:List fT}{L6 Js Cp:Nat}(hl0:aF Tp 0 tD (iQ al s t 0 0 0) (.exit 0) (iQ al s t L6 Js Cp)):FV Tp 160 [(.p (.sl al.length ((al.map hpE).flatten))),(pI (s:Int)),(pI t)] base (.tup [(pI (L6:Int)),(pI (Js:Int))]) []:=FV.fi func160 [hl0.k 8 (gZ bz)] (gc hl0.code gn)
theorem bLo{al:List fT}{Dm:List bX}(h0:(i:Int)<(al.length:Int))(h1:al[i]? = some (Dm,C8,C9))(h2:(i:Int)=(s:Int))(h3:dv i)(Ak:i'=(i+1)):aB Tp 0 tD (iQ al s t few many i) .normal (iQ al s t few many i'):=by
 subst Ak;exact aB.fi (gZ bz) [bT,.x (.agg [(.sl Dm.length ((Dm.map chE).flatten)),(aA C8),(aA C9)]),bT] (gc h3 (gc (cT h2) (gc (nK (E:=hpE) (i:=i) (k:=3) (fun _=>rfl) h1 rfl) (gc (wO (E:=hpE) (i:=i) (k:=3) (fun _=>rfl) h1) (gc (tG (E:=hpE) (k:=3) (i:=(i:Int)) (fun _=>rfl) (by decide) (C7 _) h1) (g0 h0))))))
section
variable{al:List fT}{Dm:List bX}(h0:(i:Int)<(al.length:Int))(h1:al[i]? = some (Dm,C8,C9))(h2:(i:Int)≠(s:Int))
include h0 h1 h2
theorem bLp(h3:C9<t)(h4:dv few)(h5:C8<t)(h6:dv many)(h7:dv i)(Jt:K9=(few+1))(H0:Ih=(many+1))(Ak:i'=(i+1)):aB Tp 0 tD (iQ al s t few many i) .normal (iQ al s t K9 Ih i'):=by
 subst Jt H0 Ak;exact aB.fi (gZ bz) [bT,.x (.agg [(.sl Dm.length ((Dm.map chE).flatten)),(aA C8),(aA C9)]),bF,bT,bT] (gc h7 (gc h6 (gc (bG h5) (gc aNy (gc h4 (gc (bG h3) (gc aNz (gc (bE h2) (gc (nK (E:=hpE) (i:=i) (k:=3) (fun _=>rfl) h1 rfl) (gc (wO (E:=hpE) (i:=i) (k:=3) (fun _=>rfl) h1) (gc (tG (E:=hpE) (k:=3) (i:=(i:Int)) (fun _=>rfl) (by decide) (C7 _) h1) (g0 h0))))))))))))
theorem bLq(h3:C9<t)(h4:dv few)(h5:t≤C8)(h6:dv i)(Jt:K9=(few+1))(Ak:i'=(i+1)):aB Tp 0 tD (iQ al s t few many i) .normal (iQ al s t K9 many i'):=by
 subst Jt Ak;exact aB.fi (gZ bz) [bT,.x (.agg [(.sl Dm.length ((Dm.map chE).flatten)),(aA C8),(aA C9)]),bF,bT,bF] (gc h6 (gc (aQ h5) (gc aNy (gc h4 (gc (bG h3) (gc aNz (gc (bE h2) (gc (nK (E:=hpE) (i:=i) (k:=3) (fun _=>rfl) h1 rfl) (gc (wO (E:=hpE) (i:=i) (k:=3) (fun _=>rfl) h1) (gc (tG (E:=hpE) (k:=3) (i:=(i:Int)) (fun _=>rfl) (by decide) (C7 _) h1) (g0 h0)))))))))))
theorem bLr(h3:t≤C9)(h4:C8<t)(h5:dv many)(h6:dv i)(H0:Ih=(many+1))(Ak:i'=(i+1)):aB Tp 0 tD (iQ al s t few many i) .normal (iQ al s t few Ih i'):=by
 subst H0 Ak;exact aB.fi (gZ bz) [bT,.x (.agg [(.sl Dm.length ((Dm.map chE).flatten)),(aA C8),(aA C9)]),bF,bF,bT] (gc h6 (gc h5 (gc (bG h4) (gc aNy (gc (aQ h3) (gc aNz (gc (bE h2) (gc (nK (E:=hpE) (i:=i) (k:=3) (fun _=>rfl) h1 rfl) (gc (wO (E:=hpE) (i:=i) (k:=3) (fun _=>rfl) h1) (gc (tG (E:=hpE) (k:=3) (i:=(i:Int)) (fun _=>rfl) (by decide) (C7 _) h1) (g0 h0)))))))))))
theorem bLs(h3:t≤C9)(h4:t≤C8)(h5:dv i)(Ak:i'=(i+1)):aB Tp 0 tD (iQ al s t few many i) .normal (iQ al s t few many i'):=by
 subst Ak;exact aB.fi (gZ bz) [bT,.x (.agg [(.sl Dm.length ((Dm.map chE).flatten)),(aA C8),(aA C9)]),bF,bF,bF] (gc h5 (gc (aQ h4) (gc aNy (gc (aQ h3) (gc aNz (gc (bE h2) (gc (nK (E:=hpE) (i:=i) (k:=3) (fun _=>rfl) h1 rfl) (gc (wO (E:=hpE) (i:=i) (k:=3) (fun _=>rfl) h1) (gc (tG (E:=hpE) (k:=3) (i:=(i:Int)) (fun _=>rfl) (by decide) (C7 _) h1) (g0 h0))))))))))
end
theorem bLt{al:List fT}(h0:(al.length:Int)≤(i:Int)):aB Tp 0 tD (iQ al s t few many i) (.exit 0) (iQ al s t few many i):=aB.fi (gZ bz) [bF] (gc (aQ h0) gn)
def fP(al:List fT)(s:Nat)(t:Int):Nat→Nat × Nat
 | 0=>(0,0)
 | i+1=>match al[i]? with
  | some h=>if i=s then fP al s t i else ((if h.2.2<t then (fP al s t i).1+1 else (fP al s t i).1),(if h.2.1<t then (fP al s t i).2+1 else (fP al s t i).2))
  | none=>fP al s t i
abbrev cL(al:List fT)(s:Nat)(t:Int):Nat × Nat:=fP al s t al.length
theorem pV(al:List fT)(s:Nat)(t:Int):∀ i,(fP al s t i).1≤i∧(fP al s t i).2≤i
 | 0=>⟨dG _,dG _⟩
 | i+1=>by
  have:=pV al s t i;unfold fP
  split
  ·split
   ·omega
   ·dsimp only
    split <;> split <;> omega
  ·omega
theorem cIj(al:List fT)(s:Nat)(t:Int)(hl:al.length≤1000){base:Nat}:FV Tp 160 [.p (.sl al.length (al.map hpE).flatten),.p (aA s),.p (aA t)] base (.tup [.p (aA ((cL al s t).1:Nat)),.p (aA ((cL al s t).2:Nat))]) []:=by
 obtain ⟨a,hI,hL⟩:=aF.ex (P:=Tp) (k:=0) (b:=tD) (e := .exit 0) (fun i (a:Nat × Nat)=>iQ al s t a.1 a.2 i) (fun a=>iQ al s t a.1 a.2 al.length) (fun i a=>a=fP al s t i) (by simp) al.length
  (fun i a hi ha=>by
   obtain ⟨⟨c,mn,mx⟩,hx⟩:∃ x,al[i]? = some x:=⟨_,Av hi⟩;have hle:=pV al s t i;refine ⟨_,rfl,?_⟩;subst ha;have e:fP al s t (i+1)=if i=s then fP al s t i else ((if mx<t then (fP al s t i).1+1 else (fP al s t i).1),(if mn<t then (fP al s t i).2+1 else (fP al s t i).2)):=by
    conv=>lhs;unfold fP
    rw [hx]
   rw [e]
   by_cases his:i=s
   ·rw [if_pos his];exact bLo (by omega) hx (by omega) (aI (by omega)) rfl
   ·rw [if_neg his]
    by_cases h1:mx<t <;> by_cases h2:mn<t
    ·rw [if_pos h1,if_pos h2];exact bLp (by omega) hx (by omega) h1 (aI (by omega)) h2 (aI (by omega)) (aI (by omega)) rfl rfl rfl
    ·rw [if_pos h1,if_neg h2];exact bLq (by omega) hx (by omega) h1 (aI (by omega)) (by omega) (aI (by omega)) rfl rfl
    ·rw [if_neg h1,if_pos h2];exact bLr (by omega) hx (by omega) (by omega) h2 (aI (by omega)) (aI (by omega)) rfl rfl
    ·rw [if_neg h1,if_neg h2];exact bLs (by omega) hx (by omega) (by omega) (by omega) (aI (by omega)) rfl)
  (fun a _=>bLt (by omega)) (acc:=(0,0)) rfl
 subst hI;exact cIi hL
def oP(al:List fT)(s:Nat)(c0:List bX)(on:Nat)(oc:List PV)(ou inn:Bool)(i:Nat):St:=⟨fr 51 [(0,(.p (.sl al.length ((al.map hpE).flatten)))),(1,(pI (s:Int))),(4,(.own 0)),(5,(pB ou)),(6,(pB inn)),(16,(.p (.sl c0.length ((c0.map chE).flatten)))),(17,(pI (c0.length:Int))),(18,(pI (i:Int)))],[some (.row 3 on oc)]⟩
theorem cIk{al:List fT}{c0:List bX}{Wk Wl:Int}{I3:List Int}{Pw L8:Bool}{Wm:Nat}(h0:al[s]? = some (c0,Wk,Wl))(hl1:aF Tp 0 aFt (oP al s c0 0 [] false false 0) (.exit 0) (oP al s c0 I3.length (I3.map aA) Pw L8 Wm))(h2:I3.length≤1000000)(h3:(I3.mergeSort KL.leB).length≤1000000):FV Tp 92 [(.p (.sl al.length ((al.map hpE).flatten))),(pI (s:Int))] base (.tup [(.p (aE (Lib.compact (I3.mergeSort KL.leB)))),(pB Pw),(pB L8)]) []:=have k1:=mq [0] 1 (sortI_ok I3 h2);have k2:=mq [0] 1 (aSz (I3.mergeSort KL.leB) h3);FV.frz (FMM.fi 0 ⟨[],[],[1],[]⟩ func92 [.x (.sl c0.length ((c0.map chE).flatten)),hl1.k 1 (gN c6 [0] [(4,3),(5,0),(6,0)]),k1.o,k2.o] (gc k2 (gc k1 (gc hl1.code (gt (((al.map hpE).flatten)[(s*3)]? = some (.sl c0.length ((c0.map chE).flatten))) (bNa (E:=hpE) (i:=s) (f:=0) (k:=3) (fun _=>rfl) h0 rfl) (gc (tG (E:=hpE) (k:=3) (i:=(s:Int)) (fun _=>rfl) (by decide) (C7 _) h0) gn)))))) (by kernel_rfl)
def oQ(al:List fT)(s:Nat)(c0:List bX)(ou:Bool)(i:Nat)(Bt:Int)(Bz:Bool)(Ek:List Int)(on:Nat)(oc:List PV)(n:Nat):St:=⟨fr 51 [(0,(.p (.sl al.length ((al.map hpE).flatten)))),(1,(pI (s:Int))),(4,(.own 0)),(5,(pB ou)),(6,(.kb true)),(8,(.ptr 1 0)),(9,(pI (((cL al s Bt).1:Nat):Int))),(10,(pI (((cL al s Bt).2:Nat):Int))),(11,(pI (n:Int))),(16,(.p (.sl c0.length ((c0.map chE).flatten)))),(17,(pI (c0.length:Int))),(18,(pI (i:Int))),(19,(pB (decide ((i:Int)<(c0.length:Int))))),(20,(.rp ((c0.map chE).flatten) (i*3))),(21,(.p (.agg [(aA Bt),(blP Bz),(aE Ek)]))),(22,(.ptr 1 1)),(23,(pB Bz)),(24,(.tup [(pI (((cL al s Bt).1:Nat):Int)),(pI (((cL al s Bt).2:Nat):Int))])),(25,(.p (.sl al.length ((al.map hpE).flatten)))),(26,(pI (s:Int))),(27,(.ptr 1 0)),(28,(pI Bt)),(29,(.tup [(pI (((cL al s Bt).1:Nat):Int)),(pI (((cL al s Bt).2:Nat):Int))])),(30,(pI (((cL al s Bt).1:Nat):Int))),(31,(pI (((cL al s Bt).2:Nat):Int))),(32,(pI (((cL al s Bt).1:Nat):Int))),(33,(pI ((((cL al s Bt).1+1):Nat):Int)))],[some (.row 3 on oc),some (.box 234 [(pI Bt),(pB Bz),(.p (aE Ek))])]⟩
section
variable{c0:List bX}(h0:(i:Int)<(c0.length:Int))(h1:c0[i]? = some (Bt,Bz,Ek))
include h0 h1
theorem bLu{al:List fT}(h2:Bz=true)(h3:dv i)(Ak:i'=(i+1)):aB Tp 0 aFt (oP al s c0 o.length (o.map aA) ou inn i) .normal (oP al s c0 o.length (o.map aA) true inn i'):=by
 subst Ak;exact aB.fi (gN c6 [0] [(5,0)]) [bT,.x (.agg [(aA Bt),(blP Bz),(aE Ek)]),bT] (gc h3 (gc h2 (gc (nK (E:=chE) (i:=i) (k:=3) (fun _=>rfl) h1 rfl) (gc (wO (E:=chE) (i:=i) (k:=3) (fun _=>rfl) h1) (gc (tG (E:=chE) (k:=3) (i:=(i:Int)) (fun _=>rfl) (by decide) (C7 _) h1) (g0 h0))))))
theorem bLv{al:List fT}{Ii:List Int}{Px:Nat}(h2:Bz=false)(h3:al.length≤1000)(h4:inR ((((cL al s Bt).1+1):Nat):Int))(Fw:aF Tp 0 aFu (oQ al s c0 ou i Bt Bz Ek o.length (o.map aA) ((cL al s Bt).1+1)) (.exit 2) (oQ al s c0 ou i Bt Bz Ek Ii.length (Ii.map aA) Px))(h6:dv i)(A6:o'.length=Ii.length)(A7:o'.map aA=(Ii.map aA))(Ak:i'=(i+1)):aB Tp 0 aFt (oP al s c0 o.length (o.map aA) ou inn i) .normal (oP al s c0 o'.length (o'.map aA) ou true i'):=by
 subst Ak;have k1:=fk 2 (cIj al s Bt h3) rfl;rw [A6,A7];exact aB.fi (gN c6 [0] [(6,0)]) [bT,.x (.agg [(aA Bt),(blP Bz),(aE Ek)]),bF,k1.o,Fw.k 3 (gI bc [0,1])] (gc h6 (gc Fw.code (gc h4 (gc k1 (gc h2 (gc (nK (E:=chE) (i:=i) (k:=3) (fun _=>rfl) h1 rfl) (gc (wO (E:=chE) (i:=i) (k:=3) (fun _=>rfl) h1) (gc (tG (E:=chE) (k:=3) (i:=(i:Int)) (fun _=>rfl) (by decide) (C7 _) h1) (g0 h0)))))))))
end
theorem bLw{al:List fT}{c0:List bX}(h0:(c0.length:Int)≤(i:Int)):aB Tp 0 aFt (oP al s c0 o.length (o.map aA) ou inn i) (.exit 0) (oP al s c0 o.length (o.map aA) ou inn i):=aB.fi (gI c6 [0]) [bF] (gc (aQ h0) gn)
section
variable{al:List fT}(h0:inR ((((cL al s Bt).2+1):Nat):Int))
include h0
theorem bLx{c0:List bX}{n':Nat}(h1:(n:Int)≤((((cL al s Bt).2+1):Nat):Int))(h2:[(aA (n:Int))].length=1*1∧o.length+1≤1000000)(h3:dv n)(A6:o'.length=(o.length+1))(A7:o'.map aA=((o.map aA)++[(aA (n:Int))]))(Wn:n'=(n+1)):aB Tp 0 aFu (oQ al s c0 ou i Bt Bz Ek o.length (o.map aA) n) .normal (oQ al s c0 ou i Bt Bz Ek o'.length (o'.map aA) n'):=by
 subst Wn;rw [A6,A7];exact aB.fi (gI bc [3,1]) [bT] (gc h3 (gc h2 (gc (aCh h1) (gc h0 gn))))
theorem bLy{c0:List bX}(h1:((((cL al s Bt).2+1):Nat):Int)<(n:Int)):aB Tp 0 aFu (oQ al s c0 ou i Bt Bz Ek o.length (o.map aA) n) (.exit 2) (oQ al s c0 ou i Bt Bz Ek o.length (o.map aA) n):=aB.fi (gI bc [0,1]) [bF] (gc (kT h1) (gc h0 gn))
end
def aIf(few many:Nat):List Int:=(List.range (many+1-few)).map fun j=>((few+1+j:Nat):Int)
def chL(al:List fT)(s:Nat)(c:bX):List Int:=if c.2.1 then [] else aIf (cL al s c.1).1 (cL al s c.1).2
def uX(al:List fT)(s:Nat)(c:List bX):List Int:=Lib.compact ((c.flatMap (chL al s)).mergeSort KL.leB)
theorem bTr{a b:Nat}(h:b≤1000):(aIf a b).length≤1001:=by unfold aIf;simp;omega
theorem cAm(al:List fT)(hal:al.length≤1000)(s:Nat)(c:bX):(chL al s c).length≤1001:=by
 unfold chL
 split
 ·simp
 ·exact bTr (by have:(cL al s c.1).2≤al.length:=(pV al s c.1 al.length).2;omega)
theorem aZn{al:List fT}(hal:al.length≤1000)(s:Nat):∀ c:List bX,(c.flatMap (chL al s)).length≤c.length*1001
 | []=>by simp
 | x::c=>by
  rw [List.flatMap_cons,jT,nM];have:=cAm al hal s x;have:=aZn hal s c;omega
theorem cIl{al:List fT}(hal:al.length≤1000)(s:Nat)(c0:List bX)(ou:Bool)(i:Nat)(t:Int)(b:Bool)(q o:List Int)(ho:o.length≤900000) :
  ∃ n',aF Tp 0 aFu (oQ al s c0 ou i t b q o.length (o.map aA) ((cL al s t).1+1)) (.exit 2) (oQ al s c0 ou i t b q (o++aIf (cL al s t).1 (cL al s t).2).length ((o++aIf (cL al s t).1 (cL al s t).2).map aA) n'):=by
 have h1:(cL al s t).1≤al.length:=(pV al s t al.length).1;have h2:(cL al s t).2≤al.length:=(pV al s t al.length).2;obtain ⟨x,hI,hL⟩:=aF.ex (P:=Tp) (k:=0) (b:=aFu) (e := .exit 2) (fun j (x:List Int)=>oQ al s c0 ou i t b q x.length (x.map aA) ((cL al s t).1+1+j)) (fun x=>oQ al s c0 ou i t b q x.length (x.map aA) ((cL al s t).1+1+((cL al s t).2+1-(cL al s t).1)))
  (fun j x=>x=o++(List.range j).map fun j=>(((cL al s t).1+1+j:Nat):Int)) (by simp) ((cL al s t).2+1-(cL al s t).1)
  (fun j x hj hx=>by
   have hlen:x.length=o.length+j:=by rw [hx];simp
   refine ⟨x++[(((cL al s t).1+1+j:Nat):Int)],?_,bLx (aI (by omega)) (by omega) ⟨rfl,by omega⟩ (aI (by omega)) (by simp) (by simp) rfl⟩
   rw [hx,List.range_succ];simp)
  (fun x _=>bLy (aI (by omega)) (by omega)) (acc:=o) (by simp)
 rw [show o++aIf (cL al s t).1 (cL al s t).2=x from hI.symm]
 exact ⟨_,hL⟩
theorem bTs{al:List fT}(hal:al.length≤1000){s:Nat}{c:List bX}{mn mx:Int}(hx:al[s]? = some (c,mn,mx))(hc:c.length≤256){base:Nat} :
  FV Tp 92 [.p (.sl al.length (al.map hpE).flatten),.p (aA s)] base (.tup [.p (aE (uX al s c)),.p (blP (c.any fun x=>x.2.1)),.p (blP (c.any fun x => !x.2.1))]) []:=by
 obtain ⟨a,⟨hI,hJ,hK⟩,hL⟩:=aF.ex (P:=Tp) (k:=0) (b:=aFt) (e := .exit 0) (fun i (a:List Int × Bool × Bool)=>oP al s c a.1.length (a.1.map aA) a.2.1 a.2.2 i) (fun a=>oP al s c a.1.length (a.1.map aA) a.2.1 a.2.2 c.length)
  (fun i a=>a.1=(c.take i).flatMap (chL al s)∧a.2.1=((c.take i).any fun x=>x.2.1)∧a.2.2=((c.take i).any fun x => !x.2.1)) (by simp) c.length
  (fun i a hi ha=>by
   obtain ⟨Nv,Wo,Wp⟩:=ha;obtain ⟨⟨t,b,q⟩,hx⟩:∃ x,c[i]? = some x:=⟨_,Av hi⟩;have hlen:a.1.length≤256*1001:=by
    rw [Nv];have:=aZn hal s (c.take i);rw [jV] at this
    have:min i c.length≤256:=by omega
    omega
   have e1:c.take (i+1)=c.take i++[(t,b,q)]:=by rw [List.take_add_one,hx];rfl
   cases b with
   | true=>exact ⟨(a.1,true,a.2.2),⟨by rw [Nv,e1];simp [chL],by rw [e1];simp,by rw [Wp,e1];simp⟩,bLu (by omega) hx rfl (aI (by omega)) rfl⟩
   | false =>
    have h1:(cL al s t).1≤al.length:=(pV al s t al.length).1;obtain ⟨n',hl⟩:=cIl hal s c a.2.1 i t false q a.1 (by omega)
    exact ⟨(a.1++aIf (cL al s t).1 (cL al s t).2,a.2.1,true),⟨by rw [Nv,e1];simp [chL],by rw [Wo,e1];simp,by rw [e1];simp⟩,bLv (by omega) hx rfl hal (aI (by omega)) hl (aI (by omega)) rfl rfl rfl⟩)
  (fun a _=>bLw (by omega)) (acc:=([],false,false)) (by simp)
 rw [List.take_length] at hI hJ hK
 have hb:=aZn hal s c;have:=cIk (s:=s) hx hL (by rw [hI];omega) (by rw [bRa,hI];omega) (base:=base)
 rw [hI,hJ,hK] at this
 exact this
end
section

theorem aNx{dl:Int}{sk dc:Lqq}(h:cK dl sk dc):uni 2 (aC sk)∧(aC sk).length≤30∧(∀ s∈aC sk,-1≤s.getD 1 0∧s.getD 1 0≤360000)∧(aZ (aC sk) 0).Nodup:=by
 have hp:=dO sk;refine ⟨mU h.us,by rw [eI];exact h.len.2,fun s hs=>(aNb.1 (h.hsk s (hp.mem_iff.1 hs))).2,?_⟩
 unfold aZ;exact (hp.map _).nodup_iff.2 h.ns
theorem cAl{dl:Int}{sk dc:Lqq}(h:cK dl sk dc)(ho:(cP dl (aC dc)).length≤8){base:Nat}:FV Tp 91 [sX dl (aC sk) (aC dc)] base (.tup [.own base,.p (aA 0)]) [(base,.row 232 (bY dl (aC sk) (aC dc)).length ((bY dl (aC sk) (aC dc)).map hpE).flatten)]:=by
 obtain ⟨h1,h2,h3,_⟩:=aNx h;exact cIn (kK h) h1 (by omega) h3 ho
end
section

end
end KV
end Go.Proofs
section
namespace Go.Proofs
open Go.RowKit Go.Lib
namespace KV
open Tryz
theorem cAi(o:List Int):kL o≠[]:=fun h=>by
 have:=yL o;rw [h] at this
 have:=Nat.two_pow_pos o.length;simp at *
 omega
theorem aSl(l:List bX):∀ m,l.foldl (fun m x=>if x.1<m then x.1 else m) m≤m∧∀ x∈l,l.foldl (fun m x=>if x.1<m then x.1 else m) m≤x.1:=by
 induction l with
 | nil=>intro m;exact ⟨aXg _,fun x h=>by cases h⟩
 | cons a l ih =>
  intro m;rw [qT];obtain ⟨h1,h2⟩:=ih (if a.1<m then a.1 else m)
  have ha:(if a.1<m then a.1 else m)≤m∧(if a.1<m then a.1 else m)≤a.1:=by split <;> omega
  exact ⟨by omega,fun x hx=>by
   rcases gK.1 hx with rfl | hx
   ·omega
   ·exact h2 x hx⟩
theorem aSm(l:List bX):∀ m,m≤l.foldl (fun m x=>if x.1 > m then x.1 else m) m∧∀ x∈l,x.1≤l.foldl (fun m x=>if x.1 > m then x.1 else m) m:=by
 induction l with
 | nil=>intro m;exact ⟨aXg _,fun x h=>by cases h⟩
 | cons a l ih =>
  intro m;rw [qT];obtain ⟨h1,h2⟩:=ih (if a.1 > m then a.1 else m)
  have ha:m≤(if a.1 > m then a.1 else m)∧a.1≤(if a.1 > m then a.1 else m):=by split <;> omega
  exact ⟨by omega,fun x hx=>by
   rcases gK.1 hx with rfl | hx
   ·omega
   ·exact h2 x hx⟩
theorem cAj{l:List bX}(h:l≠[]):mnM l≤mxM l:=by
 obtain ⟨x,hx⟩:=List.exists_mem_of_ne_nil l h;exact Int.le_trans ((aSl l far).2 x hx) ((aSm l 0).2 x hx)
theorem cAk(dl:Int)(dc:Lqq)(s0 s1:Int)(o:List Int):(nJ dl dc s0 s1 o).2.1≤(nJ dl dc s0 s1 o).2.2:=cAj fun h=>cAi o (List.map_eq_nil_iff.1 h)
theorem aKm(dl:Int)(sk dc:Lqq):(bY dl sk dc).length=sk.length:=by unfold bY;simp
theorem aFs{dl:Int}{sk dc:Lqq}{i:Nat}{s:List Int}(h:sk[i]? = some s):(bY dl sk dc)[i]? = some (nJ dl dc (s.getD 0 0) (s.getD 1 0) (rS dl dc (s.getD 0 0))):=by
 unfold bY;rw [jU,h];rfl
theorem bTp{dl:Int}{dc:Lqq}{s0 s1:Int}(b:Int)(ho:(cP dl dc).length≤8):(nJ dl dc s0 s1 (rS dl dc b)).1.length≤256:=by
 show ((kL (rS dl dc b)).map _).length≤256;rw [B9,yL];have:=bTt dl dc b;exact gL (Nat.pow_le_pow_right (by omega) (show (rS dl dc b).length≤8 by omega)) (by decide)
theorem bEr{al:List fT}(h:∀ x∈al,x.2.1≤x.2.2)(s:Nat)(t:Int):∀ i,(fP al s t i).1≤(fP al s t i).2
 | 0=>dG _
 | i+1=>by
  have ih:=bEr h s t i;unfold fP
  split
  ·rename_i x hx
   have:=h x (Bp hx)
   split
   ·exact ih
   ·dsimp only
    split <;> split <;> omega
  ·exact ih
theorem aZm{l:List Int}(h:l≠[]):Lib.compact l≠[]:=fun e=>by
 have:(Lib.compact l).length=0:=by rw [e];rfl
 unfold Lib.compact Lib.compactUpTo at this
 rw [B9] at this
 have h0:0∈(List.range l.length).filter (Lib.keeps l.toArray):=qR.2 ⟨lC.2 (List.length_pos_iff.2 h),Lib.keeps_lt_one _ 0 (by omega)⟩
 rw [uS this] at h0
 cases h0
theorem cIh{al:List fT}(h:∀ x∈al,x.2.1≤x.2.2)(s:Nat){c:List bX}(hc:(c.any fun x => !x.2.1)=true):uX al s c≠[]:=by
 unfold uX;refine aZm fun e => ?_
 have e2:c.flatMap (chL al s)=[]:=by
  have:=bRa (le:=KL.leB) (c.flatMap (chL al s));rw [e] at this
  exact uS this.symm
 obtain ⟨x,hx,hn⟩:=List.any_eq_true.1 hc;have h1:chL al s x=[]:=List.flatMap_eq_nil_iff.1 e2 x hx;have hf:x.2.1=false:=by simpa using hn
 unfold chL aIf at h1
 rw [hf] at h1
 have:=congrArg List.length h1;have hl:=bEr h s x.1 al.length;simp at this
 have h3:(cL al s x.1).1≤(cL al s x.1).2:=hl;omega
theorem bTq(dl:Int)(sk dc:Lqq):∀ x∈bY dl sk dc,x.2.1≤x.2.2:=fun x hx=>by
 obtain ⟨s,_,rfl⟩:=Bq.1 hx;exact cAk ..
end KV
end Go.Proofs
end
namespace Go.Proofs
namespace KV
open Tryz
section
end
section
variable {c Ad Au:Int}{a b:List Int}{i Aw base:Nat}

noncomputable abbrev aAe:Code:=sub (cd Tryz.f38) [1,1,0,1,0,0]
theorem cIb{dl:Int}{sk dc:Lqq}{bib:Int}{i0:Nat}{s1 s2 n3:Int}{b4:Bool}{T5:Lqb}(h0:cK dl sk dc)(h1:cMr (aC sk) bib=(i0:Int))(h2:(aC sk)[i0]? = some [s1,s2])(h3:bJs dl (aC sk) (aC dc) cR [s1,s2] n3 b4 ([]:Lqb) T5):FV Tp 65 [(.p (.agg (kF dl sk dc))),(pI bib)] base (.tup [(pI n3),(pB b4),(pI 0)]) []:=have k1:=fk 1 (cJf h0 h1 h2) rfl;have k2:=mN [] 2 (aNn (dl:=dl) (sk:=(aC sk)) (dc:=(aC dc)));have k3:=mq [2,3,4,5,6,7,8] 10 h3;FV.fi func65 [k1.o,bF,k2.o,k3.o] (gc k3 (gc k2 (gt (((0:Int) != 0)=false) (by first | decide | simp) (gc k1 gn))))
def lG(a b:List Int)(i:Nat):St:=⟨fr 26 [(0,(.p (aE a))),(1,(.p (aE b))),(12,(pI (a.length:Int))),(13,(pI (i:Int)))],[]⟩
theorem cIc(h0:(a.length:Int)≠(b.length:Int)):FV Tp 38 [(.p (aE a)),(.p (aE b))] base (pB false) []:=FV.fi func38 [bT] (gc (kS h0) gn)
theorem cId(h0:(a.length:Int)=(b.length:Int))(hl1:aF Tp 0 aAe (lG a b 0) (.exit 0) (lG a b Aw)):FV Tp 38 [(.p (aE a)),(.p (aE b))] base (pB true) []:=FV.fi func38 [bF,hl1.k 4 (gZ dg)] (gc hl1.code (gc (fW h0) gn))
theorem cIe(h0:(a.length:Int)=(b.length:Int))(hl1:aF Tp 0 aAe (lG a b 0) .ret (cD (lG a b Aw) [(4,(.kb false))])):FV Tp 38 [(.p (aE a)),(.p (aE b))] base (pB false) []:=FV.fi func38 [bF,hl1.k 4 (gZ dg)] (gc hl1.code (gc (fW h0) gn))
section
variable(h0:(i:Int)<(a.length:Int))(h1:a[i]? = some Ad)(h2:b[i]? = some Au)
include h0 h1 h2
theorem bLl(h3:Ad≠Au):aB Tp 0 aAe (lG a b i) .ret (cD (lG a b i) [(4,(.kb false))]):=aB.fi (gZ [2,2,5,7,14,12]) [bT,.x (aA Ad),.x (aA Au),bT] (gc (kS h3) (gc (atm aA h2) (gc (ixn aA h2) (gc (atm aA h1) (gc (ixn aA h1) (g0 h0))))))
theorem bLm{i':Nat}(h3:Ad=Au)(h4:dv i)(Ak:i'=(i+1)):aB Tp 0 aAe (lG a b i) .normal (lG a b i'):=by
 subst Ak;exact aB.fi (gZ dg) [bT,.x (aA Ad),.x (aA Au),bF] (gc h4 (gc (fW h3) (gc (atm aA h2) (gc (ixn aA h2) (gc (atm aA h1) (gc (ixn aA h1) (g0 h0)))))))
end
theorem bLn(h0:(a.length:Int)≤(i:Int)):aB Tp 0 aAe (lG a b i) (.exit 0) (lG a b i):=aB.fi (gZ dg) [bF] (gc (aQ h0) gn)
theorem cIf(a b:List Int)(hl:a.length≤1000){base:Nat}:FV Tp 38 [.p (aE a),.p (aE b)] base (pB (decide (a=b))) []:=by
 by_cases hlen:a.length=b.length
 ·rcases aF.find (P:=Tp) (k:=0) (b:=aAe) (fun i=>lG a b i) (fun i _=>cD (lG a b i) [(4,.kb false)]) (lG a b a.length) .ret (.exit 0) (by simp) (by simp) (fun j=>decide (a.getD j 0≠b.getD j 0)) (List.range a.length)
   (fun i x hx hp=>by
    have hi:i<a.length:=by have:=aT hx;simpa using this
    have hxi:x=i:=by rw [bRc hi] at hx;exact (Option.some.inj hx).symm
    subst hxi;have h1:a[x]? = some (a.getD x 0):=by rw [Bw,Av hi];rfl
    have h2:b[x]? = some (b.getD x 0):=by rw [Bw,Av (by omega)];rfl
    have he:=of_decide_eq_false hp;exact bLm (by omega) h1 h2 (Classical.not_not.1 he) (aI (by omega)) rfl)
   (fun i x hx hp=>by
    have hi:i<a.length:=by have:=aT hx;simpa using this
    have hxi:x=i:=by rw [bRc hi] at hx;exact (Option.some.inj hx).symm
    subst hxi;have h1:a[x]? = some (a.getD x 0):=by rw [Bw,Av hi];rfl
    have h2:b[x]? = some (b.getD x 0):=by rw [Bw,Av (by omega)];rfl
    exact bLl (by omega) h1 h2 (of_decide_eq_true hp))
   (by rw [aRl];exact bLn (by omega)) with ⟨i,x,h1,h2,h3,h4⟩ | ⟨h1,h2,h3⟩
  ·have he:=of_decide_eq_true h3
   rw [decide_eq_false (fun e=>he (by rw [e]))]
   exact cIe (by omega) h4
  ·have hall:∀ i,i<a.length→a.getD i 0=b.getD i 0:=fun i hi=>by
    have:=List.any_eq_false.1 h2 i (lC.2 hi);simpa using this
   have e:a=b:=by
    apply List.ext_getElem hlen;intro i h1 h2;have:=hall i h1
    rwa [Bw,Bw,Av h1,Av h2] at this
   rw [decide_eq_true e];exact cId (by omega) h3
 ·rw [decide_eq_false (fun e=>hlen (by rw [e]))]
  exact cIc (by omega)
theorem cIg{a b:Int}:FV Tp 130 [(pI a),(pI b),(pI c)] base (.p (dcE a 0 0 b c 0)) []:=FV.fi func130 [] gn
theorem aNw{a b d e:Int}:FV Tp 131 [(pI a),(pI b),(pI c),(pI d),(pI e)] base (.p (dcE a b d 0 e c)) []:=FV.fi func131 [] gn
end
section
theorem ofO(l:List Int):FMM Tp 8 [.p (.sl l.length (l.map bW))] [] (.ptr 0 0) [some (eV l 0 17)]:=cMd
def cEz(ns nd:Int)(l:List Int)(nx st:Int)(r:Lqq × Lqq × Int × Int):Prop :=
 cK 30 r.1 r.2.1∧(r.1.length:Int)≤ns∧(r.2.1.length:Int)≤nd∧(0≤r.2.2.1∧r.2.2.1≤4000)∧(r.1.Pairwise fun a b=>a.getD 0 0<b.getD 0 0)∧(r.2.1.Pairwise fun a b=>a.getD 0 0<b.getD 0 0)∧(∀ x∈r.2.1,x.getD 0 0≤80)∧(∀ x∈r.1,x.getD 0 0≤88∧x.getD 1 0≤16000) ∧
  FMM Tp 7 [.ptr 0 0,.p (aA ns),.p (aA nd)] [some (eV l nx st)] (.p (.agg (kF 30 r.1 r.2.1))) [some (eV l r.2.2.1 r.2.2.2)]
open Classical in
noncomputable def bIq(ns nd:Int)(l:List Int)(nx st:Int):Lqq × Lqq × Int × Int:=if h:∃ r,cEz ns nd l nx st r then Classical.choose h else ([],[],0,0)
theorem aRr{ns nd:Int}{l:List Int}{nx st:Int}(hns:1≤ns∧ns≤30)(hnd:0≤nd∧nd≤40)(hnx:0≤nx∧nx≤900):cEz ns nd l nx st (bIq ns nd l nx st):=by
 obtain ⟨sk,dc,mx,tt,h⟩:=cFc (ns:=ns) (nd:=nd) (l:=l) (nx:=nx) (st:=st) hns hnd hnx;have hex:∃ r,cEz ns nd l nx st r:=⟨(sk,dc,mx,tt),h⟩;unfold bIq;rw [dif_pos hex];exact Classical.choose_spec hex
theorem bRt{sk dc:Lqq}{Hf Am:Int}(ns nd:Int)(l:List Int)(nx st:Int)(h:0≤nx∧nx≤900)(hs:1≤ns∧ns≤30)(hd:0≤nd∧nd≤40)(e:bIq ns nd l nx st=(sk,dc,Hf,Am)):FMM Tp 7 [.ptr 0 0,.p (aA ns),.p (aA nd)] [some (eV l nx st)] (.p (.agg (kF 30 sk dc))) [some (eV l Hf Am)]:=by
 have:=(aRr (l:=l) (st:=st) hs hd h).2.2.2.2.2.2.2.2;rw [e] at this
 exact this
end
section
abbrev sB(s:List Int):Int:=s.getD 0 0
abbrev sT(s:List Int):Int:=s.getD 1 0
def fC(dl:Int)(oc:List Int)(dc sk:Lqq):Lqq:=(sk.filter fun s => !(cI dl oc dc (sB s) (sT s)).2).map fun s=>[sB s,0,(cI dl oc dc (sB s) (sT s)).1]
def fL(dl:Int)(oc:List Int)(dc sk:Lqq):Lqq:=(sk.filter fun s=>(cI dl oc dc (sB s) (sT s)).2).map fun s=>[sB s,-1,0]
def plN(A:Lqq)(t:Int):Int:=match A.getLast? with
 | some y=>if y.getD 2 0=t then y.getD 1 0 else (A.length:Int)+1
 | none=>(A.length:Int)+1
def plS(A:Lqq)(x:List Int):Lqq:=A++[[x.getD 0 0,plN A (x.getD 2 0),x.getD 2 0]]
def jI(l:Lqq):Lqq:=l.foldl plS []
def eK(dl:Int)(oc:List Int)(dc sk:Lqq):Lqq:=jI (isort (ltK 2) (fC dl oc dc sk))++fL dl oc dc sk

theorem cBr(A D:List PV)(a b c v:PV):(A++[a,b,c]++D).set (A.length+1) v=A++[a,v,c]++D:=by
 induction A with
 | nil=>rfl
 | cons x A ih=>simp
theorem aCy{L:Lqq}{j:Nat}{a b c:Int}(hu:uni 3 L)(hj:L[j]? = some [a,b,c])(v:Int):(L.flatten.map aA).set (j*3+1) (aA v)=((L.set j [a,v,c]).flatten.map aA):=by
 obtain ⟨hlt,he⟩:=Bs.1 hj;have h0:=kE (k:=3) (i:=j) (x:=[a,b,c]) hu hlt rfl;have h1:=kE (k:=3) (i:=j) (x:=[a,v,c]) hu hlt rfl;have hs:L.set j [a,b,c]=L:=by rw [← he];exact List.set_getElem_self hlt
 rw [hs] at h0
 rw [← h1];have hl:((L.flatten.map aA).take (j*3)).length=j*3:=by
  have:=eA hu hj;rw [jV];omega
 have:=cBr ((L.flatten.map aA).take (j*3)) ((L.flatten.map aA).drop (j*3+3)) (aA a) (aA b) (aA c) (aA v);rw [hl] at this
 conv=>lhs;rw [← h0]
 exact this
theorem cBs(A:Lqq)(x:List Int):(plS A x).length=A.length+1:=by simp [plS]
theorem bFc(l:Lqq):∀ A:Lqq,(l.foldl plS A).length=A.length+l.length:=by
 induction l with
 | nil=>intro A;simp
 | cons x l ih=>intro A;rw [qT,ih,cBs];simp;omega
theorem aOk(l:Lqq):∀ A:Lqq,uni 3 A→uni 3 (l.foldl plS A):=by
 induction l with
 | nil=>intro A h;exact h
 | cons x l ih =>
  intro A h;rw [qT];refine ih _ fun y hy => ?_
  unfold plS at hy
  rcases fV.1 hy with hy | hy
  ·exact h y hy
  ·rw [List.mem_singleton.1 hy];rfl
section
variable {dl:Int} {sk dc:Lqq} {oc:List Int} {ov:PV}
theorem bAi(l:Lqq)(hu:uni 3 l)(hl:l.length<1000)(p q:Lqq)(hp:(isort (ltK 2) p).length=l.length)(t:Lqb) :
  aF Tp 7 (sub (cd Tryz.f53) cj) (kM dl sk dc ov p q t l.length (l.flatten.map aA) 0) (.exit 2) (kM dl sk dc ov p q t (jI l).length ((jI l).flatten.map aA) l.length):=by
 let St (j:Nat):Lqq:=(l.take j).foldl plS []++l.drop j
 have hlen:∀ j,j≤l.length→((l.take j).foldl plS []).length=j:=fun j hj=>by rw [bFc];simp;omega
 have hlS:∀ j,j≤l.length→(St j).length=l.length:=fun j hj=>by
  show (_++_:Lqq).length=_;rw [jT,hlen j hj,bHq];omega
 have huS:∀ j,uni 3 (St j):=fun j y hy=>by
  rcases fV.1 hy with hy | hy
  ·exact aOk _ [] (fun z hz=>by cases hz) y hy
  ·exact hu y (List.mem_of_mem_drop hy)
 have:=aF.count (P:=Tp) (k:=7) (b:=sub (cd Tryz.f53) cj) (e := .exit 2) (R:=kM dl sk dc ov p q t (jI l).length ((jI l).flatten.map aA) l.length) l.length
  (fun j=>kM dl sk dc ov p q t (St j).length ((St j).flatten.map aA) j)
  (fun j hj=>by
   have hx:=hu _ (fG hj);obtain ⟨a,b,c,hx⟩:=E6 hx;have hA:=hlen j (by omega)
   have e1:(l.take (j+1)).foldl plS []=plS ((l.take j).foldl plS []) [a,b,c]:=by
    rw [List.take_add_one,Av hj,hx];rw [xX];rfl
   have hdr:l.drop j=[a,b,c]::l.drop (j+1):=by rw [aRk hj,hx]
   have g1:(St j)[j]? = some [a,b,c]:=by
    show ((l.take j).foldl plS []++l.drop j)[j]? = _;rw [zO (by omega),hA,bHr,hdr];rfl
   have hset:∀ v,(St j).set j [a,v,c]=(l.take j).foldl plS []++[a,v,c]::l.drop (j+1):=fun v=>by
    show ((l.take j).foldl plS []++l.drop j).set j [a,v,c]=_;rw [List.set_append_right _ _ (by omega),hA,bHr,hdr];rfl
   have hnext:St (j+1)=(St j).set j [a,plN ((l.take j).foldl plS []) c,c]:=by
    rw [hset];show (l.take (j+1)).foldl plS []++l.drop (j+1)=_;rw [e1];unfold plS;rw [List.append_assoc];rfl
   have hle:=eA (huS j) g1;have hpl:(j:Int)<((isort (ltK 2) p).length:Int):=by rw [hp];omega
   rw [hnext]
   rcases Nat.eq_zero_or_pos j with h0 | hpos
   ·have hn:plN ((l.take j).foldl plS []) c=(j:Int)+1:=by
     subst h0;rfl
    rw [hn];exact bMv (L:=St j) (L':=(St j).set j [a,((j+1:Nat):Int),c]) (by exact_mod_cast hpl) (aI (by omega)) g1 (by omega) (by omega) (by simp) (aCy (huS j) g1 _).symm rfl
   ·have g2:∃ y0 y1 y2,((l.take j).foldl plS []).getLast? = some [y0,y1,y2]∧(St j)[((j:Int)-1).toNat]? = some [y0,y1,y2]:=by
     have hlt:j-1<((l.take j).foldl plS []).length:=by omega
     have h3:=aOk (l.take j) [] (fun z hz=>by cases hz) _ (fG hlt)
     obtain ⟨y0,y1,y2,hy⟩:=E6 h3;refine ⟨y0,y1,y2,?_,?_⟩
     ·rw [List.getLast?_eq_getElem?,hA,Av hlt,hy]
     ·show ((l.take j).foldl plS []++l.drop j)[((j:Int)-1).toNat]? = _
      rw [show ((j:Int)-1).toNat=j-1 by omega,zP hlt,Av hlt,hy]
    obtain ⟨y0,y1,y2,g3,g4⟩:=g2
    by_cases hc:c=y2
    ·have hn:plN ((l.take j).foldl plS []) c=y1:=by
      unfold plN;rw [g3];show (if y2=c then y1 else _)=y1
      rw [if_pos hc.symm]
     rw [hn];have Xb:uni 3 ((St j).set j [a,((j+1:Nat):Int),c]):=aCr (huS j) rfl;have g5:((St j).set j [a,((j+1:Nat):Int),c])[j]? = some [a,((j+1:Nat):Int),c]:=by
      rw [List.getElem?_set_self (by rw [hlS j (by omega)];omega)]
     refine bMt (L:=St j) (L':=(St j).set j [a,y1,c]) (by exact_mod_cast hpl) (aI (by omega)) g1 (by omega) (by omega) (huS j) (by show _∧_;omega) g4 (by omega) hc (by rw [zS];omega) (by simp) ?_ rfl
     rw [aCy (huS j) g1,aCy Xb g5,List.set_set]
    ·have hn:plN ((l.take j).foldl plS []) c=(j:Int)+1:=by
      unfold plN;rw [g3];show (if y2=c then y1 else _)=_
      rw [if_neg (fun h=>hc h.symm),hA]
     rw [hn];exact bMu (L:=St j) (L':=(St j).set j [a,((j+1:Nat):Int),c]) (by exact_mod_cast hpl) (aI (by omega)) g1 (by omega) (by omega) (huS j) (by show _∧_;omega) g4 (by omega) hc (by simp) (aCy (huS j) g1 _).symm rfl)
  (by
   have e:St l.length=jI l:=by
    show (l.take l.length).foldl plS []++l.drop l.length=_;rw [List.take_length,List.drop_length,List.append_nil];rfl
   rw [e];exact bMw (by rw [hp];omega)) (by simp)
 exact this
theorem aKs:(fC dl oc dc sk).length≤sk.length:=by
 unfold fC;rw [B9];exact zR _ _
theorem aGa:(fL dl oc dc sk).length≤sk.length:=by
 unfold fL;rw [B9];exact zR _ _
theorem aKt:uni 3 (fC dl oc dc sk):=fun y hy=>by
 obtain ⟨s,_,rfl⟩:=Bq.1 hy;rfl
theorem aGb:uni 3 (fL dl oc dc sk):=fun y hy=>by
 obtain ⟨s,_,rfl⟩:=Bq.1 hy;rfl
theorem wP(f:Nat)(l:Lqq):(isort (ltK f) l).length=l.length:=isort_length _ _
theorem bNb{k f:Nat}{l:Lqq}(h:uni k l):uni k (isort (ltK f) l):=fun y hy=>h y ((isort_mem _ _ y).1 hy)
theorem aGc(l:Lqq):(jI l).length=l.length:=by unfold jI;rw [bFc];simp
theorem bAj(l:Lqq):uni 3 (jI l):=aOk l [] fun z hz=>by cases hz
theorem aGd:uni 3 (eK dl oc dc sk):=fun y hy=>by
 rcases fV.1 hy with hy | hy
 ·exact bAj _ y hy
 ·exact aGb y hy
theorem aTa{α:Type}(p:α→Bool):∀ l:List α,(l.filter fun x => !p x).length+(l.filter p).length=l.length
 | []=>rfl
 | x::l=>by
  have:=aTa p l;cases h:p x <;> simp [h] <;> omega
theorem yN:(eK dl oc dc sk).length=sk.length:=by
 unfold eK fC fL;rw [jT,aGc,wP,B9,B9];exact aTa _ sk
theorem cMs(hd:bZ dc)(hov:∀ n,wJ ov n (oc.contains n))(hs:uni 2 sk)(hb:∀ x∈sk,skB x=true)(hl:sk.length<20){T:Lqb}(hT:cE dl oc dc T):∃ T',cE dl oc dc T'∧cIw dl sk dc ov (eK dl oc dc sk) T T':=by
 obtain ⟨acc,⟨h1,h2,h3⟩,h4⟩:=aF.ex (P:=Tp) (k:=7) (b:=sub (cd Tryz.f53) dd) (e := .exit 0) (fun i (a:(Lqq × Lqq) × Lqb)=>oT dl sk dc ov a.1.1.length (a.1.1.flatten.map aA) a.1.2.length (a.1.2.flatten.map aA) i (aN a.2) a.2.length)
  (fun a=>oT dl sk dc ov a.1.1.length (a.1.1.flatten.map aA) a.1.2.length (a.1.2.flatten.map aA) sk.length (aN a.2) a.2.length)
  (fun i a=>cE dl oc dc a.2∧a.1.1=fC dl oc dc (sk.take i)∧a.1.2=fL dl oc dc (sk.take i)) (by simp) sk.length
  (fun i acc hi hI=>by
   obtain ⟨⟨p,q⟩,T1⟩:=acc;obtain ⟨h1,h2,h3⟩:=hI;dsimp only at h1 h2 h3
   have hm:=fG hi;obtain ⟨a,b,hy⟩:=len2 (hs _ hm);have hx:sk[i]? = some [a,b]:=by rw [Av hi,hy]
   rw [hy] at hm
   have hr : -1≤b∧b≤360000:=by
    have:=hb _ hm;rw [cGq,Cc] at this
    exact within_iff.1 this.2
   obtain ⟨T2,q1,q2⟩:=cGr (sk:=sk) hd hov a b hr h1;have hp:p.length≤20:=by rw [h2];have:=aKs (dl:=dl) (oc:=oc) (dc:=dc) (sk:=sk.take i);rw [jV] at this;omega
   have hq:q.length≤20:=by rw [h3];have:=aGa (dl:=dl) (oc:=oc) (dc:=dc) (sk:=sk.take i);rw [jV] at this;omega
   have et:sk.take (i+1)=sk.take i++[[a,b]]:=by rw [List.take_add_one,hx];rfl
   rw [et];have e1:fC dl oc dc (sk.take i++[[a,b]])=p++if (cI dl oc dc a b).2 then [] else [[a,0,(cI dl oc dc a b).1]]:=by
    rw [h2];unfold fC;rw [oJ,iV]
    congr 1
    show (List.filter _ [[a,b]]).map _=_;cases hq:(cI dl oc dc a b).2 <;> simp [hq]
   have e2:fL dl oc dc (sk.take i++[[a,b]])=q++if (cI dl oc dc a b).2 then [[a,-1,0]] else []:=by
    rw [h3];unfold fL;rw [oJ,iV]
    congr 1
    show (List.filter _ [[a,b]]).map _=_;cases hq:(cI dl oc dc a b).2 <;> simp [hq]
   rw [e1,e2];cases hc:(cI dl oc dc a b).2 with
   | true =>
    rw [hc] at q2
    exact ⟨((p,q++[[a,-1,0]]),T2),⟨q1,by simp,by simp⟩,bMq (q:=q) (q':=q++[[a,-1,0]]) (by omega) hx hs q2 rfl ⟨rfl,by omega⟩ (aI (by omega)) (by simp) (by simp) rfl rfl rfl⟩
   | false =>
    rw [hc] at q2
    exact ⟨((p++[[a,0,(cI dl oc dc a b).1]],q),T2),⟨q1,by simp,by simp⟩,bMr (p:=p) (p':=p++[[a,0,(cI dl oc dc a b).1]]) (by omega) hx hs q2 rfl ⟨rfl,by omega⟩ (aI (by omega)) (by simp) (by simp) rfl rfl rfl⟩)
  (fun acc hI=>bMs (by omega)) (acc:=(([],[]),T)) ⟨hT,by simp [fC],by simp [fL]⟩
 obtain ⟨⟨p,q⟩,T1⟩:=acc;dsimp only at h1 h2 h3 h4
 rw [List.take_length] at h2 h3
 subst h2 h3;have hp:=aKs (dl:=dl) (oc:=oc) (dc:=dc) (sk:=sk);have hq:=aGa (dl:=dl) (oc:=oc) (dc:=dc) (sk:=sk);have hP:=bAi (dl:=dl) (sk:=sk) (dc:=dc) (ov:=ov) (isort (ltK 2) (fC dl oc dc sk)) (bNb aKt) (by rw [wP];omega) (fC dl oc dc sk) (fL dl oc dc sk) rfl T1
 refine ⟨T1,h1,cIx (I6:=(eK dl oc dc sk).length) (Fa:=(eK dl oc dc sk).flatten.map aA) h4 aKt (by omega) hP ⟨yB aGb,by rw [aGc,wP];omega⟩ ?_ ?_⟩
 ·unfold eK;rw [jT]
 ·unfold eK;rw [bRd,iV]
end
theorem bFd{dl:Int}{sk dc:Lqq}(h:cK dl sk dc):∀ x∈aC sk,skB x=true:=fun x hx=>h.hsk x ((dO sk).mem_iff.1 hx)
theorem cJo{dl:Int}{sk dc:Lqq}(h:cK dl sk dc)(hl:sk.length<20){base:Nat}:FV Tp 25 [.p (.agg (kF dl sk dc))] base (.tup [.own base,.p (aA 0)]) [(base,.row 63 (eK dl [] (aC dc) (aC sk)).length ((eK dl [] (aC dc) (aC sk)).flatten.map aA))]:=by
 obtain ⟨T',h1,h2⟩:=cMs (dl:=dl) (sk:=aC sk) (kK h) aNk (mU h.us) (bFd h) (by rw [eI];exact hl) cE.nil
 exact cIy h h2
theorem aKu{dl:Int}{dc:Lqq}(hd:bZ dc):(cP dl dc).length≤1000:=by
 unfold cP;rw [B9];have:=zR (rO dl dc) dc;have:=hd.len;omega
def vH(u:List Int):Bool:=(List.range u.length).all fun i=>i == 0 || decide (u.getD (i-1) 0<u.getD i 0)
theorem bUk{dl:Int}{sk dc:Lqq}(u:List Int)(hl:u.length≤1000):(vH u=true∧∃ i,aF Tp 0 (sub (cd Tryz.f16) ce) (iR dl sk dc u 1) (.exit 0) (iR dl sk dc u i)) ∨
  (vH u=false∧∃ i,aF Tp 0 (sub (cd Tryz.f16) ce) (iR dl sk dc u 1) .ret (cD (iR dl sk dc u i) [(4,.p cR),(5,.p (aA 4))])):=by
 rcases Nat.lt_or_ge u.length 2 with h2 | h2
 ·refine .inl ⟨?_,1,.exit (aKp (by omega)) (by simp)⟩
  unfold vH;rw [gC];intro i hi;have:=lC.1 hi;have:i=0:=by omega
  subst this;rfl
 ·have hget:∀ i,i<u.length→u[i]? = some (u.getD i 0):=fun i hi=>by rw [Bw,Av hi];rfl
  have key:∀ d i,i+d=u.length→1≤i→(∀ j,j<i→(j == 0 || decide (u.getD (j-1) 0<u.getD j 0))=true) →
   (vH u=true∧∃ k,aF Tp 0 (sub (cd Tryz.f16) ce) (iR dl sk dc u (i:Int)) (.exit 0) (iR dl sk dc u k)) ∨
   (vH u=false∧∃ k,aF Tp 0 (sub (cd Tryz.f16) ce) (iR dl sk dc u (i:Int)) .ret (cD (iR dl sk dc u k) [(4,.p cR),(5,.p (aA 4))])):=by
   intro d
   induction d with
   | zero =>
    intro i hi h1 hj;refine .inl ⟨?_,_,.exit (aKp (by omega)) (by simp)⟩
    unfold vH;rw [gC];intro j hjr;exact hj j (by have:=lC.1 hjr;omega)
   | succ d ih =>
    intro i hi h1 hj;have g1:u[((i:Nat):Int).toNat]? = some (u.getD i 0):=by rw [aHy];exact hget i (by omega)
    have g2:u[((i:Int)-1).toNat]? = some (u.getD (i-1) 0):=by rw [show ((i:Int)-1).toNat=i-1 by omega];exact hget (i-1) (by omega)
    by_cases hc:u.getD (i-1) 0<u.getD i 0
    ·have hst:=bMy (dl:=dl) (sk:=sk) (dc:=dc) (i:=(i:Int)) (i':=((i+1:Nat):Int)) (by omega) g1 (by omega) (by show _∧_;omega) g2 (by omega) hc (by show _∧_;omega) (by omega)
     rcases ih (i+1) (by omega) (by omega) (fun j Ec=>by
      rcases Nat.lt_or_ge j i with h3 | h3
      ·exact hj j h3
      ·obtain rfl:j=i:=by omega
       rw [decide_eq_true hc,Bool.or_true]) with ⟨q1,k,q2⟩ | ⟨q1,k,q2⟩
     ·exact .inl ⟨q1,k,.step hst q2⟩
     ·exact .inr ⟨q1,k,.step hst q2⟩
    ·refine .inr ⟨?_,_,.exit (bMx (i:=(i:Int)) (by omega) g1 (by omega) (by show _∧_;omega) g2 (by omega) (by omega)) (by simp)⟩
     cases hr:vH u with
     | false=>rfl
     | true =>
      unfold vH at hr
      have:=gC.1 hr i (lC.2 (by omega))
      rw [show (i == 0)=false by simp;omega,Bool.false_or] at this
      exact absurd (of_decide_eq_true this) hc
  have:=key (u.length-1) 1 (by omega) (by omega) (fun j hj=>by
   have:j=0:=by omega
   subst this;rfl)
  exact this
def aTb(dl:Int)(dc:Lqq)(u:List Int):Int:=if u.all (ocB (cP dl dc)) then (if vH u then 0 else 4) else 1
theorem cJp{dl:Int}{sk dc:Lqq}(h:cK dl sk dc)(hl:sk.length<20)(u:List Int)(hu:u.length≤1000)(he:aTb dl (aC dc) u=0){base:Nat}:FV Tp 16 [.p (.agg (kF dl sk dc)),.p (aE u)] base (.tup [.own base,.p (aA 0)]) [(base,.row 63 (eK dl u (aC dc) (aC sk)).length ((eK dl u (aC dc) (aC sk)).flatten.map aA))]:=by
 have hd:=kK h;unfold aTb at he
 cases ha:u.all (ocB (cP dl (aC dc))) with
 | false=>rw [ha] at he;simp at he
 | true =>
  rw [ha,if_pos rfl] at he
  rcases bUk (dl:=dl) (sk:=sk) (dc:=dc) u hu with ⟨q1,i,q2⟩ | ⟨q1,i,q2⟩
  ·obtain ⟨T',h1,h2⟩:=cMs (dl:=dl) (sk:=aC sk) hd (aRy hu) (mU h.us) (bFd h) (by rw [eI];exact hl) cE.nil
   exact cJd h hd hu (fun _ _=>aKu hd) ha q2 h2
  ·rw [q1] at he;simp at he
end
section

def lnI(R:Lqq)(b:Int):Int:=fN (fun y=>y.getD 0 0 == b) R
end
section

theorem aTc{α:Type}{Q:List α→Prop}(h0:Q [])(hs:∀ l x,Q l→Q (l++[x]))(l:List α):Q l:=by
 have key:∀ r:List α,Q r.reverse:=fun r=>by
  induction r with
  | nil=>exact h0
  | cons a r ih=>rw [List.reverse_cons];exact hs _ _ ih
 have:=key l.reverse
 rwa [List.reverse_reverse] at this
def mC(L:Lqq)(t:Int):Nat:=(L.filter fun x=>decide (x.getD 2 0<t)).length
theorem aKv(L:Lqq)(x:List Int)(t:Int):mC (L++[x]) t=mC L t+if x.getD 2 0<t then 1 else 0:=by
 unfold mC;rw [oJ,jT]
 congr 1
 by_cases h:x.getD 2 0<t
 ·rw [if_pos h,List.filter_cons,if_pos (decide_eq_true h)];rfl
 ·rw [if_neg h,List.filter_cons,if_neg (by rw [decide_eq_false h];simp)];rfl
theorem aGe(L:Lqq):L.Pairwise (fun a b=>a.getD 2 0≤b.getD 2 0)→jI L=L.map fun x=>[x.getD 0 0,(mC L (x.getD 2 0):Int)+1,x.getD 2 0]:=by
 refine aTc (Q:=fun L=>L.Pairwise (fun a b=>a.getD 2 0≤b.getD 2 0)→jI L=L.map fun x=>[x.getD 0 0,(mC L (x.getD 2 0):Int)+1,x.getD 2 0]) (fun _=>rfl) (fun l x ih hp => ?_) L
 obtain ⟨h1,_,h3⟩:=List.pairwise_append.1 hp;have h4:∀ a∈l,a.getD 2 0≤x.getD 2 0:=fun a ha=>h3 a ha x (by simp)
 have e:jI (l++[x])=jI l++[[x.getD 0 0,plN (jI l) (x.getD 2 0),x.getD 2 0]]:=by
  unfold jI;rw [xX];rfl
 rw [e,ih h1,iV]
 congr 1
 ·refine xW fun y hy => ?_
  rw [aKv,if_neg (by have:=h4 y hy;omega)];rfl
 ·have hx:mC (l++[x]) (x.getD 2 0)=mC l (x.getD 2 0):=by rw [aKv,if_neg (by omega)];rfl
  show [[x.getD 0 0,plN _ (x.getD 2 0),x.getD 2 0]]=[[x.getD 0 0,(mC (l++[x]) (x.getD 2 0):Int)+1,x.getD 2 0]];rw [hx]
  congr 3
  rcases List.eq_nil_or_concat l with rfl | ⟨m,y,rfl⟩
  ·rfl
  ·rw [List.concat_eq_append] at *
   unfold plN;rw [iV,iB,List.map_nil,List.getLast?_concat];show (if y.getD 2 0=x.getD 2 0 then (mC (m++[y]) (y.getD 2 0):Int)+1 else _)=_
   by_cases hc:y.getD 2 0=x.getD 2 0
   ·rw [if_pos hc,hc]
   ·rw [if_neg hc]
    have h5:=h4 y (by simp)
    have h6:mC (m++[y]) (x.getD 2 0)=(m++[y]).length:=by
     unfold mC;rw [List.filter_eq_self.2];intro a ha;refine decide_eq_true ?_
     rcases fV.1 ha with ha | ha
     ·have:=(List.pairwise_append.1 h1).2.2 a ha y (by simp)
      omega
     ·obtain rfl:a=y:=by simpa using ha
      omega
    rw [h6];simp
section
variable {dl:Int} {oc:List Int} {sk dc:Lqq}
def cMt(a b:List Int):Prop:=(b.getD 1 0 = -1→a.getD 1 0 = -1→a.getD 0 0<b.getD 0 0)∧(b.getD 1 0 ≠ -1→a.getD 1 0 ≠ -1∧a.getD 2 0≤b.getD 2 0∧(a.getD 2 0=b.getD 2 0→a.getD 0 0<b.getD 0 0))
def inL(t:Int)(y:List Int):Bool:=decide (y.getD 1 0 ≠ -1∧y.getD 2 0<t)
theorem bUl(hs:sk.Pairwise fun a b=>a.getD 0 0<b.getD 0 0) :
  (eK dl oc dc sk).Pairwise cMt ∧
  (∀ y∈eK dl oc dc sk,y.getD 1 0 ≠ -1→y.getD 1 0=1+(((eK dl oc dc sk).filter (inL (y.getD 2 0))).length:Int)) ∧
  (∀ y∈eK dl oc dc sk,∃ s∈sk,s.getD 0 0=y.getD 0 0∧cI dl oc dc (sB s) (sT s)=(y.getD 2 0,decide (y.getD 1 0 = -1))):=by
 have S3:(fC dl oc dc sk).Pairwise fun a b=>a.getD 0 0<b.getD 0 0:=by
  unfold fC;rw [List.pairwise_map];exact (hs.sublist List.filter_sublist)
 have hO:(fL dl oc dc sk).Pairwise fun a b=>a.getD 0 0<b.getD 0 0:=by
  unfold fL;rw [List.pairwise_map];exact (hs.sublist List.filter_sublist)
 have s1:=mO (f:=fun x:List Int=>x.getD 2 0) (fun x y=>aOi 2 x y) (fC dl oc dc sk)
 have s2:=yM (f:=fun x:List Int=>x.getD 2 0) (g:=fun x:List Int=>x.getD 0 0) (fun x y=>aOi 2 x y) (fC dl oc dc sk) S3
 have hpl:=aGe _ s1;have hmI:∀ x,x∈isort (ltK 2) (fC dl oc dc sk)→x∈fC dl oc dc sk:=fun x hx=>(isort_mem _ _ x).1 hx
 have e:eK dl oc dc sk=((isort (ltK 2) (fC dl oc dc sk)).map fun x=>[x.getD 0 0,(mC (isort (ltK 2) (fC dl oc dc sk)) (x.getD 2 0):Int)+1,x.getD 2 0])++fL dl oc dc sk:=by
  unfold eK;rw [hpl]
 generalize isort (ltK 2) (fC dl oc dc sk)=I at s1 s2 hmI e
 have o1:∀ y∈fL dl oc dc sk,y.getD 1 0 = -1:=fun y hy=>by
  unfold fL at hy
  obtain ⟨s,_,rfl⟩:=Bq.1 hy;rfl
 refine ⟨?_,?_,?_⟩
 ·rw [e]
  refine List.pairwise_append.2 ⟨?_,?_,?_⟩
  ·rw [List.pairwise_map]
   refine s2.imp fun {a b} h => ?_
   refine ⟨fun h1=>absurd h1 ?_,fun _=>⟨?_,?_,?_⟩⟩
   ·show (mC I (b.getD 2 0):Int)+1 ≠ -1
    omega
   ·show (mC I (a.getD 2 0):Int)+1 ≠ -1
    omega
   ·show a.getD 2 0≤b.getD 2 0
    omega
   ·show a.getD 2 0=b.getD 2 0→a.getD 0 0<b.getD 0 0
    omega
  ·refine hO.imp_of_mem fun {a b} ha hb h=>⟨fun _ _=>h,fun h1=>absurd (o1 b hb) h1⟩
  ·intro a ha b hb
   obtain ⟨x,_,rfl⟩:=Bq.1 ha;refine ⟨fun _ h1=>absurd h1 ?_,fun h1=>absurd (o1 b hb) h1⟩
   show (mC I (x.getD 2 0):Int)+1 ≠ -1;omega
 ·have hc:∀ t,((eK dl oc dc sk).filter (inL t)).length=mC I t:=fun t=>by
   rw [e,oJ,jT];have z:(fL dl oc dc sk).filter (inL t)=[]:=by
    rw [List.filter_eq_nil_iff];intro y hy;unfold inL;rw [o1 y hy];simp
   rw [z,List.filter_map,B9];unfold mC;rw [List.length_nil,Nat.add_zero]
   congr 1
   refine List.filter_congr fun x _ => ?_
   show decide ((mC I (x.getD 2 0):Int)+1 ≠ -1∧x.getD 2 0<t)=decide (x.getD 2 0<t)
   by_cases hx:x.getD 2 0<t
   ·rw [decide_eq_true hx,decide_eq_true ⟨by omega,hx⟩]
   ·rw [decide_eq_false hx,decide_eq_false fun h=>hx h.2]
  intro y hy h1;rw [hc];rw [e] at hy
  rcases fV.1 hy with hy | hy
  ·obtain ⟨x,_,rfl⟩:=Bq.1 hy
   show (mC I (x.getD 2 0):Int)+1=1+(mC I (x.getD 2 0):Int);omega
  ·exact absurd (o1 y hy) h1
 ·intro y hy
  rw [e] at hy
  rcases fV.1 hy with hy | hy
  ·obtain ⟨x,hx,rfl⟩:=Bq.1 hy
   have Ic:=hmI x hx;unfold fC at Ic
   obtain ⟨s,B3,rfl⟩:=Bq.1 Ic;obtain ⟨m1,m2⟩:=qR.1 B3;refine ⟨s,m1,rfl,?_⟩;have m3:(cI dl oc dc (sB s) (sT s)).2=false:=by simpa using m2
   have m4:(decide ((mC I (cI dl oc dc (sB s) (sT s)).1:Int)+1 = -1))=false:=decide_eq_false (by omega)
   show cI dl oc dc (sB s) (sT s)=((cI dl oc dc (sB s) (sT s)).1,decide ((mC I (cI dl oc dc (sB s) (sT s)).1:Int)+1 = -1));rw [m4];exact Prod.ext rfl m3
  ·unfold fL at hy
   obtain ⟨s,B3,rfl⟩:=Bq.1 hy;obtain ⟨m1,m2⟩:=qR.1 B3;refine ⟨s,m1,rfl,?_⟩;show cI dl oc dc (sB s) (sT s)=(0,true);unfold cI at m2 ⊢
   split at m2
   ·rename_i h;rw [if_pos h]
   ·cases m2
def aCl(f:List Int→Int × Bool)(S:Lqq)(t:Int):Nat:=(S.filter fun j => !(f j).2 && decide ((f j).1<t)).length
theorem bUm(hs:sk.Pairwise fun a b=>a.getD 0 0<b.getD 0 0)(t:Int):((eK dl oc dc sk).filter (inL t)).length=aCl (fun s=>cI dl oc dc (sB s) (sT s)) sk t:=by
 have s1:=mO (f:=fun x:List Int=>x.getD 2 0) (fun x y=>aOi 2 x y) (fC dl oc dc sk)
 have hp:=rG (ltK 2) (fC dl oc dc sk);unfold eK;rw [oJ,jT,aGe _ s1];have z:(fL dl oc dc sk).filter (inL t)=[]:=by
  rw [List.filter_eq_nil_iff];intro y hy;unfold fL at hy
  obtain ⟨s,_,rfl⟩:=Bq.1 hy;simp [inL]
 rw [z,List.filter_map,B9,List.length_nil,Nat.add_zero];have e1:∀ (I J:Lqq),(J.filter (inL t ∘ fun x=>[x.getD 0 0,(mC I (x.getD 2 0):Int)+1,x.getD 2 0]))=J.filter fun x=>decide (x.getD 2 0<t):=fun I J=>by
  refine List.filter_congr fun x _ => ?_
  show decide ((mC I (x.getD 2 0):Int)+1 ≠ -1∧x.getD 2 0<t)=decide (x.getD 2 0<t)
  by_cases hx:x.getD 2 0<t
  ·rw [decide_eq_true hx,decide_eq_true ⟨by omega,hx⟩]
  ·rw [decide_eq_false hx,decide_eq_false fun h=>hx h.2]
 rw [e1,(hp.filter _).length_eq];unfold fC aCl;rw [List.filter_map,B9,List.filter_filter]
 congr 1
 refine List.filter_congr fun s _ => ?_
 show (decide ((cI dl oc dc (sB s) (sT s)).1<t) && !(cI dl oc dc (sB s) (sT s)).2)=_;rw [Bool.and_comm]
def kO(f:List Int→Int × Bool)(S:Lqq)(k:List Int):Int:=if (f k).2 then -1 else 1+(aCl f S (f k).1:Int)
theorem bUn(hs:sk.Pairwise fun a b=>a.getD 0 0<b.getD 0 0){k:List Int}(hk:k∈sk) :
  (eK dl oc dc sk).find? (fun y=>decide (y.getD 0 0=k.getD 0 0))=some [k.getD 0 0,kO (fun s=>cI dl oc dc (sB s) (sT s)) sk k,(cI dl oc dc (sB k) (sT k)).1]:=by
 obtain ⟨_,q2,q3⟩:=bUl (dl:=dl) (oc:=oc) (dc:=dc) hs;have hn:(aZ sk 0).Nodup:=by
  unfold aZ;rw [List.Nodup,List.pairwise_map];exact hs.imp fun h=>by omega
 cases hf:(eK dl oc dc sk).find? (fun y=>decide (y.getD 0 0=k.getD 0 0)) with
 | none =>
  exfalso
  have hno:=aHx.1 hf;have Qa:∀ y∈eK dl oc dc sk,y.getD 0 0≠k.getD 0 0:=fun y hy e=>hno y hy (decide_eq_true e)
  cases ho:(cI dl oc dc (sB k) (sT k)).2 with
  | true =>
   refine Qa [sB k,-1,0] (zQ _ ?_) rfl;unfold fL;exact Bq.2 ⟨k,qR.2 ⟨hk,ho⟩,rfl⟩
  | false =>
   have s1:=mO (f:=fun x:List Int=>x.getD 2 0) (fun x y=>aOi 2 x y) (fC dl oc dc sk)
   have hm:[sB k,0,(cI dl oc dc (sB k) (sT k)).1]∈isort (ltK 2) (fC dl oc dc sk):=by
    rw [isort_mem];unfold fC;exact Bq.2 ⟨k,qR.2 ⟨hk,by rw [ho];rfl⟩,rfl⟩
   have hmem:[sB k,(mC (isort (ltK 2) (fC dl oc dc sk)) (cI dl oc dc (sB k) (sT k)).1:Int)+1,(cI dl oc dc (sB k) (sT k)).1]∈eK dl oc dc sk:=by
    unfold eK;rw [aGe _ s1];exact mK _ (Bq.2 ⟨_,hm,rfl⟩)
   exact Qa _ hmem rfl
 | some y =>
  have hy:=xV hf;have hb:y.getD 0 0=k.getD 0 0:=by simpa using aXf hf
  obtain ⟨y0,y1,y2,rfl⟩:=E6 (aGd y hy);obtain ⟨s,h1,h2,h3⟩:=q3 _ hy;obtain rfl:s=k:=bDw hn h1 hk (h2.trans hb);have J7:cI dl oc dc (sB s) (sT s)=(y2,decide (y1 = -1)):=h3;have Ar:y0=s.getD 0 0:=hb;rw [Option.some.injEq,Ar,J7]
  congr 2
  unfold kO;dsimp only
  by_cases Q3:y1 = -1
  ·rw [if_pos (by rw [J7];exact decide_eq_true Q3)];exact Q3
  ·rw [if_neg (by rw [J7];simpa using Q3),J7]
   have:=q2 _ hy Q3;rw [bUm hs] at this
   exact this
end
end
section
def prP(p:Int):Int:=if p > 0 then p else 0
end
section
variable {b t Aa Ab Af:Int}{R sk:Lqq}{o:List Int}{i i' Aw base:Nat}

noncomputable abbrev aEw:Code:=sub (cd Tryz.f34) [1,0,1,0,0]
noncomputable abbrev aXp:Code:=sub (cd Tryz.f17) [1,1,0,1,0,0]
theorem bRs{y0 y1 y2:Int}{r0:Bool}(Aq:r0=(y0 == b)):FV Tp 55 [(.p (.agg [(aA y0),(aA y1),(aA y2)])),(.rp [(aA b),(aA t)] 0)] base (pB r0) []:=by
 subst Aq;exact FV.fi func55 [.x (aA b)] (gr (aA b) gn)
def nD(R:Lqq)(b t:Int)(i:Nat):St:=⟨fr 19 [(0,(.p (fS R))),(1,(.fn 55 [] [(.rp [(aA b),(aA t)] 0)])),(7,(pI (R.length:Int))),(8,(pI (i:Int)))],[]⟩
theorem cEw(hl0:aF Tp 0 aEw (nD R b t 0) .ret (cD (nD R b t Aw) [(4,(pI (Aw:Int)))])):FV Tp 34 [(.p (fS R)),(.fn 55 [] [(.rp [(aA b),(aA t)] 0)])] base (pI (Aw:Int)) []:=FV.fi func34 [hl0.k 6 (gZ dq)] (gc hl0.code gn)
section
variable(h0:(i:Int)<(R.length:Int))(h1:R[i]? = some [Aa,Ab,Af])(h2:uni 3 R)
include h0 h1 h2
theorem bIl(h3:(Aa == b)=true):aB Tp 0 aEw (nD R b t i) .ret (cD (nD R b t i) [(4,(pI (i:Int)))]):=aB.fi (gZ db) [bT,.x (.agg [(aA Aa),(aA Ab),(aA Af)]),.c (pB (Aa == b)) [],bT] (gc h3 (gt (FC Tp 55 [(.p (.agg [(aA Aa),(aA Ab),(aA Af)])),(.rp [(aA b),(aA t)] 0)] [] 0 (pB (Aa == b)) []) (FV.fc (bRs (y0:=Aa) (y1:=Ab) (y2:=Af) (b:=b) (t:=t) rfl) rfl) (gfl h2 h1 (g0 h0))))
theorem bIm(h3:(Aa == b)=false)(h4:dv i)(Ak:i'=(i+1)):aB Tp 0 aEw (nD R b t i) .normal (nD R b t i'):=by
 subst Ak;exact aB.fi (gZ dq) [bT,.x (.agg [(aA Aa),(aA Ab),(aA Af)]),.c (pB (Aa == b)) [],bF] (gc h4 (gc h3 (gt (FC Tp 55 [(.p (.agg [(aA Aa),(aA Ab),(aA Af)])),(.rp [(aA b),(aA t)] 0)] [] 0 (pB (Aa == b)) []) (FV.fc (bRs (y0:=Aa) (y1:=Ab) (y2:=Af) (b:=b) (t:=t) rfl) rfl) (gfl h2 h1 (g0 h0)))))
end
theorem bIn(h0:(R.length:Int)≤(i:Int)):aB Tp 0 aEw (nD R b t i) (.exit 0) (nD R b t i):=aB.fi (gZ dq) [bF] (gc (aQ h0) gn)
theorem cEx{R:Lqq}{b:Int}(t:Int){j:Nat}(hu:uni 3 R)(hl:R.length≤1000)(e:lnI R b=(j:Int)){base:Nat}:FV Tp 34 [.p (fS R),.fn 55 [] [.rp [aA b,aA t] 0]] base (pI (j:Int)) []:=by
 rcases aF.find (P:=Tp) (k:=0) (b:=aEw) (fun i=>nD R b t i) (fun i _=>cD (nD R b t i) [(4,.p (aA (i:Int)))]) (nD R b t R.length) .ret (.exit 0) (by simp) (by simp) (fun y=>y.getD 0 0 == b) R
  (fun i x hx hp=>by
   obtain ⟨y0,y1,y2,rfl⟩:=E6 (hu x (Bp hx));exact bIm (by have:=aT hx;omega) hx hu hp (aI (by have:=aT hx;omega)) rfl)
  (fun i x hx hp=>by
   obtain ⟨y0,y1,y2,rfl⟩:=E6 (hu x (Bp hx));exact bIl (by have:=aT hx;omega) hx hu hp)
  (bIn (by omega)) with ⟨i,x,h1,h2,h3,h4⟩ | ⟨h1,h2,h3⟩
 ·unfold lnI at e
  rw [eH h2] at e
  have:i=j:=by omega
  subst this;exact cEw h4
 ·unfold lnI at e
  rw [eT h1] at e
  omega
def sQ(sk R:Lqq)(i on:Nat)(oc:List PV):St:=⟨fr 39 [(1,(.p (fS R))),(6,(.own 0)),(11,(.p (fS sk))),(12,(pI (sk.length:Int))),(13,(pI (i:Int)))],[some (.row 3 on oc)]⟩
theorem cEy{dl:Int}{dc:Lqq}{A5:List Int}(hl0:aF Tp 0 aXp (sQ sk R 0 0 []) (.exit 0) (sQ sk R Aw A5.length (A5.map aA))):FV Tp 17 [(.p (.agg [(aA dl),(fS sk),(fS dc)])),(.p (fS R))] base (.tup [(.p (aE A5)),(pB true)]) []:=FV.frz (FMM.fi 0 ⟨[],[],[0],[]⟩ func17 [hl0.k 8 (gN cf [1] [(6,3)])] (gc hl0.code gn)) (by kernel_rfl)
theorem bIo{Ga:Nat}{Ah Ag Ai:Int}{o':List Int}(h0:(i:Int)<(sk.length:Int))(h1:sk[i]? = some [Aa,Ab])(h2:uni 2 sk)(h3:uni 3 R)(h4:R.length≤1000)(h5:lnI R Aa=(Ga:Int))(h6:(0:Int)≤(Ga:Int))(h7:(Ga:Int)<(R.length:Int))(h8:R[Ga]? = some [Ah,Ag,Ai])(h9:[(aA (if Ag > 0 then Ag else 0))].length=1*1∧o.length+1≤1000000)(A0:dv i)(Ak:i'=(i+1))(A6:o'.length=(o.length+1))(A7:o'.map aA=((o.map aA)++[(aA (if Ag > 0 then Ag else 0))])):aB Tp 0 aXp (sQ sk R i o.length (o.map aA)) .normal (sQ sk R i' o'.length (o'.map aA)):=by
 subst Ak;rw [A6,A7];exact aB.fi (gI cf [3]) ([bT,.x (.agg [(aA Aa),(aA Ab)]),.c (pI (Ga:Int)) []]++rF 6++[.x (aA Ag)]) (gc A0 (gc h9 (gt ((R.flatten.map aA)[((Ga*3)+1)]? = some (aA Ag)) (iX (i:=Ga) (f:=1) h3 h8 rfl) (gc (bRh (k:=3) (i:=(Ga:Int)) (by decide) h3 (C7 _) h8) (gc (kT h7) (Cf (aQ h6) (gt (FC Tp 34 [(.p (fS R)),(.fn 55 [] [(.ptr 1 0)])] [(1,(.box 80 [(pI Aa),(pI Ab)]))] 2 (pI (Ga:Int)) []) (fv (cEx Ab h3 h4 h5)) (gfl h2 h1 (g0 h0)))))))))
theorem bIp(h0:(sk.length:Int)≤(i:Int)):aB Tp 0 aXp (sQ sk R i o.length (o.map aA)) (.exit 0) (sQ sk R i o.length (o.map aA)):=aB.fi (gI cf [0]) [bF] (gc (aQ h0) gn)
end
section
variable {r0:Bool}{a n x y c0 c1 c2 hi lo Ad:Int}{done:Lqq}{l pts:List Int}{i i' Aw base:Nat}
namespace CU
noncomputable abbrev oX:Code:=sub (cd Tryz.f163) [1,0,1,0,0]
noncomputable abbrev oY:Code:=sub (cd Tryz.f171) [1,0,1,0,0]
theorem bOq(h0:lo≤n)(Aq:r0=(decide (n≤hi))):FV Tp 108 [(pI n),(pI lo),(pI hi)] base (pB r0) []:=by
 subst Aq;exact FV.fi func108 [bT,bT,bT,bT] (A4 (aCh h0) gn)
theorem bOr(h0:n<lo):FV Tp 108 [(pI n),(pI lo),(pI hi)] base (pB false) []:=FV.fi func108 [bF,bF,bF,bF] (A4 (kT h0) gn)
def within(n lo hi:Int):Bool:=decide (lo≤n) && decide (n≤hi)
theorem bB(n lo hi:Int){base:Nat}:FV Tp 108 [.p (aA n),.p (aA lo),.p (aA hi)] base (pB (within n lo hi)) []:=by
 by_cases h:lo≤n
 ·exact bOq h (by simp [within,h])
 ·have e:within n lo hi=false:=by simp [within,h]
  rw [e];exact bOr (show n<lo by omega)
def tO(l:List Int)(i:Nat)(a:Int):St:=⟨fr 17 [(2,(pI 0)),(3,(pI a)),(6,(.p (aE l))),(7,(pI (l.length:Int))),(8,(pI (i:Int)))],[]⟩
theorem cLa{Ur:Int}(hl0:aF Tp 0 (sub (cd Tryz.f119) dd) (tO l 0 0) (.exit 0) (tO l Aw Ur)):FV Tp 119 [(.p (aE l))] base (pI Ur) []:=FV.fi func119 [hl0.k 8 ⟨ay,[],[],[]⟩] (gc hl0.code gn)
theorem bOs{a':Int}(h0:(i:Int)<(l.length:Int))(h1:l[i]? = some Ad)(h2:inR (a+Ad))(h3:dv i)(Ak:i'=(i+1))(Pi:a'=(a+Ad)):aB Tp 0 (sub (cd Tryz.f119) dd) (tO l i a) .normal (tO l i' a'):=by
 subst Ak Pi;exact aB.fi ⟨ay,[],[],[]⟩ [bT,.x (aA Ad)] (gc h3 (gc h2 (gc (atm aA h1) (gc (ixn aA h1) (g0 h0)))))
theorem bOt(h0:(l.length:Int)≤(i:Int)):aB Tp 0 (sub (cd Tryz.f119) dd) (tO l i a) (.exit 0) (tO l i a):=aB.fi ⟨ay,[],[],[]⟩ [bF] (gc (aQ h0) gn)
theorem bVt(l:List Int)(hl:small l.length)(hr:∀ k,inR (l.take k).sum){base:Nat}:FV Tp 119 [.p (aE l)] base (pI l.sum) []:=by
 have h:=aF.range (P:=Tp) (k:=0) (b:=sub (cd Tryz.f119) dd) (e := .exit 0) (fun i a=>tO l i a) (fun a=>tO l l.length a) (fun a x=>a+x) (fun i a=>a=(l.take i).sum) (by simp) l (a0:=0) (by simp)
  (fun i x acc hx hI=>by
   have hi:=aT hx;have he:(l.take (i+1)).sum=acc+x:=by
    rw [List.take_add_one,hx,hI];simp
   exact ⟨he.symm,bOs (by omega) hx (he ▸ hr (i+1)) (aI (by omega)) rfl rfl⟩)
  (fun acc _=>bOt (by omega))
 have e:l.foldl (fun a x=>a+x) 0=l.sum:=by rw [List.sum_eq_foldl]
 rw [e] at h
 exact cLa h
theorem nan_p0(Aq:r0=(x != x)):FV Tp 124 [(pI x)] base (pB r0) []:=by
 subst Aq;exact FV.fi func124 [] gn
theorem nan_ok(x:Int){base:Nat}:FV Tp 124 [.p (aA x)] base (pB false) []:=nan_p0 (by simp)
theorem cmp_p0(h0:x<y):FV Tp 62 [(pI x),(pI y)] base (pI (-1)) []:=FV.fi func62 [.c (pB false) [],.c (pB false) [],bF,bF,bT] (gc (bG h0) (gf (gf (gc (fk 0 (nan_ok y) rfl) (gc (fk 0 (nan_ok x) rfl) gn)))))
theorem cmp_p1(h0:y≤x)(h1:y<x):FV Tp 62 [(pI x),(pI y)] base (pI 1) []:=FV.fi func62 [.c (pB false) [],.c (pB false) [],bF,bF,bF,bT] (gc (bG h1) (gc (aQ h0) (gf (gf (gc (fk 0 (nan_ok y) rfl) (gc (fk 0 (nan_ok x) rfl) gn))))))
theorem cmp_p2(h0:y≤x)(h1:x≤y):FV Tp 62 [(pI x),(pI y)] base (pI 0) []:=FV.fi func62 [.c (pB false) [],.c (pB false) [],bF,bF,bF,bF] (gc (aQ h1) (gc (aQ h0) (gf (gf (gc (fk 0 (nan_ok y) rfl) (gc (fk 0 (nan_ok x) rfl) gn))))))
def cmpI(x y:Int):Int:=if x<y then -1 else if y<x then 1 else 0
theorem cmp_ok(x y:Int){base:Nat}:FV Tp 62 [.p (aA x),.p (aA y)] base (pI (cmpI x y)) []:=by
 unfold cmpI
 by_cases h1:x<y
 ·rw [if_pos h1];exact cmp_p0 h1
 ·rw [if_neg h1]
  by_cases h2:y<x
  ·rw [if_pos h2];exact cmp_p1 (by omega) h2
  ·rw [if_neg h2];exact cmp_p2 (by omega) (by omega)
theorem cCp(Aq:r0=(within n 0 1000)):FV Tp 112 [(pI n)] base (pB r0) []:=by
 subst Aq;have k1:=fk 0 (bB n 0 1000) rfl;exact FV.fi func112 [k1.o] (gc k1 gn)
theorem cCq(n:Int){base:Nat}:FV Tp 112 [.p (aA n)] base (pB (within n 0 1000)) []:=cCp rfl
theorem cCr(Aq:r0=(within n 0 60)):FV Tp 114 [(pI n)] base (pB r0) []:=by
 subst Aq;have k1:=fk 0 (bB n 0 60) rfl;exact FV.fi func114 [k1.o] (gc k1 gn)
theorem cCs(n:Int){base:Nat}:FV Tp 114 [.p (aA n)] base (pB (within n 0 60)) []:=cCr rfl
theorem cCt{r0:Int}(Aq:r0=(cmpI y x)):FV Tp 170 [(pI x),(pI y)] base (pI r0) []:=by
 subst Aq;exact FV.fi func170 [.c (pI (cmpI y x)) []] (gc (fk 0 (cmp_ok y x) rfl) gn)
theorem bFk(x y:Int){base:Nat}:FV Tp 170 [.p (aA x),.p (aA y)] base (pI (cmpI y x)) []:=cCt rfl
theorem bBg(Aq:r0=(!(within x 0 1000))):FMM Tp 168 [(pI x),(.ptr 0 0)] [some (.box 44 [(.fn 112 [] [])])] (pB r0) [some (.box 44 [(.fn 112 [] [])])]:=by
 subst Aq;have k1:=fk 1 (cCq x) rfl;exact FMM.fi 1 gE func168 [k1.o] (gc k1 gn)
theorem aGw(x:Int)  : FMM Tp 168 [(pI x),.ptr 0 0] [some (.box 44 [(.fn 112 [] [])])] (pB (!(within x 0 1000))) [some (.box 44 [(.fn 112 [] [])])]:=bBg rfl
def dP(l:List Int)(i:Nat):St:=⟨fr 19 [(0,(.p (aE l))),(1,(.fn 168 [] [(.ptr 0 0)])),(7,(pI (l.length:Int))),(8,(pI (i:Int)))],[some (.box 44 [(.fn 112 [] [])])]⟩
theorem bBh(hl0:aF Tp 1 oX (dP l 0) (.exit 0) (dP l Aw)):FMM Tp 163 [(.p (aE l)),(.fn 168 [] [(.ptr 0 0)])] [some (.box 44 [(.fn 112 [] [])])] (pI (-1)) [some (.box 44 [(.fn 112 [] [])])]:=FMM.fi 1 gE func163 [hl0.k 6 (gZ dq)] (gc hl0.code gn)
theorem bBi(hl0:aF Tp 1 oX (dP l 0) .ret (cD (dP l Aw) [(4,(pI (Aw:Int)))])):FMM Tp 163 [(.p (aE l)),(.fn 168 [] [(.ptr 0 0)])] [some (.box 44 [(.fn 112 [] [])])] (pI (Aw:Int)) [some (.box 44 [(.fn 112 [] [])])]:=FMM.fi 1 gE func163 [hl0.k 6 (gZ dq)] (gc hl0.code gn)
section
variable(h0:(i:Int)<(l.length:Int))(h1:l[i]? = some Ad)
include h0 h1
theorem aIi(h2:(within Ad 0 1000)=false):aB Tp 1 oX (dP l i) .ret (cD (dP l i) [(4,(pI (i:Int)))]):=have k1:=mq [0] 1 (aGw Ad);aB.fi (gZ db) [bT,.x (aA Ad),k1.o,bT] (gc (cA h2) (gc k1 (gc (atm aA h1) (gc (ixn aA h1) (g0 h0)))))
theorem aIj(h2:(within Ad 0 1000)=true)(h3:dv i)(Ak:i'=(i+1)):aB Tp 1 oX (dP l i) .normal (dP l i'):=by
 subst Ak;have k1:=mq [0] 1 (aGw Ad);exact aB.fi (gZ dq) [bT,.x (aA Ad),k1.o,bF] (gc h3 (gc (aL h2) (gc k1 (gc (atm aA h1) (gc (ixn aA h1) (g0 h0))))))
end
theorem aIk(h0:(l.length:Int)≤(i:Int)):aB Tp 1 oX (dP l i) (.exit 0) (dP l i):=aB.fi (gZ dq) [bF] (gc (aQ h0) gn)
theorem bBj(l:List Int)(hl:small l.length):FMM Tp 163 [.p (aE l),(.fn 168 [] [(.ptr 0 0)])] [some (.box 44 [(.fn 112 [] [])])] (pI (fN (fun x => !(within x 0 1000)) l)) [some (.box 44 [(.fn 112 [] [])])]:=by
 rcases aF.find (P:=Tp) (k:=1) (b:=sub (cd Tryz.f163) dh) (fun i=>dP l i) (fun i _=>cD (dP l i) [(4,.p (aA (i:Int)))]) (dP l l.length) .ret (.exit 0) (by simp) (by simp) (fun x => !(within x 0 1000)) l
  (fun i x hx hp=>aIj (by have:=aT hx;omega) hx (by simpa using hp) (aI (by have:=aT hx;omega)) rfl)
  (fun i x hx hp=>aIi (by have:=aT hx;omega) hx (by simpa using hp))
  (aIk (l:=l) (i:=l.length) (by omega)) with ⟨i,x,h1,h2,h3,h4⟩ | ⟨h1,h2,h3⟩
 ·rw [eH h2];exact bBi h4
 ·rw [eT h1];exact bBh h3
theorem bBk(h0:small l.length)(Aq:r0=(decide ((fN (fun x => !(within x 0 1000)) l) ≥ 0))):FMM Tp 93 [(.p (aE l)),(.fn 168 [] [(.ptr 0 0)])] [some (.box 44 [(.fn 112 [] [])])] (pB r0) [some (.box 44 [(.fn 112 [] [])])]:=by
 subst Aq;have k1:=mq [0] 1 (bBj l h0);exact FMM.fi 1 gE func93 [k1.o] (gc k1 gn)
theorem bBl(l:List Int)(hl:small l.length):FMM Tp 93 [.p (aE l),(.fn 168 [] [(.ptr 0 0)])] [some (.box 44 [(.fn 112 [] [])])] (pB (l.any fun x => !(within x 0 1000))) [some (.box 44 [(.fn 112 [] [])])]:=bBk hl (gT _ _).symm
theorem bOu(h0:small l.length)(Aq:r0=(!(l.any fun x => !(within x 0 1000)))):FV Tp 111 [(.p (aE l)),(.fn 112 [] [])] base (pB r0) []:=by
 subst Aq;have k1:=mq [0] 1 (bBl l h0);exact FV.fi func111 [k1.o] (gc k1 gn)
theorem pX(l:List Int)(hl:small l.length){base:Nat}:FV Tp 111 [.p (aE l),(.fn 112 [] [])] base (pB (l.all fun x=>within x 0 1000)) []:=bOu hl (by rw [List.all_eq_not_any_not])
theorem bBm(Aq:r0=(!(within x 0 60))):FMM Tp 168 [(pI x),(.ptr 0 0)] [some (.box 44 [(.fn 114 [] [])])] (pB r0) [some (.box 44 [(.fn 114 [] [])])]:=by
 subst Aq;have k1:=fk 1 (cCs x) rfl;exact FMM.fi 1 gE func168 [k1.o] (gc k1 gn)
theorem aGx(x:Int)  : FMM Tp 168 [(pI x),.ptr 0 0] [some (.box 44 [(.fn 114 [] [])])] (pB (!(within x 0 60))) [some (.box 44 [(.fn 114 [] [])])]:=bBm rfl
def dQ(l:List Int)(i:Nat):St:=⟨fr 19 [(0,(.p (aE l))),(1,(.fn 168 [] [(.ptr 0 0)])),(7,(pI (l.length:Int))),(8,(pI (i:Int)))],[some (.box 44 [(.fn 114 [] [])])]⟩
theorem bBn(hl0:aF Tp 1 oX (dQ l 0) (.exit 0) (dQ l Aw)):FMM Tp 163 [(.p (aE l)),(.fn 168 [] [(.ptr 0 0)])] [some (.box 44 [(.fn 114 [] [])])] (pI (-1)) [some (.box 44 [(.fn 114 [] [])])]:=FMM.fi 1 gE func163 [hl0.k 6 (gZ dq)] (gc hl0.code gn)
theorem bBo(hl0:aF Tp 1 oX (dQ l 0) .ret (cD (dQ l Aw) [(4,(pI (Aw:Int)))])):FMM Tp 163 [(.p (aE l)),(.fn 168 [] [(.ptr 0 0)])] [some (.box 44 [(.fn 114 [] [])])] (pI (Aw:Int)) [some (.box 44 [(.fn 114 [] [])])]:=FMM.fi 1 gE func163 [hl0.k 6 (gZ dq)] (gc hl0.code gn)
section
variable(h0:(i:Int)<(l.length:Int))(h1:l[i]? = some Ad)
include h0 h1
theorem aIl(h2:(within Ad 0 60)=false):aB Tp 1 oX (dQ l i) .ret (cD (dQ l i) [(4,(pI (i:Int)))]):=have k1:=mq [0] 1 (aGx Ad);aB.fi (gZ db) [bT,.x (aA Ad),k1.o,bT] (gc (cA h2) (gc k1 (gc (atm aA h1) (gc (ixn aA h1) (g0 h0)))))
theorem aIm(h2:(within Ad 0 60)=true)(h3:dv i)(Ak:i'=(i+1)):aB Tp 1 oX (dQ l i) .normal (dQ l i'):=by
 subst Ak;have k1:=mq [0] 1 (aGx Ad);exact aB.fi (gZ dq) [bT,.x (aA Ad),k1.o,bF] (gc h3 (gc (aL h2) (gc k1 (gc (atm aA h1) (gc (ixn aA h1) (g0 h0))))))
end
theorem aIn(h0:(l.length:Int)≤(i:Int)):aB Tp 1 oX (dQ l i) (.exit 0) (dQ l i):=aB.fi (gZ dq) [bF] (gc (aQ h0) gn)
theorem bBp(l:List Int)(hl:small l.length):FMM Tp 163 [.p (aE l),(.fn 168 [] [(.ptr 0 0)])] [some (.box 44 [(.fn 114 [] [])])] (pI (fN (fun x => !(within x 0 60)) l)) [some (.box 44 [(.fn 114 [] [])])]:=by
 rcases aF.find (P:=Tp) (k:=1) (b:=sub (cd Tryz.f163) dh) (fun i=>dQ l i) (fun i _=>cD (dQ l i) [(4,.p (aA (i:Int)))]) (dQ l l.length) .ret (.exit 0) (by simp) (by simp) (fun x => !(within x 0 60)) l
  (fun i x hx hp=>aIm (by have:=aT hx;omega) hx (by simpa using hp) (aI (by have:=aT hx;omega)) rfl)
  (fun i x hx hp=>aIl (by have:=aT hx;omega) hx (by simpa using hp))
  (aIn (l:=l) (i:=l.length) (by omega)) with ⟨i,x,h1,h2,h3,h4⟩ | ⟨h1,h2,h3⟩
 ·rw [eH h2];exact bBo h4
 ·rw [eT h1];exact bBn h3
theorem bBq(h0:small l.length)(Aq:r0=(decide ((fN (fun x => !(within x 0 60)) l) ≥ 0))):FMM Tp 93 [(.p (aE l)),(.fn 168 [] [(.ptr 0 0)])] [some (.box 44 [(.fn 114 [] [])])] (pB r0) [some (.box 44 [(.fn 114 [] [])])]:=by
 subst Aq;have k1:=mq [0] 1 (bBp l h0);exact FMM.fi 1 gE func93 [k1.o] (gc k1 gn)
theorem bBr(l:List Int)(hl:small l.length):FMM Tp 93 [.p (aE l),(.fn 168 [] [(.ptr 0 0)])] [some (.box 44 [(.fn 114 [] [])])] (pB (l.any fun x => !(within x 0 60))) [some (.box 44 [(.fn 114 [] [])])]:=bBq hl (gT _ _).symm
theorem bOv(h0:small l.length)(Aq:r0=(!(l.any fun x => !(within x 0 60)))):FV Tp 111 [(.p (aE l)),(.fn 114 [] [])] base (pB r0) []:=by
 subst Aq;have k1:=mq [0] 1 (bBr l h0);exact FV.fi func111 [k1.o] (gc k1 gn)
theorem bOw(l:List Int)(hl:small l.length){base:Nat}:FV Tp 111 [.p (aE l),(.fn 114 [] [])] base (pB (l.all fun x=>within x 0 60)) []:=bOv hl (by rw [List.all_eq_not_any_not])
theorem cCu{x:List Int}(Aq:r0=((x.length:Int) == c0)):FMM Tp 110 [(.p (aE x)),(.ptr 0 0)] [some (.box 34 [(pI c0),(pI c1),(pI c2),(.p (aE pts)),(.p (aV done))])] (pB r0) [some (.box 34 [(pI c0),(pI c1),(pI c2),(.p (aE pts)),(.p (aV done))])]:=by
 subst Aq;exact FMM.fi 1 gE func110 [] gn
theorem cCv(x:List Int)(c0 c1 c2:Int)(pts:List Int)(done:Lqq):FMM Tp 110 [.p (aE x),.ptr 0 0] [some (.box 34 [(pI c0),(pI c1),(pI c2),(.p (aE pts)),(.p (aV done))])] (pB ((x.length:Int) == c0)) [some (.box 34 [(pI c0),(pI c1),(pI c2),(.p (aE pts)),(.p (aV done))])]:=cCu rfl
theorem cCw{x:List Int}(h0:small x.length)(Aq:r0=(x.all fun x=>within x 0 60)):FV Tp 113 [(.p (aE x))] base (pB r0) []:=by
 subst Aq;have k1:=fk 0 (bOw x h0) rfl;exact FV.fi func113 [k1.o] (gc k1 gn)
theorem cCx(x:List Int)(hs:small x.length){base:Nat}:FV Tp 113 [.p (aE x)] base (pB (x.all fun y=>within y 0 60)) []:=cCw hs rfl
theorem bBs{x:List Int}(Aq:r0=(!((x.length:Int) == c0))):FMM Tp 167 [(.p (aE x)),(.ptr 0 0)] [some (.box 189 [(.fn 110 [] [(.ptr 1 0)])]),some (.box 34 [(pI c0),(pI c1),(pI c2),(.p (aE pts)),(.p (aV done))])] (pB r0) [some (.box 189 [(.fn 110 [] [(.ptr 1 0)])]),some (.box 34 [(pI c0),(pI c1),(pI c2),(.p (aE pts)),(.p (aV done))])]:=by
 subst Aq;have k1:=mq [1] 2 (cCv x c0 c1 c2 pts done);exact FMM.fi 2 gE func167 [k1.o] (gc k1 gn)
theorem aGy(x:List Int)(c0 c1 c2:Int)(pts:List Int)(done:Lqq):FMM Tp 167 [(.p (aE x)),.ptr 0 0] [some (.box 189 [(.fn 110 [] [(.ptr 1 0)])]),some (.box 34 [(pI c0),(pI c1),(pI c2),(.p (aE pts)),(.p (aV done))])] (pB (!((x.length:Int) == c0))) [some (.box 189 [(.fn 110 [] [(.ptr 1 0)])]),some (.box 34 [(pI c0),(pI c1),(pI c2),(.p (aE pts)),(.p (aV done))])]:=bBs rfl
def dR(l:Lqq)(c0 c1 c2:Int)(pts:List Int)(done:Lqq)(i:Nat):St:=⟨fr 19 [(0,(.p (aV l))),(1,(.fn 167 [] [(.ptr 0 0)])),(7,(pI (l.length:Int))),(8,(pI (i:Int)))],[some (.box 189 [(.fn 110 [] [(.ptr 1 0)])]),some (.box 34 [(pI c0),(pI c1),(pI c2),(.p (aE pts)),(.p (aV done))])]⟩
theorem bBt{l:Lqq}(hl0:aF Tp 2 oY (dR l c0 c1 c2 pts done 0) (.exit 0) (dR l c0 c1 c2 pts done Aw)):FMM Tp 171 [(.p (aV l)),(.fn 167 [] [(.ptr 0 0)])] [some (.box 189 [(.fn 110 [] [(.ptr 1 0)])]),some (.box 34 [(pI c0),(pI c1),(pI c2),(.p (aE pts)),(.p (aV done))])] (pI (-1)) [some (.box 189 [(.fn 110 [] [(.ptr 1 0)])]),some (.box 34 [(pI c0),(pI c1),(pI c2),(.p (aE pts)),(.p (aV done))])]:=FMM.fi 2 gE func171 [hl0.k 6 (gZ dq)] (gc hl0.code gn)
theorem bBu{l:Lqq}(hl0:aF Tp 2 oY (dR l c0 c1 c2 pts done 0) .ret (cD (dR l c0 c1 c2 pts done Aw) [(4,(pI (Aw:Int)))])):FMM Tp 171 [(.p (aV l)),(.fn 167 [] [(.ptr 0 0)])] [some (.box 189 [(.fn 110 [] [(.ptr 1 0)])]),some (.box 34 [(pI c0),(pI c1),(pI c2),(.p (aE pts)),(.p (aV done))])] (pI (Aw:Int)) [some (.box 189 [(.fn 110 [] [(.ptr 1 0)])]),some (.box 34 [(pI c0),(pI c1),(pI c2),(.p (aE pts)),(.p (aV done))])]:=FMM.fi 2 gE func171 [hl0.k 6 (gZ dq)] (gc hl0.code gn)
section
variable{l:Lqq}{Ad:List Int}(h0:(i:Int)<(l.length:Int))(h1:l[i]? = some Ad)
include h0 h1
theorem aIo(h2:((Ad.length:Int) == c0)=false):aB Tp 2 oY (dR l c0 c1 c2 pts done i) .ret (cD (dR l c0 c1 c2 pts done i) [(4,(pI (i:Int)))]):=have k1:=mq [0,1] 2 (aGy Ad c0 c1 c2 pts done);aB.fi (gZ db) [bT,.x (aE Ad),k1.o,bT] (gc (cA h2) (gc k1 (gc (atm aE h1) (gc (ixn aE h1) (g0 h0)))))
theorem aIp(h2:((Ad.length:Int) == c0)=true)(h3:dv i)(Ak:i'=(i+1)):aB Tp 2 oY (dR l c0 c1 c2 pts done i) .normal (dR l c0 c1 c2 pts done i'):=by
 subst Ak;have k1:=mq [0,1] 2 (aGy Ad c0 c1 c2 pts done);exact aB.fi (gZ dq) [bT,.x (aE Ad),k1.o,bF] (gc h3 (gc (aL h2) (gc k1 (gc (atm aE h1) (gc (ixn aE h1) (g0 h0))))))
end
theorem aIq{l:Lqq}(h0:(l.length:Int)≤(i:Int)):aB Tp 2 oY (dR l c0 c1 c2 pts done i) (.exit 0) (dR l c0 c1 c2 pts done i):=aB.fi (gZ dq) [bF] (gc (aQ h0) gn)
theorem bBv(l:Lqq)(c0 c1 c2:Int)(pts:List Int)(done:Lqq)(hl:small l.length):FMM Tp 171 [.p (aV l),(.fn 167 [] [(.ptr 0 0)])] [some (.box 189 [(.fn 110 [] [(.ptr 1 0)])]),some (.box 34 [(pI c0),(pI c1),(pI c2),(.p (aE pts)),(.p (aV done))])] (pI (fN (fun x => !((x.length:Int) == c0)) l)) [some (.box 189 [(.fn 110 [] [(.ptr 1 0)])]),some (.box 34 [(pI c0),(pI c1),(pI c2),(.p (aE pts)),(.p (aV done))])]:=by
 rcases aF.find (P:=Tp) (k:=2) (b:=sub (cd Tryz.f171) dh) (fun i=>dR l c0 c1 c2 pts done i) (fun i _=>cD (dR l c0 c1 c2 pts done i) [(4,.p (aA (i:Int)))]) (dR l c0 c1 c2 pts done l.length) .ret (.exit 0) (by simp) (by simp) (fun x => !((x.length:Int) == c0)) l
  (fun i x hx hp=>aIp (by have:=aT hx;omega) hx (by simpa using hp) (aI (by have:=aT hx;omega)) rfl)
  (fun i x hx hp=>aIo (by have:=aT hx;omega) hx (by simpa using hp))
  (aIq (l:=l) (i:=l.length) (by omega)) with ⟨i,x,h1,h2,h3,h4⟩ | ⟨h1,h2,h3⟩
 ·rw [eH h2];exact bBu h4
 ·rw [eT h1];exact bBt h3
theorem bBw{l:Lqq}(h0:small l.length)(Aq:r0=(decide ((fN (fun x => !((x.length:Int) == c0)) l) ≥ 0))):FMM Tp 116 [(.p (aV l)),(.fn 167 [] [(.ptr 0 0)])] [some (.box 189 [(.fn 110 [] [(.ptr 1 0)])]),some (.box 34 [(pI c0),(pI c1),(pI c2),(.p (aE pts)),(.p (aV done))])] (pB r0) [some (.box 189 [(.fn 110 [] [(.ptr 1 0)])]),some (.box 34 [(pI c0),(pI c1),(pI c2),(.p (aE pts)),(.p (aV done))])]:=by
 subst Aq;have k1:=mq [0,1] 2 (bBv l c0 c1 c2 pts done h0);exact FMM.fi 2 gE func116 [k1.o] (gc k1 gn)
theorem bBx(l:Lqq)(c0 c1 c2:Int)(pts:List Int)(done:Lqq)(hl:small l.length):FMM Tp 116 [.p (aV l),(.fn 167 [] [(.ptr 0 0)])] [some (.box 189 [(.fn 110 [] [(.ptr 1 0)])]),some (.box 34 [(pI c0),(pI c1),(pI c2),(.p (aE pts)),(.p (aV done))])] (pB (l.any fun x => !((x.length:Int) == c0))) [some (.box 189 [(.fn 110 [] [(.ptr 1 0)])]),some (.box 34 [(pI c0),(pI c1),(pI c2),(.p (aE pts)),(.p (aV done))])]:=bBw hl (gT _ _).symm
theorem bOx{l:Lqq}(h0:small l.length)(Aq:r0=(!(l.any fun x => !((x.length:Int) == c0)))):FMM Tp 109 [(.p (aV l)),(.fn 110 [] [(.ptr 0 0)])] [some (.box 34 [(pI c0),(pI c1),(pI c2),(.p (aE pts)),(.p (aV done))])] (pB r0) [some (.box 34 [(pI c0),(pI c1),(pI c2),(.p (aE pts)),(.p (aV done))])]:=by
 subst Aq;have k1:=mq [1,0] 2 (bBx l c0 c1 c2 pts done h0);exact FMM.fi 1 gE func109 [k1.o] (gc k1 gn)
theorem mV(l:Lqq)(c0 c1 c2:Int)(pts:List Int)(done:Lqq)(hl:small l.length):FMM Tp 109 [.p (aV l),(.fn 110 [] [(.ptr 0 0)])] [some (.box 34 [(pI c0),(pI c1),(pI c2),(.p (aE pts)),(.p (aV done))])] (pB (l.all fun x=>(x.length:Int) == c0)) [some (.box 34 [(pI c0),(pI c1),(pI c2),(.p (aE pts)),(.p (aV done))])]:=bOx hl (by rw [List.all_eq_not_any_not])
theorem bBy{x:List Int}(h0:small x.length)(Aq:r0=(!(x.all fun y=>within y 0 60))):FMM Tp 167 [(.p (aE x)),(.ptr 0 0)] [some (.box 189 [(.fn 113 [] [])])] (pB r0) [some (.box 189 [(.fn 113 [] [])])]:=by
 subst Aq;have k1:=fk 1 (cCx x h0) rfl;exact FMM.fi 1 gE func167 [k1.o] (gc k1 gn)
theorem aGz(x:List Int)(he:small x.length):FMM Tp 167 [(.p (aE x)),.ptr 0 0] [some (.box 189 [(.fn 113 [] [])])] (pB (!(x.all fun y=>within y 0 60))) [some (.box 189 [(.fn 113 [] [])])]:=bBy he rfl
def dS(l:Lqq)(i:Nat):St:=⟨fr 19 [(0,(.p (aV l))),(1,(.fn 167 [] [(.ptr 0 0)])),(7,(pI (l.length:Int))),(8,(pI (i:Int)))],[some (.box 189 [(.fn 113 [] [])])]⟩
theorem bBz{l:Lqq}(hl0:aF Tp 1 oY (dS l 0) (.exit 0) (dS l Aw)):FMM Tp 171 [(.p (aV l)),(.fn 167 [] [(.ptr 0 0)])] [some (.box 189 [(.fn 113 [] [])])] (pI (-1)) [some (.box 189 [(.fn 113 [] [])])]:=FMM.fi 1 gE func171 [hl0.k 6 (gZ dq)] (gc hl0.code gn)
theorem bCa{l:Lqq}(hl0:aF Tp 1 oY (dS l 0) .ret (cD (dS l Aw) [(4,(pI (Aw:Int)))])):FMM Tp 171 [(.p (aV l)),(.fn 167 [] [(.ptr 0 0)])] [some (.box 189 [(.fn 113 [] [])])] (pI (Aw:Int)) [some (.box 189 [(.fn 113 [] [])])]:=FMM.fi 1 gE func171 [hl0.k 6 (gZ dq)] (gc hl0.code gn)
section
variable{l:Lqq}{Ad:List Int}(h0:(i:Int)<(l.length:Int))(h1:l[i]? = some Ad)(h2:small Ad.length)
include h0 h1 h2
theorem aIr(h3:(Ad.all fun y=>within y 0 60)=false):aB Tp 1 oY (dS l i) .ret (cD (dS l i) [(4,(pI (i:Int)))]):=have k1:=mq [0] 1 (aGz Ad h2);aB.fi (gZ db) [bT,.x (aE Ad),k1.o,bT] (gc (cA h3) (gc k1 (gc (atm aE h1) (gc (ixn aE h1) (g0 h0)))))
theorem aIs(h3:(Ad.all fun y=>within y 0 60)=true)(h4:dv i)(Ak:i'=(i+1)):aB Tp 1 oY (dS l i) .normal (dS l i'):=by
 subst Ak;have k1:=mq [0] 1 (aGz Ad h2);exact aB.fi (gZ dq) [bT,.x (aE Ad),k1.o,bF] (gc h4 (gc (aL h3) (gc k1 (gc (atm aE h1) (gc (ixn aE h1) (g0 h0))))))
end
theorem aIt{l:Lqq}(h0:(l.length:Int)≤(i:Int)):aB Tp 1 oY (dS l i) (.exit 0) (dS l i):=aB.fi (gZ dq) [bF] (gc (aQ h0) gn)
theorem bCb(l:Lqq)(hl:small l.length)(he:∀ x∈l,small x.length):FMM Tp 171 [.p (aV l),(.fn 167 [] [(.ptr 0 0)])] [some (.box 189 [(.fn 113 [] [])])] (pI (fN (fun x => !(x.all fun y=>within y 0 60)) l)) [some (.box 189 [(.fn 113 [] [])])]:=by
 rcases aF.find (P:=Tp) (k:=1) (b:=sub (cd Tryz.f171) dh) (fun i=>dS l i) (fun i _=>cD (dS l i) [(4,.p (aA (i:Int)))]) (dS l l.length) .ret (.exit 0) (by simp) (by simp) (fun x => !(x.all fun y=>within y 0 60)) l
  (fun i x hx hp=>aIs (by have:=aT hx;omega) hx (he x (Bp hx)) (by simpa using hp) (aI (by have:=aT hx;omega)) rfl)
  (fun i x hx hp=>aIr (by have:=aT hx;omega) hx (he x (Bp hx)) (by simpa using hp))
  (aIt (l:=l) (i:=l.length) (by omega)) with ⟨i,x,h1,h2,h3,h4⟩ | ⟨h1,h2,h3⟩
 ·rw [eH h2];exact bCa h4
 ·rw [eT h1];exact bBz h3
theorem bCc{l:Lqq}(h0:small l.length)(h1:∀ x∈l,small x.length)(Aq:r0=(decide ((fN (fun x => !(x.all fun y=>within y 0 60)) l) ≥ 0))):FMM Tp 116 [(.p (aV l)),(.fn 167 [] [(.ptr 0 0)])] [some (.box 189 [(.fn 113 [] [])])] (pB r0) [some (.box 189 [(.fn 113 [] [])])]:=by
 subst Aq;have k1:=mq [0] 1 (bCb l h0 h1);exact FMM.fi 1 gE func116 [k1.o] (gc k1 gn)
theorem bCd(l:Lqq)(hl:small l.length)(he:∀ x∈l,small x.length):FMM Tp 116 [.p (aV l),(.fn 167 [] [(.ptr 0 0)])] [some (.box 189 [(.fn 113 [] [])])] (pB (l.any fun x => !(x.all fun y=>within y 0 60))) [some (.box 189 [(.fn 113 [] [])])]:=bCc hl he (gT _ _).symm
theorem bOy{l:Lqq}(h0:small l.length)(h1:∀ x∈l,small x.length)(Aq:r0=(!(l.any fun x => !(x.all fun y=>within y 0 60)))):FV Tp 109 [(.p (aV l)),(.fn 113 [] [])] base (pB r0) []:=by
 subst Aq;have k1:=mq [0] 1 (bCd l h0 h1);exact FV.fi func109 [k1.o] (gc k1 gn)
theorem uN(l:Lqq)(hl:small l.length)(he:∀ x∈l,small x.length){base:Nat}:FV Tp 109 [.p (aV l),(.fn 113 [] [])] base (pB (l.all fun x=>x.all fun y=>within y 0 60)) []:=bOy hl he (by rw [List.all_eq_not_any_not])
end CU
end
end KV
end Go.Proofs
section
namespace Go.Proofs
namespace KC
open Go.RowKit Go.Lib Go.Sort
variable {α:Type}
abbrev leB:Int→Int→Bool:=KL.leB
def cmpI(x y:Int):Int:=if x<y then -1 else if y<x then 1 else 0

def nz(p:Int):Bool:=decide (p=0)

def placesOf(race:List Int):List Int:=(race.filter fun x => !nz x).mergeSort leB

def clashLoop:Option Int→Int→List Int→Option Int
 | _,free,[]=>some free
 | prev,free,p::r=>if prev=some p then clashLoop (some p) (free+1) r else if p<free then none else clashLoop (some p) (p+1) r

def clashR(race:List Int):Bool:=match clashLoop none 1 (placesOf race) with | none=>true | some f=>decide (61<f)

def prevOf(l:List Int)(k:Nat):Option Int:=if k=0 then none else l[k-1]?

theorem clashLoop_step(l:List Int)(k:Nat)(h:k<l.length)(free:Int) :
  clashLoop (prevOf l k) free (l.drop k)=if prevOf l k=some l[k] then clashLoop (prevOf l (k+1)) (free+1) (l.drop (k+1)) else if l[k]<free then none else clashLoop (prevOf l (k+1)) (l[k]+1) (l.drop (k+1)):=by
 have hp:prevOf l (k+1)=some l[k]:=by simp [prevOf,h]
 rw [hp,List.drop_eq_getElem_cons h];rfl

theorem placesOf_bd(race:List Int)(hr:∀ x∈race,0≤x∧x≤1000):(placesOf race).length≤race.length∧∀ i (h:i<(placesOf race).length),0≤(placesOf race)[i]∧(placesOf race)[i]≤1000:=by
 unfold placesOf;refine ⟨by rw [List.length_mergeSort];exact List.length_filter_le _ _,fun i h => ?_⟩
 have hm:=List.getElem_mem h;rw [List.mem_mergeSort,List.mem_filter] at hm
 exact hr _ hm.1

def bFl(cmp:Int→Int→Int)(l:List Int):Bool:=decide (∀ j,j<l.length-1→0≤cmp (l.getD (j+1) 0) (l.getD j 0))

theorem bFm(l:List Int)(k:Nat)(h:k<l.length):l.getD k 0=l[k]:=by
 rw [List.getD_eq_getElem?_getD,List.getElem?_eq_getElem h];rfl

def bFn(a b:Int):Int:=cmpI b a

def fallsB(l:List Int):Bool:=bFl bFn l

structure Cup where
 sk:Int
 ra:Int
 be:Int
 pts:List Int
 done:List (List Int)

structure Small (c:Cup):Prop where
 pts:c.pts.length≤1000
 done:c.done.length≤1000
 rows:∀ r∈c.done,r.length≤1000

def wiB(n lo hi:Int):Bool:=decide (lo≤n∧n≤hi)

def checkP(c:Cup):Int :=
 if !wiB c.sk 1 12 || !wiB c.ra 1 20 || !wiB c.be 1 c.ra then 3
 else if !wiB c.pts.length 1 60 || decide (c.ra<c.done.length) || !c.done.all (fun r=>((r.length:Int) == c.sk)) then 2
 else if !c.pts.all (fun n=>wiB n 0 1000) || !c.done.all (fun r=>r.all fun p=>wiB p 0 60) then 3
 else if !fallsB c.pts then 4
 else if c.done.any clashR then 7 else 0

structure Valid (c:Cup):Prop where
 sk1:1≤c.sk
 sk2:c.sk≤12
 ra1:1≤c.ra
 ra2:c.ra≤20
 be1:1≤c.be
 be2:c.be≤c.ra
 pt1:1≤c.pts.length
 pt2:c.pts.length≤60
 dn:(c.done.length:Int)≤c.ra
 len:∀ r∈c.done,(r.length:Int)=c.sk
 pts:∀ x∈c.pts,0≤x∧x≤1000
 rows:∀ r∈c.done,∀ x∈r,0≤x∧x≤60
 falls:fallsB c.pts=true
 clash:c.done.any clashR=false

theorem mP{n lo hi:Int}:wiB n lo hi=true↔lo≤n∧n≤hi:=by unfold wiB;rw [decide_eq_true_iff]

theorem valid_iff(c:Cup):checkP c=0↔Valid c:=by
 constructor
 ·intro h
  unfold checkP at h
  split at h
  ·cases h
  rename_i h1
  split at h
  ·cases h
  rename_i h2
  split at h
  ·cases h
  rename_i h3
  split at h
  ·cases h
  rename_i h4
  split at h
  ·cases h
  rename_i h5;simp only [Bool.not_eq_true,Bool.or_eq_false_iff,Bool.not_eq_false',decide_eq_false_iff_not] at h1 h2 h3 h4 h5
  obtain ⟨⟨a1,a2⟩,a3⟩:=h1;obtain ⟨⟨b1,b2⟩,b3⟩:=h2;obtain ⟨c1,c2⟩:=h3;rw [mP] at a1 a2 a3 b1
  rw [List.all_eq_true] at b3 c1 c2
  refine ⟨a1.1,a1.2,a2.1,a2.2,a3.1,a3.2,by omega,by omega,by omega,fun r hr=>by simpa using b3 r hr,fun x hx=>mP.1 (c1 x hx),fun r hr x hx => ?_,h4,h5⟩
  have:=c2 r hr;rw [List.all_eq_true] at this
  exact mP.1 (this x hx)
 ·intro v
  have a1:wiB c.sk 1 12=true:=mP.2 ⟨v.sk1,v.sk2⟩;have a2:wiB c.ra 1 20=true:=mP.2 ⟨v.ra1,v.ra2⟩;have a3:wiB c.be 1 c.ra=true:=mP.2 ⟨v.be1,v.be2⟩;have a4:wiB c.pts.length 1 60=true:=mP.2 (by have:=v.pt1;have:=v.pt2;omega)
  have a5:decide (c.ra<c.done.length)=false:=by rw [decide_eq_false_iff_not];have:=v.dn;omega
  have a6:c.done.all (fun r=>((r.length:Int) == c.sk))=true:=by rw [List.all_eq_true];intro r hr;simpa using v.len r hr
  have a7:c.pts.all (fun n=>wiB n 0 1000)=true:=by rw [List.all_eq_true];intro r hr;exact mP.2 (v.pts r hr)
  have a8:c.done.all (fun r=>r.all fun p=>wiB p 0 60)=true:=by
   rw [List.all_eq_true];intro r hr;rw [List.all_eq_true];intro x hx;exact mP.2 (v.rows r hr x hx)
  unfold checkP;rw [a1,a2,a3,a4,a5,a6,a7,a8,v.falls,v.clash];rfl

theorem Valid.small{c:Cup}(v:Valid c):Small c :=
 ⟨by have:=v.pt2;omega,by have:=v.dn;have:=v.ra2;omega,fun r hr=>by have:=v.len r hr;have:=v.sk2;omega⟩

theorem sum_bd(l:List Int)(h:∀ x∈l,0≤x∧x≤1000):0≤l.sum∧l.sum≤1000*l.length:=by
 induction l with
 | nil=>simp
 | cons x r ih =>
  have hx:=h x (by simp)
  have:=ih (fun y hy=>h y (by simp [hy]))
  simp only [List.sum_cons,List.length_cons];omega

def worthM(pts:List Int)(place many:Nat):Int:=((pts.drop (place-1)).take many).sum

theorem worthM_bd(pts:List Int)(place many:Nat)(h:∀ x∈pts,0≤x∧x≤1000):0≤worthM pts place many∧worthM pts place many≤1000*many:=by
 have:=sum_bd ((pts.drop (place-1)).take many) (fun x hx=>h x (List.mem_of_mem_drop (List.mem_of_mem_take hx)))
 have hl:((pts.drop (place-1)).take many).length≤many:=List.length_take_le _ _;unfold worthM;omega

theorem worthM_none(pts:List Int)(place many:Nat)(hp:1≤place)(h2:¬ (place:Int)≤min (pts.length:Int) ((place:Int)-1+many)):worthM pts place many=0:=by
 unfold worthM
 by_cases hm:many=0
 ·simp [hm]
 ·rw [List.drop_of_length_le (by omega)];simp

def scoreM(pts race:List Int)(s:Nat):Int :=
 if race.getD s 0=0 then 0 else worthM pts (race.getD s 0).toNat (race.count (race.getD s 0)) / (race.count (race.getD s 0):Int)

theorem count_snoc(l:List Int)(p:Int)(k:Nat)(h:k<l.length):(l.take (k+1)).count p=(l.take k).count p+if l[k]=p then 1 else 0:=by
 rw [List.take_succ_eq_append_getElem h,List.count_append,List.count_singleton];simp

def mv(A:List α)(x:α)(j:Nat)(R:List α):List α:=A.take j++x::(A.drop j++R)

theorem mv_length(A:List α)(x:α)(j:Nat)(R:List α)(hj:j≤A.length):(mv A x j R).length=A.length+1+R.length:=by
 unfold mv;simp;omega

theorem mv_get(A:List α)(x:α)(j:Nat)(R:List α)(hj:j≤A.length)(t:Nat) :
  (mv A x j R)[t]? = if t<j then A[t]? else if t=j then some x else if t≤A.length then A[t-1]? else R[t-A.length-1]? := by
 unfold mv
 by_cases h1:t<j
 ·rw [if_pos h1,List.getElem?_append_left (by simp;omega),List.getElem?_take_of_lt h1]
 ·rw [if_neg h1,List.getElem?_append_right (by simp;omega)]
  have hl:(A.take j).length=j:=by simp;omega
  rw [hl]
  by_cases h2:t=j
  ·rw [if_pos h2,show t-j=0 by omega];rfl
  ·rw [if_neg h2,show t-j=(t-j-1)+1 by omega,List.getElem?_cons_succ]
   by_cases h3:t≤A.length
   ·rw [if_pos h3,List.getElem?_append_left (by simp;omega),List.getElem?_drop]
    congr 1;omega
   ·rw [if_neg h3,List.getElem?_append_right (by simp;omega)]
    congr 1
    simp;omega

theorem mv_swap(A:List α)(x:α)(j:Nat)(R:List α)(hj:j≤A.length)(h0:0<j)(y:α)(hy:A[j-1]? = some y) :
  ((mv A x j R).set j y).set (j-1) x=mv A x (j-1) R:=by
 have hl:=mv_length A x j R hj;apply List.ext_getElem?;intro t;rw [List.getElem?_set,List.getElem?_set,mv_get A x (j-1) R (by omega),mv_get A x j R hj]
 simp only [List.length_set,hl]
 by_cases h1:j-1=t
 ·subst h1
  rw [if_pos rfl,if_pos (by omega),if_neg (by omega),if_pos rfl]
 ·rw [if_neg h1]
  by_cases h2:j=t
  ·subst h2
   rw [if_pos rfl,if_pos (by omega),if_neg (by omega),if_neg (by omega),if_pos (by omega),hy]
  ·rw [if_neg h2]
   by_cases h3:t<j
   ·rw [if_pos h3,if_pos (by omega)]
   ·rw [if_neg h3,if_neg (by omega:¬ t=j),if_neg (by omega:¬ t<j-1),if_neg (by omega:¬ t=j-1)]

def insPos(lt:α→α→Bool)(x:α)(A:List α):Nat:=(A.reverse.dropWhile (lt x)).length
def ins(lt:α→α→Bool)(A:List α)(x:α):List α:=A.take (insPos lt x A)++x::A.drop (insPos lt x A)
def isort(lt:α→α→Bool)(l:List α):List α:=l.foldl (ins lt) []

theorem dropWhile_all_append{p:α→Bool}:∀ (l r:List α),(∀ x∈l,p x=true)→(l++r).dropWhile p=r.dropWhile p
 | [],_,_=>rfl
 | x::l,r,h=>by
  rw [List.cons_append,List.dropWhile_cons,if_pos (h x (by simp))]
  exact dropWhile_all_append l r (fun y hy=>h y (by simp [hy]))

theorem insPos_eq(lt:α→α→Bool)(x:α)(A:List α)(j:Nat)(hj:j≤A.length)(h:∀ t (_:t<A.length),j≤t→lt x A[t]=true)
  (h2:j=0∨∃ y,A[j-1]? = some y∧lt x y=false):insPos lt x A=j:=by
 unfold insPos;have e:A.reverse=(A.drop j).reverse++(A.take j).reverse:=by rw [← List.reverse_append,List.take_append_drop]
 rw [e,dropWhile_all_append]
 ·rcases h2 with h0 | ⟨y,hy,hlt⟩
  ·subst h0;simp
  ·by_cases h0:j=0
   ·subst h0;simp
   ·have e2:A.take j=A.take (j-1)++[y]:=by
     rw [show j=(j-1)+1 by omega,List.take_add_one,Nat.add_sub_cancel,hy];rfl
    have hl:(A.take (j-1)).length=j-1:=by simp;omega
    rw [e2,List.reverse_append];show ((y::(A.take (j-1)).reverse).dropWhile (lt x)).length=j;rw [List.dropWhile_cons,hlt];simp;omega
 ·intro z hz
  rw [List.mem_reverse] at hz
  obtain ⟨t,ht,rfl⟩:=List.getElem_of_mem hz;rw [List.getElem_drop];exact h (j+t) (by simp at ht;omega) (by omega)

theorem ins_length(lt:α→α→Bool)(A:List α)(x:α):(ins lt A x).length=A.length+1:=by
 unfold ins;simp;have:insPos lt x A≤A.length:=by
  unfold insPos;have h2:((A.reverse).dropWhile (lt x)).length≤A.reverse.length:=(List.dropWhile_sublist _).length_le;simpa using h2
 omega

theorem mv_end(A:List α)(x:α)(R:List α):mv A x A.length R=A++x::R:=by unfold mv;simp
theorem mv_ins(lt:α→α→Bool)(A:List α)(x:α)(R:List α):mv A x (insPos lt x A) R=ins lt A x++R:=by unfold mv ins;simp

theorem isort_length(lt:α→α→Bool)(l:List α):(isort lt l).length=l.length:=by
 unfold isort;have:∀ (l A:List α),(l.foldl (ins lt) A).length=A.length+l.length:=by
  intro l
  induction l with
  | nil=>intro A;simp
  | cons x r ih=>intro A;rw [List.foldl_cons,ih,ins_length];simp;omega
 rw [this];simp

theorem isort_snoc(lt:α→α→Bool)(l:List α)(k:Nat)(h:k<l.length):isort lt (l.take (k+1))=ins lt (isort lt (l.take k)) l[k]:=by
 unfold isort;rw [List.take_succ_eq_append_getElem h,List.foldl_append];rfl
theorem isort_mem{α:Type}(lt:α→α→Bool)(l:List α)(y:α):y∈isort lt l↔y∈l:=by
 unfold isort;have : ∀ (l A:List α),y∈l.foldl (ins lt) A↔y∈A∨y∈l:=by
  intro l
  induction l with
  | nil=>intro A;simp
  | cons x r ih =>
   intro A;rw [List.foldl_cons,ih];have:y∈ins lt A x↔y∈A∨y=x:=by
    unfold ins;rw [List.mem_append,List.mem_cons];constructor
    ·rintro (h | h | h)
     ·exact Or.inl (List.mem_of_mem_take h)
     ·exact Or.inr h
     ·exact Or.inl (List.mem_of_mem_drop h)
    ·rintro (h | h)
     ·rw [← List.take_append_drop (insPos lt x A) A,List.mem_append] at h
      rcases h with h | h
      ·exact Or.inl h
      ·exact Or.inr (Or.inr h)
     ·exact Or.inr (Or.inl h)
   rw [this,List.mem_cons];constructor
   ·rintro ((h | h) | h) <;> simp [h]
   ·rintro (h | h | h) <;> simp [h]
 rw [this];simp

def ltC{α:Type}(cmp:α→α→Int)(x y:α):Bool:=decide (cmp x y<0)

def scoreAt(c:Cup)(i s:Nat):Int:=scoreM c.pts (c.done.getD i []) s

def cntCmp(c:Cup)(s:Nat)(a b:Int):Int:=cmpI (scoreAt c b.toNat s) (scoreAt c a.toNat s)

def idx(m:Nat):List Int:=(List.range m).map (fun i=>((i:Nat):Int))
theorem idx_length(m:Nat):(idx m).length=m:=by simp [idx]
theorem idx_succ(m:Nat):idx (m+1)=idx m++[(m:Int)]:=by simp [idx,List.range_succ]
theorem idx_mem{m:Nat}{x:Int}(h:x∈idx m):∃ k:Nat,x=k∧k<m:=by
 unfold idx at h
 rw [List.mem_map] at h
 obtain ⟨k,hk,rfl⟩:=h;exact ⟨k,rfl,List.mem_range.1 hk⟩

def countedL(c:Cup)(s:Nat):List Int:=((isort (ltC (cntCmp c s)) (idx c.done.length)).take (min c.done.length c.be.toNat)).mergeSort leB

def zeros61:List Int:=List.replicate 61 0
def totalM(c:Cup)(s:Nat):Int:=((countedL c s).map fun i=>scoreAt c i.toNat s).sum
def oftenUpTo(c:Cup)(s k p:Nat):Int:=if p=0 then 0 else ((c.done.take k).countP (fun r=>decide (r.getD s 0=(p:Int))):Nat)
def placesUpTo(c:Cup)(s k:Nat):List Int:=(List.range 61).map (oftenUpTo c s k)
def placesM(c:Cup)(s:Nat):List Int:=placesUpTo c s c.done.length
theorem placesUpTo_length(c:Cup)(s k:Nat):(placesUpTo c s k).length=61:=by simp [placesUpTo]
theorem placesUpTo_zero(c:Cup)(s:Nat):placesUpTo c s 0=zeros61:=by
 unfold placesUpTo zeros61;apply List.ext_getElem (by simp)
 intro i h1 h2;simp only [List.getElem_map,List.getElem_range,List.getElem_replicate,oftenUpTo,List.take_zero,List.countP_nil]
 split <;> rfl
theorem placesUpTo_bd(c:Cup)(s k p:Nat)(h:p<(placesUpTo c s k).length):0≤(placesUpTo c s k)[p]∧(placesUpTo c s k)[p]≤k:=by
 simp only [placesUpTo,List.getElem_map,List.getElem_range,oftenUpTo]
 split
 ·omega
 ·have h1:(c.done.take k).countP (fun r=>decide (r.getD s 0=(p:Int)))≤(c.done.take k).length:=List.countP_le_length
  have h2:(c.done.take k).length≤k:=List.length_take_le _ _;omega

theorem placesUpTo_none(c:Cup)(s k:Nat)(hk:k<c.done.length)(h:c.done[k].getD s 0=0):placesUpTo c s (k+1)=placesUpTo c s k:=by
 unfold placesUpTo;apply List.map_congr_left;intro p _;unfold oftenUpTo
 split
 ·rfl
 ·rw [List.take_succ_eq_append_getElem hk,List.countP_append,List.countP_singleton,h]
  rw [if_neg (by simp;omega)]
  simp

theorem placesUpTo_some(c:Cup)(s k p:Nat)(hk:k<c.done.length)(h:c.done[k].getD s 0=(p:Int))(hp:0<p)(G6:p<61)(hl:p<(placesUpTo c s k).length) :
  placesUpTo c s (k+1)=(placesUpTo c s k).set p ((placesUpTo c s k)[p]+1):=by
 apply List.ext_getElem (by simp [placesUpTo])
 intro i h1 h2;rw [List.getElem_set];simp only [placesUpTo,List.getElem_map,List.getElem_range,oftenUpTo]
 by_cases hi:p=i
 ·subst hi
  rw [if_pos rfl,if_neg (by omega),if_neg (by omega),List.take_succ_eq_append_getElem hk,List.countP_append,List.countP_singleton,h]
  simp
 ·rw [if_neg hi]
  split
  ·rfl
  ·rw [List.take_succ_eq_append_getElem hk,List.countP_append,List.countP_singleton,h]
   rw [if_neg (by simp;omega)]
   simp

theorem scoreM_bd(pts race:List Int)(s:Nat)(hpr:∀ x∈pts,0≤x∧x≤1000):0≤scoreM pts race s∧scoreM pts race s≤1000:=by
 unfold scoreM
 split
 ·omega
 ·have h1:=worthM_bd pts (race.getD s 0).toNat (race.count (race.getD s 0)) hpr
  generalize race.count (race.getD s 0)=m at *
  generalize worthM pts (race.getD s 0).toNat m=x at *
  by_cases hm:m=0
  ·subst hm;simp
  ·refine ⟨Int.ediv_nonneg h1.1 (by omega),?_⟩
   have:x / (m:Int)≤(1000*(m:Int)) / (m:Int):=Int.ediv_le_ediv (by omega) h1.2
   rwa [Int.mul_ediv_cancel _ (by omega)] at this

theorem countedL_mem{c:Cup}{s:Nat}{x:Int}(h:x∈countedL c s):∃ k:Nat,x=k∧k<c.done.length:=by
 unfold countedL at h
 rw [List.mem_mergeSort] at h
 exact idx_mem ((isort_mem _ _ _).1 (List.mem_of_mem_take h))
theorem countedL_length(c:Cup)(s:Nat):(countedL c s).length=min c.done.length c.be.toNat:=by
 unfold countedL;rw [List.length_mergeSort,List.length_take,isort_length,idx_length];omega

def partTotal(c:Cup)(s k:Nat):Int:=(((countedL c s).take k).map fun i=>scoreAt c i.toNat s).sum
theorem partTotal_succ(c:Cup)(s k:Nat)(h:k<(countedL c s).length):partTotal c s (k+1)=partTotal c s k+scoreAt c (countedL c s)[k].toNat s:=by
 unfold partTotal;rw [List.take_succ_eq_append_getElem h,List.map_append,List.sum_append];simp
theorem partTotal_bd(c:Cup)(hV:Valid c)(s:Nat):∀ k,0≤partTotal c s k∧partTotal c s k≤1000*k:=by
 intro k;unfold partTotal;have:=sum_bd (((countedL c s).take k).map fun i=>scoreAt c i.toNat s) (fun x hx=>by
  rw [List.mem_map] at hx
  obtain ⟨i,_,rfl⟩:=hx;exact scoreM_bd _ _ _ hV.pts)
 have h2:(((countedL c s).take k).map fun i=>scoreAt c i.toNat s).length≤k:=by simp;omega
 omega

theorem vM:∀ (xs ys:List Int),xs.length=ys.length→((List.range xs.length).all fun i=>xs.getD i 0 == ys.getD i 0)=decide (xs=ys)
 | [],[],_=>rfl
 | x::xs,y::ys,h=>by
  have ih:=vM xs ys (by simpa using h)
  rw [List.length_cons,List.range_succ_eq_map,List.all_cons,List.all_map];simp only [List.getD_cons_zero,Function.comp_def,List.getD_cons_succ,ih]
  by_cases hxy:x=y
  ·subst hxy;simp
  ·simp [hxy]
 | [],_::_,h=>by simp at h
 | _::_,[],h=>by simp at h

def lexFrom(p1 p2:List Int):Nat→Nat→Bool
 | 0,_=>false
 | f+1,i=>if p1.getD i 0=p2.getD i 0 then lexFrom p1 p2 f (i+1) else decide (p2.getD i 0<p1.getD i 0)
def betterF(t1 t2:Int)(p1 p2:List Int):Bool:=if t1=t2 then lexFrom p1 p2 60 1 else decide (t2<t1)

theorem lexFrom_same(p:List Int):∀ f i,lexFrom p p f i=false
 | 0,_=>rfl
 | f+1,i=>by rw [lexFrom,if_pos rfl];exact lexFrom_same p f (i+1)

def oth(skier k:Nat):List Nat:=(List.range k).filter (fun s=>decide (s≠skier))

theorem aIu(skier:Nat):oth skier (skier+1)=oth skier skier:=by simp [oth,List.range_succ]
theorem tP(skier k:Nat)(h:k≠skier):oth skier (k+1)=oth skier k++[k]:=by simp [oth,List.range_succ,h]
theorem aHa(skier:Nat){k m:Nat}(h:k≤m):oth skier k <+: oth skier m:=by
 obtain ⟨d,rfl⟩:=Nat.exists_eq_add_of_le h;unfold oth;rw [List.range_add,List.filter_append];exact List.prefix_append _ _
theorem oth_mem{skier k x:Nat}(h:x∈oth skier k):x<k∧x≠skier:=by simpa [oth] using h
theorem cLb(skier:Nat){k m:Nat}(h:k<m)(hk:k≠skier):(oth skier k).length<(oth skier m).length:=by
 have:=(aHa skier (Nat.succ_le_of_lt h)).length_le;rw [Nat.succ_eq_add_one,tP skier k hk,List.length_append,List.length_singleton] at this
 omega

def betS(c:Cup)(a b:Nat):Bool:=betterF (totalM c a) (totalM c b) (placesM c a) (placesM c b)
def rankM(c:Cup)(s:Nat):Int:=1+((oth s c.sk.toNat).countP (fun x=>betS c x s):Nat)
def oZ(c:Cup)(s:Nat)(pre:List Nat):Int:=1+(pre.countP (fun x=>betS c x s):Nat)

theorem aBx(c:Cup)(s:Nat)(pre:List Nat)(x:Nat):oZ c s (pre++[x])=if betS c x s=true then oZ c s pre+1 else oZ c s pre:=by
 unfold oZ;rw [List.countP_append,List.countP_singleton]
 split <;> omega
theorem bOz(c:Cup)(s:Nat)(pre:List Nat):1≤oZ c s pre∧oZ c s pre≤1+pre.length:=by
 unfold oZ;have:=List.countP_le_length (p:=fun x=>betS c x s) (l:=pre)
 omega
theorem bCe(s k:Nat):(oth s k).length≤k:=by
 unfold oth;exact Nat.le_trans (List.length_filter_le _ _) (by simp)

def totalsUp(c:Cup)(k:Nat):List Int:=(List.range k).map (totalM c)
def totalsM(c:Cup):List Int:=totalsUp c c.sk.toNat
theorem totalsUp_succ(c:Cup)(k:Nat):totalsUp c (k+1)=totalsUp c k++[totalM c k]:=by simp [totalsUp,List.range_succ]
theorem totalsUp_length(c:Cup)(k:Nat):(totalsUp c k).length=k:=by simp [totalsUp]

def wonRace(n s:Nat):List Int:=(List.replicate n (0:Int)).set s 1
theorem aHb(n s:Nat):(wonRace n s).length=n:=by simp [wonRace]

def wonM(c:Cup)(s:Nat):List (List Int):=List.replicate (c.ra.toNat-c.done.length) (wonRace c.sk.toNat s)
theorem replicate_snoc{α:Type}(k:Nat)(x:α):List.replicate k x++[x]=List.replicate (k+1) x:=(List.replicate_succ' ..).symm

def withC(c:Cup)(f:List (List Int)):Cup:={ c with done:=c.done++f }

theorem valid_with{c:Cup}{f:List (List Int)}(hV:Valid c)(h0:(c.done.length+f.length:Int)≤c.ra)(h1:∀ r∈f,(r.length:Int)=c.sk)(h2:∀ r∈f,∀ x∈r,0≤x∧x≤60)(h3:f.any clashR=false):Valid (withC c f):=by
 refine ⟨hV.sk1,hV.sk2,hV.ra1,hV.ra2,hV.be1,hV.be2,hV.pt1,hV.pt2,?_,?_,hV.pts,?_,hV.falls,?_⟩
 ·show ((c.done++f).length:Int)≤c.ra
  rw [List.length_append];exact h0
 ·intro r hr
  rcases List.mem_append.1 hr with h | h
  ·exact hV.len r h
  ·exact h1 r h
 ·intro r hr
  rcases List.mem_append.1 hr with h | h
  ·exact hV.rows r h
  ·exact h2 r h
 ·show (c.done++f).any clashR=false
  rw [List.any_append,hV.clash,h3];rfl

theorem bCf:∀ n,n<13→∀ s,s<n→(wonRace n s).filter (fun x => !nz x)=[1]:=by decide

theorem aUl{n s:Nat}{x:Int}(h:x∈wonRace n s):0≤x∧x≤60:=by
 unfold wonRace at h
 rcases List.mem_or_eq_of_mem_set h with h | h
 ·rw [List.mem_replicate] at h;omega
 ·omega

theorem aIv{n s:Nat}(hn:n≤12)(hs:s<n):clashR (wonRace n s)=false:=by
 unfold clashR placesOf;rw [bCf n (by omega) s hs,List.mergeSort_singleton]
 decide

theorem valid_won{c:Cup}(hV:Valid c){s:Nat}(hs:(s:Int)<c.sk):Valid (withC c (wonM c s)):=by
 have h1:=hV.sk1;have h2:=hV.sk2;have h3:=hV.dn;refine valid_with hV ?_ (fun r hr => ?_) (fun r hr x hx => ?_) ?_
 ·unfold wonM;rw [List.length_replicate];omega
 ·unfold wonM at hr;rw [List.mem_replicate] at hr;rw [hr.2,aHb];omega
 ·unfold wonM at hr;rw [List.mem_replicate] at hr;rw [hr.2] at hx;exact aUl hx
 ·rw [List.any_eq_false]
  intro r hr;unfold wonM at hr;rw [List.mem_replicate] at hr;rw [hr.2,aIv (by omega) (by omega)];decide
def canM(c:Cup)(s:Nat):Bool:=rankM (withC c (wonM c s)) s == 1

def passes(c:Cup)(skier s:Nat):Bool:=decide (s≠skier) && decide (1<rankM (withC c (wonM c s)) skier)
def againstAt(c:Cup)(skier:Nat):Nat→Nat→Option Nat
 | 0,_=>none
 | f+1,k=>if passes c skier k then some k else againstAt c skier f (k+1)
def againstM(c:Cup)(skier:Nat):Option Nat:=againstAt c skier c.sk.toNat 0

theorem againstAt_step(c:Cup)(skier f k:Nat):againstAt c skier (f+1) k=if passes c skier k then some k else againstAt c skier f (k+1):=rfl

def sureM(c:Cup)(s:Nat):Bool := !(againstM c s).isSome

end KC
end Go.Proofs
end
section
namespace Go.Proofs
open KC
namespace KV
open Tryz
namespace CU
def aPa(i:Nat):St:=⟨fr 19 [(0,(.p cR)),(1,(.fn 172 [] [])),(7,(pI 0)),(8,(pI (i:Int)))],[]⟩
theorem cKy{Aw:Nat}(hl0:aF Tp 0 (sub (cd Tryz.f163) dh) (aPa  0) (.exit 0) (aPa  Aw)){base:Nat}:FV Tp 163 [(.p cR),(.fn 172 [] [])] base (pI (-1)) []:=FV.fi func163 [hl0.k 6 (gZ dq)] (gc hl0.code gn)
theorem bOp{i:Nat}(h0:(0:Int)≤(i:Int)):aB Tp 0 (sub (cd Tryz.f163) dh) (aPa  i) (.exit 0) (aPa  i):=aB.fi (gZ dq) [bF] (gc (aQ h0) gn)
theorem cKz{base:Nat}:FV Tp 163 [.p cR,.fn 172 [] []] base (pI (-1)) []:=cKy (.exit (bOp (aXg _)) (by simp))
theorem cMv  : FMM Tp 137 [(.p cR),(.fn 172 [] [])] [] (.p cR) []:=FMM.fi 0 gE func137 [.c (pI (-1)) [],bT] (gt (((-1:Int) == (-1))=true) (by first | decide | simp) (gc (fk 0 cKz rfl) gn))
end CU
end KV
end Go.Proofs
end
section
namespace Go.Proofs
open Go.Shelf
def Tryz.layDel_ren:Go.Shelf.Ren:=⟨fun | 10=>137 | 6=>163 | n=>n,fun | 22=>31 | 23=>3 | 25=>44 | 3=>3 | 4=>4 | 0=>0 | n=>n,fun | n=>n⟩
theorem Tryz.layDel:Go.Proofs.SlLaysH.n10 Tryz.prog Tryz.layDel_ren:={
 mixed:=by kernel_rfl
 f6:=⟨Tryz.f163.name,by decide,func163.trans (congrArg some (by kernel_rfl))⟩
 f10:=⟨Tryz.f137.name,by decide,func137.trans (congrArg some (by kernel_rfl))⟩
 t0:=Tryz.underlying0
 a0:=Tryz.isAgg0
 z0:=Tryz.sizeOf0
 v0:=Tryz.zeroValue0
 t3:=Tryz.underlying3
 a3:=Tryz.isAgg3
 z3:=Tryz.sizeOf3
 v3:=Tryz.zeroValue3
 t4:=Tryz.underlying4
 a4:=Tryz.isAgg4
 z4:=Tryz.sizeOf4
 v4:=Tryz.zeroValue4
 t22:=Tryz.underlying31
 a22:=Tryz.isAgg31
 z22:=Tryz.sizeOf31
 v22:=Tryz.zeroValue31
 a23:=Tryz.isAgg3
 z23:=Tryz.sizeOf3
 t25:=Tryz.underlying44
 a25:=Tryz.isAgg44
 z25:=Tryz.sizeOf44
 v25:=Tryz.zeroValue44 }
end Go.Proofs
end
section
namespace Go.Proofs
open Go.RowKit Go.Lib Go.Sort
namespace KV
open Tryz
namespace CU
variable {C:Cx} {M:Mem} {w w':World}
structure cMw (P:Program) (g:FuncId) (p:Int→Bool):Prop where
 enters:∀ args W,(callFunc g args).run P W = .ok (.enter g args) W
 gives:∀ W x,Calls P g #[.int .i64 x] W fun e w'=>e = .returned (.bool (p x))∧W=w'
theorem Lk:cMw Tp 172 (fun x=>x == 0):=by
 refine ⟨enters_of func172 (by kernel_rfl) rfl,fun W x => ?_⟩
 cases h:x == 0
 ·have hh:=hid h
  go_enter func172,Tryz.ntmps172
  go_wp2
  go_ret
  exact ⟨rfl,rfl⟩
 ·have hh:=hid h
  go_enter func172,Tryz.ntmps172
  go_wp2
  go_ret
  exact ⟨rfl,rfl⟩
def Us:Cx:={ ι:=fun _=>none,κ:=fun _=>0,F:=fun _=>False }
theorem bVu(w:World)(n:Nat):CallsIn Fence.wide n Tp 137 #[.slice none 0 0,.func (.func 172) #[] #[]] w (fun e w'=>e = .returned (.slice none 0 0)∧w.grownBy w' none):=by
 have Cy:aO Tp Us [] w:=⟨fun _ _ _ _ h=>by simp at h,fun _ _ _ h=>by simp at h,fun _ _ _ h=>by simp at h,fun _ _ _ _ _ h=>by simp at h,fun _ _ _ h=>by simp at h,fun _ h=>h.elim,fun _ _ _ h=>by simp at h⟩
 refine (cMv Us w [.slice none 0 0,.func (.func 172) #[] #[]] (.cons _ _ _ _ (.p _ _ (.v _)) (.cons _ _ _ _ (.fn _ _ _ _ _ rfl rfl (fun i h=>by simp at h) (fun i h=>by simp at h)) .nil)) Cy n).mono ?_
 rintro e w' ⟨u,rfl,C',hF,Ca,hr⟩;cases hr with
 | p _ _ hr =>
  cases hr;exact ⟨rfl,hF.os,hF.tape,hF.out,hF.size,fun k hk _=>hF.keep k hk (fun _ _ h=>by simp at h)⟩
theorem aHc(l:List Int)(hl:l.length≤1000):FMM Tp 137 [.own 0,.fn 172 [] []] [some (gX l)] (.own 1) [some .dead,some (gX (l.filter fun x => !(x == 0)))]:=fun C w us hus hM n=>by
 obtain ⟨u,v,rfl,hu,hv⟩:=yC hus;obtain rfl:=bRx hv;have hown:KL.OwnI w 0 u l:=aOj hM rfl hu;have hO:=hown;have fin:∀ {w':World} {u':Value},KL.OwnI w' 0 u' (l.filter fun x => !(x == 0))→w.grownBy w' u.ownBlock→u'.ownBlock=u.ownBlock→∃ C',Fr C [some (gX l)] w C' [some .dead,some (gX (l.filter fun x => !(x == 0)))] w'∧aO Tp C' [some .dead,some (gX (l.filter fun x => !(x == 0)))] w'∧Rep C' [some .dead,some (gX (l.filter fun x => !(x == 0)))] w' (.own 1) u':=fun h1 h2 h3=>uM (d:=true) hM hu h1 h2 h3 (fun h=>by cases h)
 rcases hown.2 with ⟨rfl,h0⟩ | ⟨b,cap,cur,rfl,hb,hg,hn,hm,hs,ht⟩
 ·have:l=[]:=uS h0
  subst this;refine (bVu w n).mono ?_;rintro e w' ⟨rfl,h2⟩;obtain ⟨C',f,m,r⟩:=fin (World.ownsRow_nil _ _ _ _) h2 rfl;exact ⟨_,rfl,C',f,m,r⟩
 ·have hp:=Lk
  refine (callsIn_wide.2 (AnyE.slices_DeleteFunc Tryz.layDel (Value.int .i64) (fun _=>rfl) (fun x=>x == 0) 172 #[] hp.enters 0 Tryz.zeroValue3 b 0 cap l.toArray w
   (fun W x _=>(hp.gives W x).mono fun e w' ⟨he,hw⟩=>⟨he,0,hw.symm⟩) (fun n os dk x _=>(hp.gives _ x).mono fun e w' ⟨he,hw⟩=>⟨he,0,hw.symm⟩)
   (holds_of_blockI hg (by simpa using ht)) (by simp;omega) (by simpa using hn))).mono ?_
  rintro e w' ⟨rfl,q,rfl⟩;have hfl:(l.filter fun x => !(x == 0)).length≤l.length:=zR _ _
  obtain ⟨C',f,m,r⟩:=fin (u' := .slice (some ⟨b,0,none⟩) (l.filter fun x => !(x == 0)).length cap) (by
   have:=ownsRow_putRow (enc:=Value.int .i64) (q:=q) (k:=(l.filter fun x => !(x == 0)).length) (ys:=(l.filter fun x => !(x == 0))++List.replicate (l.length-(l.filter fun x => !(x == 0)).length) 0) hO (by simp;omega) hfl
   unfold KL.OwnI;simpa using this) (grownBy_sortedI (os := #[]) (n:=q) (g:=b) (w:=w) (((l.filter fun x => !(x == 0))++List.replicate (l.length-(l.filter fun x => !(x == 0)).length) 0).toArray)) rfl
  exact ⟨_,by simp,C',f,m,r⟩
theorem sortI_ok(l:List Int)(hl:l.length≤1000):FMM Tp 161 [.own 0] [some (gX l)] (.tup []) [some (gX (l.mergeSort KC.leB))]:=KV.sortI_ok l (by omega)
theorem uO(l:List Int)(hl:l.length≤1000){base:Nat}:FV Tp 107 [.p (aE l)] base (.own base) [(base,gX l)]:=bTv l hl
end CU
end KV
end Go.Proofs
end
