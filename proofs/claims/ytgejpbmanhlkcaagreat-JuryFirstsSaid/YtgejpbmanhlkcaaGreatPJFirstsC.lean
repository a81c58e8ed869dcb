/- Parts of the proof of JFirsts: laws of walks, contracts of functions, plain models. No condition. -/
import Derived.Maps.Keyed
import Derived.Maps.AppendAt
import Derived.OrdersHeld
import Derived.Great.BuildSlice
import Derived.Lib.Small
import Derived.Below
import Derived.RangeFuncNested
import Derived.RangeFuncLeaves
import Derived.Shelf.Abstract
import Derived.OwnWalkIn
import Derived.TacticsInMore
import Derived.LoopNIn
import Derived.LoopIn
import Derived.OrdersIn
import Derived.Deep.WholeRow
import Derived.Test.YtgejpbmanhlkcaaGreatPJFirstsB
set_option linter.unusedVariables false
set_option linter.unusedSimpArgs false
set_option maxRecDepth 100000
namespace Go.Proofs
namespace KV
open Tryz
section
variable {Aa Ab Ac Ad Ae Af Hp Ek F3 F4 F6 F7:Int}{a b l:Lqq}{i i' Bm base:Nat}

noncomputable abbrev aIu:Code:=sub (cd Tryz.f99) [1,1,0,1,0,0]
noncomputable abbrev aIv:Code:=sub (cd Tryz.f100) [1,1,0,1,0,0]
theorem qK{k:Nat}{l:Lqq}(hu:uni k l):(l.flatten.map aA).length=l.length*k:=by rw [Cb,oW hu]
theorem cCu(h0:(l.flatten.map aA).length=l.length*2∧l.length≤1000000):FV Tp 89 [(.p (fS l))] base (.own base) [(base,(.row 31 l.length (l.flatten.map aA)))]:=FV.fi func89 [] (gc h0 gn)
theorem cCv(l:Lqq)(hu:uni 2 l)(hl:l.length≤1000){base:Nat}:FV Tp 89 [.p (fS l)] base (.own base) [(base,.row 31 l.length (l.flatten.map aA))]:=cCu ⟨qK hu,by omega⟩
theorem cCw(h0:(l.flatten.map aA).length=l.length*6∧l.length≤1000000):FV Tp 90 [(.p (fS l))] base (.own base) [(base,(.row 44 l.length (l.flatten.map aA)))]:=FV.fi func90 [] (gc h0 gn)
theorem cCx(l:Lqq)(hu:uni 6 l)(hl:l.length≤1000){base:Nat}:FV Tp 90 [.p (fS l)] base (.own base) [(base,.row 44 l.length (l.flatten.map aA))]:=cCw ⟨qK hu,by omega⟩
def lN(a:Lqq)(b:Lqq)(i:Nat):St:=⟨fr 26 [(0,(.p (fS a))),(1,(.p (fS b))),(12,(pI (a.length:Int))),(13,(pI (i:Int)))],[]⟩
theorem cCy(h0:(a.length:Int)≠(b.length:Int)):FV Tp 99 [(.p (fS a)),(.p (fS b))] base (pB false) []:=FV.fi func99 [bT] (gc (jF h0) gn)
theorem cCz(h0:(a.length:Int)=(b.length:Int))(A2:aE Tp 0 aIu (lN a b 0) (.exit 0) (lN a b Bm)):FV Tp 99 [(.p (fS a)),(.p (fS b))] base (pB true) []:=FV.fi func99 [bF,A2.k 4 (gZ [2,10,14,12])] (gc A2.code (gc (bL h0) gn))
theorem cDa(h0:(a.length:Int)=(b.length:Int))(A2:aE Tp 0 aIu (lN a b 0) .ret (bS (lN a b Bm) [(4,(.kb false))])):FV Tp 99 [(.p (fS a)),(.p (fS b))] base (pB false) []:=FV.fi func99 [bF,A2.k 4 (gZ [2,10,14,12])] (gc A2.code (gc (bL h0) gn))
theorem bHa(h0:(i:Int)<(a.length:Int))(h1:a[i]? = some [Aa,Ab])(h2:uni 2 a)(h3:b[i]? = some [Ac,Ad])(h4:uni 2 b)(h5:cV [(aA Aa),(aA Ab)] [(0,3,true),(1,3,true)]=true∧cV [(aA Ac),(aA Ad)] [(0,3,true),(1,3,true)]=true)(h6:(jW [(aA Aa),(aA Ab)] [(aA Ac),(aA Ad)] [(0,3,true),(1,3,true)])=false):aC Tp 0 aIu (lN a b i) .ret (bS (lN a b i) [(4,(.kb false))]):=aC.fi (gZ [2,2,5,7,14,12]) [bT,.x (.agg [(aA Aa),(aA Ab)]),.x (.agg [(aA Ac),(aA Ad)]),bT] (gc (bM h6) (gc h5 (gfl h4 h3 (gfl h2 h1 (gc (aI h0) gn)))))
theorem bHb(h0:(i:Int)<(a.length:Int))(h1:a[i]? = some [Aa,Ab])(h2:uni 2 a)(h3:b[i]? = some [Ac,Ad])(h4:uni 2 b)(h5:cV [(aA Aa),(aA Ab)] [(0,3,true),(1,3,true)]=true∧cV [(aA Ac),(aA Ad)] [(0,3,true),(1,3,true)]=true)(h6:(jW [(aA Aa),(aA Ab)] [(aA Ac),(aA Ad)] [(0,3,true),(1,3,true)])=true)(h7:inR (((i+1):Nat):Int))(Ai:i'=(i+1)):aC Tp 0 aIu (lN a b i) .normal (lN a b i'):=by
 subst Ai;exact aC.fi (gZ [2,10,14,12]) [bT,.x (.agg [(aA Aa),(aA Ab)]),.x (.agg [(aA Ac),(aA Ad)]),bF] (gc h7 (gc (aV h6) (gc h5 (gfl h4 h3 (gfl h2 h1 (gc (aI h0) gn))))))
theorem bHc(h0:(a.length:Int)≤(i:Int)):aC Tp 0 aIu (lN a b i) (.exit 0) (lN a b i):=aC.fi (gZ [2,10,14,12]) [bF] (gc (aN h0) gn)
theorem bPf(a b:Lqq)(ha:uni 2 a)(hb:uni 2 b)(hl:a.length≤1000){base:Nat}:FV Tp 99 [.p (fS a),.p (fS b)] base (pB (decide (a=b))) []:=by
 by_cases hlen:a.length=b.length
 ·have eqx:∀ i,i<a.length→∃ x y,a[i]? = some x∧b[i]? = some y∧x.length=2∧y.length=2:=fun i hi =>
   ⟨a[i],b[i],Av hi,Av (by omega),ha _ (fL hi),hb _ (fL (by omega))⟩
  rcases aE.find (P:=Tp) (k:=0) (b:=aIu) (fun i=>lN a b i) (fun i _=>bS (lN a b i) [(4,.kb false)]) (lN a b a.length) .ret (.exit 0) (by simp) (by simp) (fun j=>decide (a.getD j []≠b.getD j [])) (List.range a.length)
   (fun i x hx hp=>by
    have hi:i<a.length:=by have:=aO hx;simpa using this
    obtain ⟨y,z,hy,hz,ly,lz⟩:=eqx i hi;obtain ⟨a,b,rfl⟩:=len2 ly;obtain ⟨a',b',rfl⟩:=len2 lz;have hxi:x=i:=by rw [nP hi] at hx;exact (Option.some.inj hx).symm
    subst hxi;have he:=of_decide_eq_false hp;simp only [Bv,hy,hz,Option.getD_some,ne_eq,Classical.not_not] at he
    cases he;exact bHb (by omega) hy ha hz hb ⟨rfl,rfl⟩ (by simp [jW,wI]) (aH (by omega)) rfl)
   (fun i x hx hp=>by
    have hi:i<a.length:=by have:=aO hx;simpa using this
    obtain ⟨y,z,hy,hz,ly,lz⟩:=eqx i hi;obtain ⟨a,b,rfl⟩:=len2 ly;obtain ⟨a',b',rfl⟩:=len2 lz;have hxi:x=i:=by rw [nP hi] at hx;exact (Option.some.inj hx).symm
    subst hxi;have he:=of_decide_eq_true hp;simp only [Bv,hy,hz,Option.getD_some] at he
    exact bHa (by omega) hy ha hz hb ⟨rfl,rfl⟩ (by
     rw [Bool.eq_false_iff];intro h;simp [jW,wI] at h
     exact he (by simp [h])))
   (by rw [aGv];exact bHc (by omega)) with ⟨i,x,h1,h2,h3,h4⟩ | ⟨h1,h2,h3⟩
  ·have hi:i<a.length:=by have:=aO h1;simpa using this
   have hxi:x=i:=by rw [nP hi] at h1;exact (Option.some.inj h1).symm
   have he:=of_decide_eq_true h3;rw [decide_eq_false (fun e=>he (by rw [e]))]
   exact cDa (by omega) h4
  ·have hall:∀ i,i<a.length→a.getD i []=b.getD i []:=fun i hi=>by
    have:=List.any_eq_false.1 h2 i (iJ.2 hi);simpa using this
   have e:a=b:=by
    apply List.ext_getElem hlen;intro i h1 h2;have:=hall i h1;simpa [Bv,Av h1,Av h2] using this
   rw [decide_eq_true e];exact cCz (by omega) h3
 ·rw [decide_eq_false (fun e=>hlen (by rw [e]))]
  exact cCy (by omega)
def lO(a:Lqq)(b:Lqq)(i:Nat):St:=⟨fr 26 [(0,(.p (fS a))),(1,(.p (fS b))),(12,(pI (a.length:Int))),(13,(pI (i:Int)))],[]⟩
theorem cDb(h0:(a.length:Int)≠(b.length:Int)):FV Tp 100 [(.p (fS a)),(.p (fS b))] base (pB false) []:=FV.fi func100 [bT] (gc (jF h0) gn)
theorem cDc(h0:(a.length:Int)=(b.length:Int))(A2:aE Tp 0 aIv (lO a b 0) (.exit 0) (lO a b Bm)):FV Tp 100 [(.p (fS a)),(.p (fS b))] base (pB true) []:=FV.fi func100 [bF,A2.k 4 (gZ [2,10,14,12])] (gc A2.code (gc (bL h0) gn))
theorem cDd(h0:(a.length:Int)=(b.length:Int))(A2:aE Tp 0 aIv (lO a b 0) .ret (bS (lO a b Bm) [(4,(.kb false))])):FV Tp 100 [(.p (fS a)),(.p (fS b))] base (pB false) []:=FV.fi func100 [bF,A2.k 4 (gZ [2,10,14,12])] (gc A2.code (gc (bL h0) gn))
theorem bHd(h0:(i:Int)<(a.length:Int))(h1:a[i]? = some [Aa,Ab,Ac,Ad,Ae,Af])(h2:uni 6 a)(h3:b[i]? = some [Hp,Ek,F3,F4,F6,F7])(h4:uni 6 b)(h5:cV [(aA Aa),(aA Ab),(aA Ac),(aA Ad),(aA Ae),(aA Af)] [(0,3,true),(1,42,true),(2,3,true),(3,3,true),(4,3,true),(5,3,true)]=true∧cV [(aA Hp),(aA Ek),(aA F3),(aA F4),(aA F6),(aA F7)] [(0,3,true),(1,42,true),(2,3,true),(3,3,true),(4,3,true),(5,3,true)]=true)(h6:(jW [(aA Aa),(aA Ab),(aA Ac),(aA Ad),(aA Ae),(aA Af)] [(aA Hp),(aA Ek),(aA F3),(aA F4),(aA F6),(aA F7)] [(0,3,true),(1,42,true),(2,3,true),(3,3,true),(4,3,true),(5,3,true)])=false):aC Tp 0 aIv (lO a b i) .ret (bS (lO a b i) [(4,(.kb false))]):=aC.fi (gZ [2,2,5,7,14,12]) [bT,.x (dcE Aa Ab Ac Ad Ae Af),.x (dcE Hp Ek F3 F4 F6 F7),bT] (gc (bM h6) (gc h5 (gfl h4 h3 (gfl h2 h1 (gc (aI h0) gn)))))
theorem bHe(h0:(i:Int)<(a.length:Int))(h1:a[i]? = some [Aa,Ab,Ac,Ad,Ae,Af])(h2:uni 6 a)(h3:b[i]? = some [Hp,Ek,F3,F4,F6,F7])(h4:uni 6 b)(h5:cV [(aA Aa),(aA Ab),(aA Ac),(aA Ad),(aA Ae),(aA Af)] [(0,3,true),(1,42,true),(2,3,true),(3,3,true),(4,3,true),(5,3,true)]=true∧cV [(aA Hp),(aA Ek),(aA F3),(aA F4),(aA F6),(aA F7)] [(0,3,true),(1,42,true),(2,3,true),(3,3,true),(4,3,true),(5,3,true)]=true)(h6:(jW [(aA Aa),(aA Ab),(aA Ac),(aA Ad),(aA Ae),(aA Af)] [(aA Hp),(aA Ek),(aA F3),(aA F4),(aA F6),(aA F7)] [(0,3,true),(1,42,true),(2,3,true),(3,3,true),(4,3,true),(5,3,true)])=true)(h7:inR (((i+1):Nat):Int))(Ai:i'=(i+1)):aC Tp 0 aIv (lO a b i) .normal (lO a b i'):=by
 subst Ai;exact aC.fi (gZ [2,10,14,12]) [bT,.x (dcE Aa Ab Ac Ad Ae Af),.x (dcE Hp Ek F3 F4 F6 F7),bF] (gc h7 (gc (aV h6) (gc h5 (gfl h4 h3 (gfl h2 h1 (gc (aI h0) gn))))))
theorem bHf(h0:(a.length:Int)≤(i:Int)):aC Tp 0 aIv (lO a b i) (.exit 0) (lO a b i):=aC.fi (gZ [2,10,14,12]) [bF] (gc (aN h0) gn)
theorem cDe(a b:Lqq)(ha:uni 6 a)(hb:uni 6 b)(hl:a.length≤1000){base:Nat}:FV Tp 100 [.p (fS a),.p (fS b)] base (pB (decide (a=b))) []:=by
 by_cases hlen:a.length=b.length
 ·have eqx:∀ i,i<a.length→∃ x y,a[i]? = some x∧b[i]? = some y∧x.length=6∧y.length=6:=fun i hi =>
   ⟨a[i],b[i],Av hi,Av (by omega),ha _ (fL hi),hb _ (fL (by omega))⟩
  rcases aE.find (P:=Tp) (k:=0) (b:=aIv) (fun i=>lO a b i) (fun i _=>bS (lO a b i) [(4,.kb false)]) (lO a b a.length) .ret (.exit 0) (by simp) (by simp) (fun j=>decide (a.getD j []≠b.getD j [])) (List.range a.length)
   (fun i x hx hp=>by
    have hi:i<a.length:=by have:=aO hx;simpa using this
    obtain ⟨y,z,hy,hz,ly,lz⟩:=eqx i hi;obtain ⟨a,b,c,d,e,f,rfl⟩:=A6 ly;obtain ⟨a',b',c',d',e',f',rfl⟩:=A6 lz;have hxi:x=i:=by rw [nP hi] at hx;exact (Option.some.inj hx).symm
    subst hxi;have he:=of_decide_eq_false hp;simp only [Bv,hy,hz,Option.getD_some,ne_eq,Classical.not_not] at he
    cases he;exact bHe (by omega) hy ha hz hb ⟨rfl,rfl⟩ (by simp [jW,wI]) (aH (by omega)) rfl)
   (fun i x hx hp=>by
    have hi:i<a.length:=by have:=aO hx;simpa using this
    obtain ⟨y,z,hy,hz,ly,lz⟩:=eqx i hi;obtain ⟨a,b,c,d,e,f,rfl⟩:=A6 ly;obtain ⟨a',b',c',d',e',f',rfl⟩:=A6 lz;have hxi:x=i:=by rw [nP hi] at hx;exact (Option.some.inj hx).symm
    subst hxi;have he:=of_decide_eq_true hp;simp only [Bv,hy,hz,Option.getD_some] at he
    exact bHd (by omega) hy ha hz hb ⟨rfl,rfl⟩ (by
     rw [Bool.eq_false_iff];intro h;simp [jW,wI] at h
     exact he (by simp [h])))
   (by rw [aGv];exact bHf (by omega)) with ⟨i,x,h1,h2,h3,h4⟩ | ⟨h1,h2,h3⟩
  ·have hi:i<a.length:=by have:=aO h1;simpa using this
   have hxi:x=i:=by rw [nP hi] at h1;exact (Option.some.inj h1).symm
   have he:=of_decide_eq_true h3;rw [decide_eq_false (fun e=>he (by rw [e]))]
   exact cDd (by omega) h4
  ·have hall:∀ i,i<a.length→a.getD i []=b.getD i []:=fun i hi=>by
    have:=List.any_eq_false.1 h2 i (iJ.2 hi);simpa using this
   have e:a=b:=by
    apply List.ext_getElem hlen;intro i h1 h2;have:=hall i h1;simpa [Bv,Av h1,Av h2] using this
   rw [decide_eq_true e];exact cDc (by omega) h3
 ·rw [decide_eq_false (fun e=>hlen (by rw [e]))]
  exact cDb (by omega)
end
section
variable {dl:Int}{o q dc Dp:Lqq}{i j base:Nat}
variable {dl:Int}{sk dc:Lqq}

noncomputable abbrev aZh:Code:=sub (cd Tryz.f30) [1,1,0,1,0,0]
noncomputable abbrev aZi:Code:=sub (cd Tryz.f30) [1,1,1,0,1,0,0]
theorem cCp(h0:uni 2 sk)(h1:sk.length≤1000)(h2:uni 6 dc)(h3:dc.length≤1000):FV Tp 27 [(.p (.agg (bB dl sk dc)))] base (.p (.agg (bB dl sk dc))) []:=have k1:=fk 2 (cCv sk h0 h1) rfl;have k2:=fk 10 (cCx dc h2 h3) rfl;FV.frz (FMM.fi 0 ⟨[],[],[2,10],[]⟩ func27 [k1.o,k2.o] (gc k2 (gc k1 gn))) (by kernel_rfl)
theorem cCq{r0:Int}(h0:uni 2 sk)(h1:uni 6 dc)(h2:(jQ dl sk dc)≠0)(A4:r0=(jQ dl sk dc)):FV Tp 45 [(.p (.agg (bB dl sk dc)))] base (.tup [(.p (.agg [(aA 0),bX,bX])),(pI r0)]) []:=by
 subst A4;have k1:=fk 2 (bPi dl sk dc h0 h1) rfl;exact FV.frz (FMM.fi 0 gE func45 [k1.o,bT] (gc (jF h2) (gc k1 gn))) (by kernel_rfl)
theorem cCr(h0:uni 2 sk)(h1:uni 6 dc)(h2:(jQ dl sk dc)=0)(h3:0≤(sk.length:Int)∧(sk.length:Int)≤(sk.length:Int)∧(sk.length:Int)≤1000000)(h4:0≤(dc.length:Int)∧(dc.length:Int)≤(dc.length:Int)∧(dc.length:Int)≤1000000)(h5:(aQ sk 0).Nodup)(h6:sk.length≤1000)(h7:(aQ dc 0).Nodup)(h8:dc.length≤1000):FV Tp 45 [(.p (.agg (bB dl sk dc)))] base (.tup [(.p (.agg (bB dl (aB sk) (aB dc)))),(pI 0)]) []:=have k1:=fk 2 (bPi dl sk dc h0 h1) rfl;have k2:=mq [3] 7 (bHh sk h0 h5 h6);have k3:=mq [5] 7 (bHi dc h1 h7 h8);FV.frz (FMM.fi 0 ⟨[],[],[3,5],[]⟩ func45 [k1.o,bF,k2.o,k3.o] (gc k3 (gc k2 (gt ((dc.flatten.map aA).length=dc.length*6∧dc.length=dc.length) ⟨qK h1,rfl⟩ (gt ((sk.flatten.map aA).length=sk.length*2∧sk.length=sk.length) ⟨qK h0,rfl⟩ (gc h4 (gc h3 (gc (bL h2) (gc k1 gn))))))))) (by kernel_rfl)
theorem bUy(dl:Int)(sk dc:Lqq)(us:uni 2 sk)(ud:uni 6 dc)(h:jQ dl sk dc≠0){base:Nat}:FV Tp 45 [.p (.agg (bB dl sk dc))] base (.tup [.p (.agg [aA 0,bX,bX]),.p (aA (jQ dl sk dc))]) []:=cCq us ud h rfl
theorem cCs(dl:Int)(sk dc:Lqq)(h:bR dl sk dc){base:Nat}:FV Tp 45 [.p (.agg (bB dl sk dc))] base (.tup [.p (.agg (bB dl (aB sk) (aB dc))),.p (aA 0)]) []:=by
 have h1:=h.len;have h2:=h.len2;exact cCr h.us h.ud ((aZk h.us h.ud).2 h) (by omega) (by omega) h.ns (by omega) h.nd (by omega)
theorem uV{l:Lqq}{x:List Int}:(l.flatten.map aA)++(x.map aA)=((l++[x]).flatten.map aA):=by simp
def tL(dl:Int)(sk:Lqq)(dc:Lqq)(i:Nat)(on:Nat)(oc:List PV):St:=⟨fr 52 [(1,(.ptr 0 0)),(2,(.ptr 1 0)),(3,(.ptr 2 0)),(12,(.p (fS sk))),(13,(pI (sk.length:Int))),(14,(pI (i:Int)))],[some (.box 26 [(pI dl),(.p (fS sk)),(.p (fS dc))]),some (.box 61 [(pI 0),(.p bX),(.p bX)]),some (.box 61 [(pI dl),(.own 3),(.p bX)]),some (.row 73 on oc)]⟩
def tM(dl:Int)(dc:Lqq)(Dp:Lqq)(j:Nat)(qn:Nat)(qc:List PV):St:=⟨fr 52 [(2,(.ptr 0 0)),(3,(.ptr 1 0)),(26,(.p (fS dc))),(27,(pI (dc.length:Int))),(28,(pI (j:Int)))],[some (.box 61 [(pI 0),(.p bX),(.p bX)]),some (.box 61 [(pI dl),(.own 2),(.own 3)]),some (.row 73 Dp.length (Dp.flatten.map aA)),some (.row 119 qn qc)]⟩
theorem cCt{Bm:Nat}{Wg:Nat}{M6:Lqq}(hl0:aE Tp 0 aZh (tL dl sk dc 0 0 []) (.exit 0) (tL dl sk dc Bm Dp.length (Dp.flatten.map aA)))(A2:aE Tp 0 aZi (tM dl dc Dp 0 0 []) (.exit 2) (tM dl dc Dp Wg M6.length (M6.flatten.map aA))):FV Tp 30 [(.p (.agg (bB dl sk dc)))] base (.p (.agg (bB dl Dp M6))) []:=FV.frz (FMM.fi 0 ⟨[],[],[2,3],[]⟩ func30 [hl0.k 8 (gN [0,1,4,3,8,4,15,10] [0,1,2,3] [(102001,73)]),A2.k 4 (gN [0,2,4,22,29,22] [1,2,3,4] [(102002,119)])] (gc A2.code (gc hl0.code gn))) (by kernel_rfl)
theorem bGw{Aa Ab:Int}{i':Nat}{o':Lqq}(h0:(i:Int)<(sk.length:Int))(h1:sk[i]? = some [Aa,Ab])(h2:uni 2 sk)(h3:[(aA Aa),(aA Ab)].length=1*2∧o.length+1≤1000000)(h4:inR (((i+1):Nat):Int))(Ai:i'=(i+1))(B1:o'.length=(o.length+1))(B2:o'.flatten.map aA=((o.flatten.map aA)++[(aA Aa),(aA Ab)])):aC Tp 0 aZh (tL dl sk dc i o.length (o.flatten.map aA)) .normal (tL dl sk dc i' o'.length (o'.flatten.map aA)):=by
 subst Ai;rw [B1,B2];exact aC.fi (gI [0,1,4,3,8,4,15,10] [0,1,2,6]) [bT,.x (.agg [(aA Aa),(aA Ab)])] (gc h4 (gc h3 (gt ([(aA Aa),(aA Ab)].length=2) (by first | decide | simp) (gfl h2 h1 (gc (aI h0) gn)))))
theorem bGx(h0:(sk.length:Int)≤(i:Int)):aC Tp 0 aZh (tL dl sk dc i o.length (o.flatten.map aA)) (.exit 0) (tL dl sk dc i o.length (o.flatten.map aA)):=aC.fi (gI [0,1,4,3,8,4,15,10] [0,1,2,3]) [bF] (gc (aN h0) gn)
theorem bGy{Ah Ag An Au Ao Al:Int}{j':Nat}{q':Lqq}(h0:(j:Int)<(dc.length:Int))(h1:dc[j]? = some [Ah,Ag,An,Au,Ao,Al])(h2:uni 6 dc)(h3:[(aA Ah),(aA Ag),(aA An),(aA Au),(aA Ao),(aA Al)].length=1*6∧q.length+1≤1000000)(h4:inR (((j+1):Nat):Int))(Eo:j'=(j+1))(Jz:q'.length=(q.length+1))(J0:q'.flatten.map aA=((q.flatten.map aA)++[(aA Ah),(aA Ag),(aA An),(aA Au),(aA Ao),(aA Al)])):aC Tp 0 aZi (tM dl dc Dp j q.length (q.flatten.map aA)) .normal (tM dl dc Dp j' q'.length (q'.flatten.map aA)):=by
 subst Eo;rw [Jz,J0];exact aC.fi (gI [0,2,4,22,29,22] [0,1,2,6]) [bT,.x (dcE Ah Ag An Au Ao Al)] (gc h4 (gc h3 (gt ([(aA Ah),(aA Ag),(aA An),(aA Au),(aA Ao),(aA Al)].length=6) (by first | decide | simp) (gfl h2 h1 (gc (aI h0) gn)))))
theorem bGz(h0:(dc.length:Int)≤(j:Int)):aC Tp 0 aZi (tM dl dc Dp j q.length (q.flatten.map aA)) (.exit 2) (tM dl dc Dp j q.length (q.flatten.map aA)):=aC.fi (gI [0,2,4,22,29,22] [0,1,2,3]) [bF] (gc (aN h0) gn)
theorem aEu(dl:Int)(sk dc:Lqq)(us:uni 2 sk)(ud:uni 6 dc)(hs:sk.length≤1000)(hd:dc.length≤1000){base:Nat}:FV Tp 30 [.p (.agg (bB dl sk dc))] base (.p (.agg (bB dl sk dc))) []:=by
 have L0:=aE.count (P:=Tp) (k:=0) (b:=aZh) (e := .exit 0) (R:=tL dl sk dc sk.length sk.length (sk.flatten.map aA)) sk.length (fun i=>tL dl sk dc i (sk.take i).length ((sk.take i).flatten.map aA))
  (fun i hi=>by
   obtain ⟨a,b,hx⟩:=at2 us hi;have et:sk.take (i+1)=sk.take i++[[a,b]]:=by rw [List.take_add_one,hx];rfl
   exact bGw (o:=sk.take i) (o':=sk.take (i+1)) (by omega) hx us ⟨rfl,by simp;omega⟩ (aH (by omega)) rfl (by simp;omega) (by rw [et];exact (uV (l:=sk.take i) (x:=[a,b])).symm))
  (by rw [List.take_length];exact bGx (by omega)) (by simp)
 have L1:=aE.count (P:=Tp) (k:=0) (b:=aZi) (e := .exit 2) (R:=tM dl dc sk dc.length dc.length (dc.flatten.map aA)) dc.length (fun i=>tM dl dc sk i (dc.take i).length ((dc.take i).flatten.map aA))
  (fun i hi=>by
   obtain ⟨a,b,c,d,e,f,hx⟩:=S0 ud hi;have et:dc.take (i+1)=dc.take i++[[a,b,c,d,e,f]]:=by rw [List.take_add_one,hx];rfl
   exact bGy (q:=dc.take i) (q':=dc.take (i+1)) (by omega) hx ud ⟨rfl,by simp;omega⟩ (aH (by omega)) rfl (by simp;omega) (by rw [et];exact (uV (l:=dc.take i) (x:=[a,b,c,d,e,f])).symm))
  (by rw [List.take_length];exact bGz (by omega)) (by simp)
 exact cCt L0 L1
end
section

end
section
variable {n v Aa Ab Ac Ad Ae Af Ah Ag An Au Ao Al Hf Pd Hg Pe Ed Ee Gn Pf Pg Ph Hh Pi Pj Pk Pm Pn Hi Ef Hj El Hk Hl Em Eg Hm Hn Ho En:Int}{a b c d e f i j e' f' i' j' Po Ra Sx U2 Bm N1 base Mf Mg:Nat}
variable {dl:Int}{sk dc:Lqq}

noncomputable abbrev mS:Code:=sub (cd Tryz.f31) [1,1,1,1,0,1,0,0]
noncomputable abbrev tK:Code:=sub (cd Tryz.f31) [1,1,1,0,1,0,0]
noncomputable abbrev aBg:Code:=pS (cd Tryz.f31) 5 [0,1,0,0]
noncomputable abbrev aBh:Code:=pS (cd Tryz.f31) 7 [0,1,0,0]
noncomputable abbrev aEs:Code:=pS (cd Tryz.f31) 6 [0,1,0,0]
noncomputable abbrev aEt:Code:=pS (cd Tryz.f31) 8 [0,1,0,0]
noncomputable abbrev aIs:Code:=sub (cd Tryz.f92) [1,0,1,0,0]
noncomputable abbrev aIt:Code:=sub (cd Tryz.f101) [1,0,1,0,0]
noncomputable abbrev aQb:Code:=pS (cd Tryz.f31) 5 [0,1,0,0,1,0,0,1,0,0]
noncomputable abbrev aQc:Code:=pS (cd Tryz.f31) 6 [0,1,0,0,1,0,0,1,0,0]
theorem bUv{a b:Int}(h0:n<a):FV Tp 91 [(pI n),(pI a),(pI b)] base (pB true) []:=FV.fi func91 [bT,bT,bT,bT] (Aw (aI h0) gn)
theorem bUw{a b:Int}{r0:Bool}(h0:a≤n)(A4:r0=(decide (n > b))):FV Tp 91 [(pI n),(pI a),(pI b)] base (pB r0) []:=by
 subst A4;exact FV.fi func91 [bF,bF,bF,bF] (Aw (aN h0) gn)
def eC(n a b:Int):Bool := !within n a b
theorem bP(n a b:Int){base:Nat}:FV Tp 91 [.p (aA n),.p (aA a),.p (aA b)] base (pB (eC n a b)) []:=by
 by_cases h:n<a
 ·rw [show eC n a b=true by unfold eC within;simp;omega];exact bUv h
 ·exact bUw (by omega) (by rw [Bool.eq_iff_iff];unfold eC within;simp;omega)
def lL(dl:Int)(sk:Lqq)(dc:Lqq)(v:Int)(i:Nat):St:=⟨fr 22 [(1,(pI v)),(2,(.ptr 0 0)),(5,(pI (i:Int)))],[some (.box 61 [(pI dl),(.p (fS sk)),(.p (fS dc))])]⟩
theorem cCa(hl0:aE Tp 0 aIs (lL dl sk dc v 0) (.exit 0) (lL dl sk dc v Bm)):FV Tp 92 [(.p (.agg (bB dl sk dc))),(pI v)] base (pI (-1)) []:=FV.fi func92 [hl0.k 6 (gI [0,1,3,2,6,16] [0])] (gc hl0.code gn)
theorem cCb(hl0:aE Tp 0 aIs (lL dl sk dc v 0) .ret (bS (lL dl sk dc v Bm) [(4,(pI (Bm:Int)))])):FV Tp 92 [(.p (.agg (bB dl sk dc))),(pI v)] base (pI (Bm:Int)) []:=FV.fi func92 [hl0.k 6 (gI [0,1,3,2,6,16] [0])] (gc hl0.code gn)
theorem bFg(h0:(i:Int)<(sk.length:Int))(h1:sk[i]? = some [Aa,Ab])(h2:uni 2 sk)(h3:Aa=v):aC Tp 0 aIs (lL dl sk dc v i) .ret (bS (lL dl sk dc v i) [(4,(pI (i:Int)))]):=aC.fi (gI [0,1,3,1,6,16] [0]) [bT,.x (aA Aa),bT] (gc (cH h3) (gt ((sk.flatten.map aA)[(i*2)]? = some (aA Aa)) (bE (i:=i) (f:=0) h2 h1 rfl) (gc (gD (k:=2) (i:=(i:Int)) (by decide) h2 (Br _) h1) (gc (aI h0) gn))))
theorem bFh(h0:(i:Int)<(sk.length:Int))(h1:sk[i]? = some [Aa,Ab])(h2:uni 2 sk)(h3:Aa≠v)(h4:inR (((i+1):Nat):Int))(Ai:i'=(i+1)):aC Tp 0 aIs (lL dl sk dc v i) .normal (lL dl sk dc v i'):=by
 subst Ai;exact aC.fi (gI [0,1,3,2,6,16] [0]) [bT,.x (aA Aa),bF] (gc h4 (gc (aU h3) (gt ((sk.flatten.map aA)[(i*2)]? = some (aA Aa)) (bE (i:=i) (f:=0) h2 h1 rfl) (gc (gD (k:=2) (i:=(i:Int)) (by decide) h2 (Br _) h1) (gc (aI h0) gn)))))
theorem bFi(h0:(sk.length:Int)≤(i:Int)):aC Tp 0 aIs (lL dl sk dc v i) (.exit 0) (lL dl sk dc v i):=aC.fi (gI [0,1,3,2,6,16] [0]) [bF] (gc (aN h0) gn)
theorem aUu(dl:Int)(sk dc:Lqq)(v:Int)(hu:uni 2 sk)(hl:sk.length≤1000){base:Nat}:FV Tp 92 [.p (.agg (bB dl sk dc)),.p (aA v)] base (pI (bJ (fun x=>decide (x.getD 0 0=v)) sk)) []:=by
 rcases aE.find (P:=Tp) (k:=0) (b:=aIs) (fun i=>lL dl sk dc v i) (fun i _=>bS (lL dl sk dc v i) [(4,.p (aA (i:Int)))]) (lL dl sk dc v sk.length) .ret (.exit 0) (by simp) (by simp) (fun x:List Int=>decide (x.getD 0 0=v)) sk
  (fun i x hx hp=>by
   obtain ⟨a,b,rfl⟩:=len2 (hu _ (Bi hx));exact bFh (by have:=aO hx;omega) hx hu (by simpa using hp) (aH (by have:=aO hx;omega)) rfl)
  (fun i x hx hp=>by
   obtain ⟨a,b,rfl⟩:=len2 (hu _ (Bi hx));exact bFg (by have:=aO hx;omega) hx hu (by simpa using hp))
  (bFi (i:=sk.length) (by omega)) with ⟨i,x,h1,h2,h3,h4⟩ | ⟨h1,h2,h3⟩
 ·rw [eF h2];exact cCb h4
 ·rw [gS h1];exact cCa h3
def lM(dl:Int)(sk:Lqq)(dc:Lqq)(v:Int)(i:Nat):St:=⟨fr 22 [(1,(pI v)),(2,(.ptr 0 0)),(5,(pI (i:Int)))],[some (.box 61 [(pI dl),(.p (fS sk)),(.p (fS dc))])]⟩
theorem cCc(hl0:aE Tp 0 aIt (lM dl sk dc v 0) (.exit 0) (lM dl sk dc v Bm)):FV Tp 101 [(.p (.agg (bB dl sk dc))),(pI v)] base (pI (-1)) []:=FV.fi func101 [hl0.k 6 (gI [0,1,3,2,6,16] [0])] (gc hl0.code gn)
theorem cCd(hl0:aE Tp 0 aIt (lM dl sk dc v 0) .ret (bS (lM dl sk dc v Bm) [(4,(pI (Bm:Int)))])):FV Tp 101 [(.p (.agg (bB dl sk dc))),(pI v)] base (pI (Bm:Int)) []:=FV.fi func101 [hl0.k 6 (gI [0,1,3,2,6,16] [0])] (gc hl0.code gn)
theorem bFj(h0:(i:Int)<(dc.length:Int))(h1:dc[i]? = some [Aa,Ab,Ac,Ad,Ae,Af])(h2:uni 6 dc)(h3:Aa=v):aC Tp 0 aIt (lM dl sk dc v i) .ret (bS (lM dl sk dc v i) [(4,(pI (i:Int)))]):=aC.fi (gI [0,1,3,1,6,16] [0]) [bT,.x (aA Aa),bT] (gc (cH h3) (gt ((dc.flatten.map aA)[(i*6)]? = some (aA Aa)) (bE (i:=i) (f:=0) h2 h1 rfl) (gc (gD (k:=6) (i:=(i:Int)) (by decide) h2 (Br _) h1) (gc (aI h0) gn))))
theorem bFk(h0:(i:Int)<(dc.length:Int))(h1:dc[i]? = some [Aa,Ab,Ac,Ad,Ae,Af])(h2:uni 6 dc)(h3:Aa≠v)(h4:inR (((i+1):Nat):Int))(Ai:i'=(i+1)):aC Tp 0 aIt (lM dl sk dc v i) .normal (lM dl sk dc v i'):=by
 subst Ai;exact aC.fi (gI [0,1,3,2,6,16] [0]) [bT,.x (aA Aa),bF] (gc h4 (gc (aU h3) (gt ((dc.flatten.map aA)[(i*6)]? = some (aA Aa)) (bE (i:=i) (f:=0) h2 h1 rfl) (gc (gD (k:=6) (i:=(i:Int)) (by decide) h2 (Br _) h1) (gc (aI h0) gn)))))
theorem bFl(h0:(dc.length:Int)≤(i:Int)):aC Tp 0 aIt (lM dl sk dc v i) (.exit 0) (lM dl sk dc v i):=aC.fi (gI [0,1,3,2,6,16] [0]) [bF] (gc (aN h0) gn)
theorem cCe(dl:Int)(sk dc:Lqq)(v:Int)(hu:uni 6 dc)(hl:dc.length≤1000){base:Nat}:FV Tp 101 [.p (.agg (bB dl sk dc)),.p (aA v)] base (pI (bJ (fun x=>decide (x.getD 0 0=v)) dc)) []:=by
 rcases aE.find (P:=Tp) (k:=0) (b:=aIt) (fun i=>lM dl sk dc v i) (fun i _=>bS (lM dl sk dc v i) [(4,.p (aA (i:Int)))]) (lM dl sk dc v dc.length) .ret (.exit 0) (by simp) (by simp) (fun x:List Int=>decide (x.getD 0 0=v)) dc
  (fun i x hx hp=>by
   obtain ⟨a,b,c,d,e,g,rfl⟩:=A6 (hu _ (Bi hx));exact bFk (by have:=aO hx;omega) hx hu (by simpa using hp) (aH (by have:=aO hx;omega)) rfl)
  (fun i x hx hp=>by
   obtain ⟨a,b,c,d,e,g,rfl⟩:=A6 (hu _ (Bi hx));exact bFj (by have:=aO hx;omega) hx hu (by simpa using hp))
  (bFl (i:=dc.length) (by omega)) with ⟨i,x,h1,h2,h3,h4⟩ | ⟨h1,h2,h3⟩
 ·rw [eF h2];exact cCd h4
 ·rw [gS h1];exact cCc h3
def dR(dl:Int)(sk:Lqq)(dc:Lqq)(i:Nat):St:=⟨fr 219 [(1,(.ptr 0 0)),(3,(pI (i:Int)))],[some (.box 61 [(pI dl),(.p (fS sk)),(.p (fS dc))])]⟩
def cQ(dl:Int)(sk:Lqq)(dc:Lqq)(j:Nat):St:=⟨fr 219 [(1,(.ptr 0 0)),(4,(pI (j:Int)))],[some (.box 61 [(pI dl),(.p (fS sk)),(.p (fS dc))])]⟩
def eW(dl:Int)(sk:Lqq)(dc:Lqq)(a:Nat):St:=⟨fr 219 [(1,(.ptr 0 0)),(6,(pI (a:Int)))],[some (.box 61 [(pI dl),(.p (fS sk)),(.p (fS dc))])]⟩
def fH(dl:Int)(sk:Lqq)(dc:Lqq)(c:Nat):St:=⟨fr 219 [(1,(.ptr 0 0)),(8,(pI (c:Int)))],[some (.box 61 [(pI dl),(.p (fS sk)),(.p (fS dc))])]⟩
def eX(dl:Int)(sk:Lqq)(dc:Lqq)(e:Nat):St:=⟨fr 219 [(1,(.ptr 0 0)),(10,(pI (e:Int)))],[some (.box 61 [(pI dl),(.p (fS sk)),(.p (fS dc))])]⟩
def fJ(dl:Int)(sk:Lqq)(dc:Lqq)(f:Nat):St:=⟨fr 219 [(1,(.ptr 0 0)),(12,(pI (f:Int)))],[some (.box 61 [(pI dl),(.p (fS sk)),(.p (fS dc))])]⟩
theorem cCf(h0:(sk.length:Int)<1):FV Tp 31 [(.p (.agg (bB dl sk dc)))] base (pI 2) []:=FV.fi func31 (rT 5) (Bo (aI h0) gn)
theorem cCg(h0:(1:Int)≤(sk.length:Int))(h1:(30:Int)<(sk.length:Int)):FV Tp 31 [(.p (.agg (bB dl sk dc)))] base (pI 2) []:=FV.fi func31 (rF 5++rT 5) (Bo (aI h1) (Bo (aN h0) gn))
theorem cCh(h0:(1:Int)≤(sk.length:Int))(h1:(sk.length:Int)≤30)(h2:(40:Int)<(dc.length:Int)):FV Tp 31 [(.p (.agg (bB dl sk dc)))] base (pI 2) []:=FV.fi func31 (rF 10++[bT]) (gc (aI h2) (Bo (aN h1) (Bo (aN h0) gn)))
theorem cCi(h0:(1:Int)≤(sk.length:Int))(h1:(sk.length:Int)≤30)(h2:(dc.length:Int)≤40)(h3:(eC dl 0 10000)=true):FV Tp 31 [(.p (.agg (bB dl sk dc)))] base (pI 3) []:=have k1:=fk 1 (bP dl 0 10000) rfl;FV.fi func31 (rF 11++[k1.o,bT]) (gc h3 (gc k1 (gc (aN h2) (Bo (aN h1) (Bo (aN h0) gn)))))
theorem cCj(h0:(1:Int)≤(sk.length:Int))(h1:(sk.length:Int)≤30)(h2:(dc.length:Int)≤40)(h3:(eC dl 0 10000)=false)(E2:aE Tp 0 tK (dR dl sk dc 0) (.exit 0) (dR dl sk dc Bm))(Ea:aE Tp 0 mS (cQ dl sk dc 0) (.exit 2) (cQ dl sk dc N1))(Gf:aE Tp 0 aBg (eW dl sk dc 0) (.exit 4) (eW dl sk dc Po))(Ec:aE Tp 0 aEs (fH dl sk dc 0) (.exit 8) (fH dl sk dc Ra))(Mh:aE Tp 0 aBh (eX dl sk dc 0) (.exit 12) (eX dl sk dc Sx))(Ik:aE Tp 0 aEt (fJ dl sk dc 0) (.exit 14) (fJ dl sk dc U2)):FV Tp 31 [(.p (.agg (bB dl sk dc)))] base (pI 0) []:=have k1:=fk 1 (bP dl 0 10000) rfl;FV.fi func31 (rF 11++[k1.o,bF,E2.k 4 (gI [0,1,2,1,14,42] [0]),Ea.k 4 (gI [0,1,2,2,5,1,14,90] [0]),Gf.k 4 (gI [0,1,2,4,7,1,14,115] [0]),Ec.k 4 (gI [0,1,2,6,9,1,14,140] [0]),Mh.k 4 (gI [0,1,2,8,11,1,14,172] [0]),Ik.k 4 (gI [0,1,2,10,13,206] [0])]) (gc Ik.code (gc Mh.code (gc Ec.code (gc Gf.code (gc Ea.code (gc E2.code (gc h3 (gc k1 (gc (aN h2) (Bo (aN h1) (Bo (aN h0) gn)))))))))))
theorem cCk(h0:(1:Int)≤(sk.length:Int))(h1:(sk.length:Int)≤30)(h2:(dc.length:Int)≤40)(h3:(eC dl 0 10000)=false)(E2:aE Tp 0 tK (dR dl sk dc 0) (.exit 0) (dR dl sk dc Bm))(Ea:aE Tp 0 mS (cQ dl sk dc 0) (.exit 2) (cQ dl sk dc N1))(Gf:aE Tp 0 aBg (eW dl sk dc 0) (.exit 4) (eW dl sk dc Po))(Ec:aE Tp 0 aEs (fH dl sk dc 0) (.exit 8) (fH dl sk dc Ra))(Mh:aE Tp 0 aBh (eX dl sk dc 0) (.exit 12) (eX dl sk dc Sx))(Ik:aE Tp 0 aEt (fJ dl sk dc 0) .ret (bS (fJ dl sk dc U2) [(2,(pI 4))])):FV Tp 31 [(.p (.agg (bB dl sk dc)))] base (pI 4) []:=have k1:=fk 1 (bP dl 0 10000) rfl;FV.fi func31 (rF 11++[k1.o,bF,E2.k 4 (gI [0,1,2,1,14,42] [0]),Ea.k 4 (gI [0,1,2,2,5,1,14,90] [0]),Gf.k 4 (gI [0,1,2,4,7,1,14,115] [0]),Ec.k 4 (gI [0,1,2,6,9,1,14,140] [0]),Mh.k 4 (gI [0,1,2,8,11,1,14,172] [0]),Ik.k 4 (gI [0,1,2,10,13,206] [0])]) (gc Ik.code (gc Mh.code (gc Ec.code (gc Gf.code (gc Ea.code (gc E2.code (gc h3 (gc k1 (gc (aN h2) (Bo (aN h1) (Bo (aN h0) gn)))))))))))
theorem cCl(h0:(1:Int)≤(sk.length:Int))(h1:(sk.length:Int)≤30)(h2:(dc.length:Int)≤40)(h3:(eC dl 0 10000)=false)(E2:aE Tp 0 tK (dR dl sk dc 0) (.exit 0) (dR dl sk dc Bm))(Ea:aE Tp 0 mS (cQ dl sk dc 0) (.exit 2) (cQ dl sk dc N1))(Gf:aE Tp 0 aBg (eW dl sk dc 0) (.exit 4) (eW dl sk dc Po))(Ec:aE Tp 0 aEs (fH dl sk dc 0) (.exit 8) (fH dl sk dc Ra))(Mh:aE Tp 0 aBh (eX dl sk dc 0) .ret (bS (eX dl sk dc Sx) [(2,(pI 1))])):FV Tp 31 [(.p (.agg (bB dl sk dc)))] base (pI 1) []:=have k1:=fk 1 (bP dl 0 10000) rfl;FV.fi func31 (rF 11++[k1.o,bF,E2.k 4 (gI [0,1,2,1,14,42] [0]),Ea.k 4 (gI [0,1,2,2,5,1,14,90] [0]),Gf.k 4 (gI [0,1,2,4,7,1,14,115] [0]),Ec.k 4 (gI [0,1,2,6,9,1,14,140] [0]),Mh.k 4 (gI [0,1,2,8,11,1,14,172] [0])]) (gc Mh.code (gc Ec.code (gc Gf.code (gc Ea.code (gc E2.code (gc h3 (gc k1 (gc (aN h2) (Bo (aN h1) (Bo (aN h0) gn))))))))))
theorem cCm(h0:(1:Int)≤(sk.length:Int))(h1:(sk.length:Int)≤30)(h2:(dc.length:Int)≤40)(h3:(eC dl 0 10000)=false)(E2:aE Tp 0 tK (dR dl sk dc 0) (.exit 0) (dR dl sk dc Bm))(Ea:aE Tp 0 mS (cQ dl sk dc 0) (.exit 2) (cQ dl sk dc N1))(Gf:aE Tp 0 aBg (eW dl sk dc 0) (.exit 4) (eW dl sk dc Po))(Ec:aE Tp 0 aEs (fH dl sk dc 0) .ret (bS (fH dl sk dc Ra) [(2,(pI 5))])):FV Tp 31 [(.p (.agg (bB dl sk dc)))] base (pI 5) []:=have k1:=fk 1 (bP dl 0 10000) rfl;FV.fi func31 (rF 11++[k1.o,bF,E2.k 4 (gI [0,1,2,1,14,42] [0]),Ea.k 4 (gI [0,1,2,2,5,1,14,90] [0]),Gf.k 4 (gI [0,1,2,4,7,1,14,115] [0]),Ec.k 4 (gI [0,1,2,6,9,1,14,140] [0])]) (gc Ec.code (gc Gf.code (gc Ea.code (gc E2.code (gc h3 (gc k1 (gc (aN h2) (Bo (aN h1) (Bo (aN h0) gn)))))))))
theorem cCn(h0:(1:Int)≤(sk.length:Int))(h1:(sk.length:Int)≤30)(h2:(dc.length:Int)≤40)(h3:(eC dl 0 10000)=false)(E2:aE Tp 0 tK (dR dl sk dc 0) (.exit 0) (dR dl sk dc Bm))(Ea:aE Tp 0 mS (cQ dl sk dc 0) (.exit 2) (cQ dl sk dc N1))(Gf:aE Tp 0 aBg (eW dl sk dc 0) .ret (bS (eW dl sk dc Po) [(2,(pI 5))])):FV Tp 31 [(.p (.agg (bB dl sk dc)))] base (pI 5) []:=have k1:=fk 1 (bP dl 0 10000) rfl;FV.fi func31 (rF 11++[k1.o,bF,E2.k 4 (gI [0,1,2,1,14,42] [0]),Ea.k 4 (gI [0,1,2,2,5,1,14,90] [0]),Gf.k 4 (gI [0,1,2,4,7,1,14,115] [0])]) (gc Gf.code (gc Ea.code (gc E2.code (gc h3 (gc k1 (gc (aN h2) (Bo (aN h1) (Bo (aN h0) gn))))))))
theorem cCo(h0:(1:Int)≤(sk.length:Int))(h1:(sk.length:Int)≤30)(h2:(dc.length:Int)≤40)(h3:(eC dl 0 10000)=false)(E2:aE Tp 0 tK (dR dl sk dc 0) (.exit 0) (dR dl sk dc Bm))(Ea:aE Tp 0 mS (cQ dl sk dc 0) .ret (bS (cQ dl sk dc N1) [(2,(pI 3))])):FV Tp 31 [(.p (.agg (bB dl sk dc)))] base (pI 3) []:=have k1:=fk 1 (bP dl 0 10000) rfl;FV.fi func31 (rF 11++[k1.o,bF,E2.k 4 (gI [0,1,2,1,14,42] [0]),Ea.k 4 (gI [0,1,2,2,5,1,14,90] [0])]) (gc Ea.code (gc E2.code (gc h3 (gc k1 (gc (aN h2) (Bo (aN h1) (Bo (aN h0) gn)))))))
theorem bUx(h0:(1:Int)≤(sk.length:Int))(h1:(sk.length:Int)≤30)(h2:(dc.length:Int)≤40)(h3:(eC dl 0 10000)=false)(E2:aE Tp 0 tK (dR dl sk dc 0) .ret (bS (dR dl sk dc Bm) [(2,(pI 3))])):FV Tp 31 [(.p (.agg (bB dl sk dc)))] base (pI 3) []:=have k1:=fk 1 (bP dl 0 10000) rfl;FV.fi func31 (rF 11++[k1.o,bF,E2.k 4 (gI [0,1,2,1,14,42] [0])]) (gc E2.code (gc h3 (gc k1 (gc (aN h2) (Bo (aN h1) (Bo (aN h0) gn))))))
theorem bFm(h0:(i:Int)<(sk.length:Int))(h1:sk[i]? = some [Aa,Ab])(h2:uni 2 sk)(h3:(eC Aa 1 999)=true):aC Tp 0 tK (dR dl sk dc i) .ret (bS (dR dl sk dc i) [(2,(pI 3))]):=have k1:=fk 1 (bP Aa 1 999) rfl;aC.fi (gI [0,1,14,42] [0]) ([bT,.x (aA Aa),k1.o]++rT 8) (Eu h3 (gc k1 (gt ((sk.flatten.map aA)[(i*2)]? = some (aA Aa)) (bE (i:=i) (f:=0) h2 h1 rfl) (gc (gD (k:=2) (i:=(i:Int)) (by decide) h2 (Br _) h1) (gc (aI h0) gn)))))
theorem bFn(h0:(i:Int)<(sk.length:Int))(h1:sk[i]? = some [Aa,Ab])(h2:uni 2 sk)(h3:(eC Aa 1 999)=false)(h4:(eC Ab (-1) 360000)=true):aC Tp 0 tK (dR dl sk dc i) .ret (bS (dR dl sk dc i) [(2,(pI 3))]):=have k1:=fk 1 (bP Aa 1 999) rfl;have k2:=fk 1 (bP Ab (-1) 360000) rfl;aC.fi (gI [0,1,14,42] [0]) ([bT,.x (aA Aa),k1.o]++rF 6++[.x (aA Ab),bF,k2.o,bF,bT]) (gc h4 (gc h3 (gc k2 (gc h3 (gt ((sk.flatten.map aA)[((i*2)+1)]? = some (aA Ab)) (bE (i:=i) (f:=1) h2 h1 rfl) (Az h3 (gc (gD (k:=2) (i:=(i:Int)) (by decide) h2 (Br _) h1) (Aw h3 (gc k1 (gt ((sk.flatten.map aA)[(i*2)]? = some (aA Aa)) (bE (i:=i) (f:=0) h2 h1 rfl) (gc (gD (k:=2) (i:=(i:Int)) (by decide) h2 (Br _) h1) (gc (aI h0) gn))))))))))))
theorem bFo(h0:(i:Int)<(sk.length:Int))(h1:sk[i]? = some [Aa,Ab])(h2:uni 2 sk)(h3:(eC Aa 1 999)=false)(h4:(eC Ab (-1) 360000)=false)(h5:inR (((i+1):Nat):Int))(Ai:i'=(i+1)):aC Tp 0 tK (dR dl sk dc i) .normal (dR dl sk dc i'):=by
 subst Ai;have k1:=fk 1 (bP Aa 1 999) rfl;have k2:=fk 1 (bP Ab (-1) 360000) rfl;exact aC.fi (gI [0,1,2,1,14,42] [0]) ([bT,.x (aA Aa),k1.o]++rF 6++[.x (aA Ab),bF,k2.o,bF,bF]) (gc h5 (gc h4 (gc h3 (gc k2 (gc h3 (gt ((sk.flatten.map aA)[((i*2)+1)]? = some (aA Ab)) (bE (i:=i) (f:=1) h2 h1 rfl) (Az h3 (gc (gD (k:=2) (i:=(i:Int)) (by decide) h2 (Br _) h1) (Aw h3 (gc k1 (gt ((sk.flatten.map aA)[(i*2)]? = some (aA Aa)) (bE (i:=i) (f:=0) h2 h1 rfl) (gc (gD (k:=2) (i:=(i:Int)) (by decide) h2 (Br _) h1) (gc (aI h0) gn)))))))))))))
theorem bFp(h0:(sk.length:Int)≤(i:Int)):aC Tp 0 tK (dR dl sk dc i) (.exit 0) (dR dl sk dc i):=aC.fi (gI [0,1,2,1,14,42] [0]) [bF] (gc (aN h0) gn)
theorem bFq(h0:(j:Int)<(dc.length:Int))(h1:dc[j]? = some [Ah,Ag,An,Au,Ao,Al])(h2:uni 6 dc)(h3:(eC Ah 1 9999)=true):aC Tp 0 mS (cQ dl sk dc j) .ret (bS (cQ dl sk dc j) [(2,(pI 3))]):=have k1:=fk 2 (bP Ah 1 9999) rfl;aC.fi (gI [0,1,3,1,5,1,14,90] [0]) [bT,.x (dcE Ah Ag An Au Ao Al),k1.o,bT,bT,bT,bT] (Aw h3 (gc k1 (gfl h2 h1 (gc (aI h0) gn))))
theorem bFr(h0:(j:Int)<(dc.length:Int))(h1:dc[j]? = some [Ah,Ag,An,Au,Ao,Al])(h2:uni 6 dc)(h3:(eC Ah 1 9999)=false)(h4:(eC Ag 0 9)=true):aC Tp 0 mS (cQ dl sk dc j) .ret (bS (cQ dl sk dc j) [(2,(pI 3))]):=have k1:=fk 2 (bP Ah 1 9999) rfl;have k2:=fk 2 (bP Ag 0 9) rfl;aC.fi (gI [0,1,3,1,5,1,14,90] [0]) [bT,.x (dcE Ah Ag An Au Ao Al),k1.o,bF,bF,bF,k2.o,bF,bT,bT,bT,bT] (Aw h4 (gc h3 (gc k2 (Ak h3 (gc k1 (gfl h2 h1 (gc (aI h0) gn)))))))
theorem bFs(h0:(j:Int)<(dc.length:Int))(h1:dc[j]? = some [Ah,Ag,An,Au,Ao,Al])(h2:uni 6 dc)(h3:(eC Ah 1 9999)=false)(h4:(eC Ag 0 9)=false)(h5:(eC An 0 10000)=true):aC Tp 0 mS (cQ dl sk dc j) .ret (bS (cQ dl sk dc j) [(2,(pI 3))]):=have k1:=fk 2 (bP Ah 1 9999) rfl;have k2:=fk 2 (bP Ag 0 9) rfl;have k3:=fk 2 (bP An 0 10000) rfl;aC.fi (gI [0,1,3,1,5,1,14,90] [0]) [bT,.x (dcE Ah Ag An Au Ao Al),k1.o,bF,bF,bF,k2.o,bF,bF,bF,bF,k3.o,bF,bT,bT,bT,bT] (Aw h5 (gc h4 (gc k3 (Ak h4 (gc h3 (gc k2 (Ak h3 (gc k1 (gfl h2 h1 (gc (aI h0) gn))))))))))
theorem bFt(h0:(j:Int)<(dc.length:Int))(h1:dc[j]? = some [Ah,Ag,An,Au,Ao,Al])(h2:uni 6 dc)(h3:(eC Ah 1 9999)=false)(h4:(eC Ag 0 9)=false)(h5:(eC An 0 10000)=false)(h6:(eC Ao 0 36000)=true):aC Tp 0 mS (cQ dl sk dc j) .ret (bS (cQ dl sk dc j) [(2,(pI 3))]):=have k1:=fk 2 (bP Ah 1 9999) rfl;have k2:=fk 2 (bP Ag 0 9) rfl;have k3:=fk 2 (bP An 0 10000) rfl;have k4:=fk 2 (bP Ao 0 36000) rfl;aC.fi (gI [0,1,3,1,5,1,14,90] [0]) [bT,.x (dcE Ah Ag An Au Ao Al),k1.o,bF,bF,bF,k2.o,bF,bF,bF,bF,k3.o,bF,bF,bF,bF,k4.o,bF,bT] (gc h6 (gc h5 (gc k4 (Ak h5 (gc h4 (gc k3 (Ak h4 (gc h3 (gc k2 (Ak h3 (gc k1 (gfl h2 h1 (gc (aI h0) gn)))))))))))))
theorem bFu(h0:(j:Int)<(dc.length:Int))(h1:dc[j]? = some [Ah,Ag,An,Au,Ao,Al])(h2:uni 6 dc)(h3:(eC Ah 1 9999)=false)(h4:(eC Ag 0 9)=false)(h5:(eC An 0 10000)=false)(h6:(eC Ao 0 36000)=false)(h7:(0:Int)<Ao)(h8:Ag=3):aC Tp 0 mS (cQ dl sk dc j) .ret (bS (cQ dl sk dc j) [(2,(pI 3))]):=have k1:=fk 2 (bP Ah 1 9999) rfl;have k2:=fk 2 (bP Ag 0 9) rfl;have k3:=fk 2 (bP An 0 10000) rfl;have k4:=fk 2 (bP Ao 0 36000) rfl;aC.fi (gI [0,1,3,1,5,1,14,90] [0]) ([bT,.x (dcE Ah Ag An Au Ao Al),k1.o,bF,bF,bF,k2.o,bF,bF,bF,bF,k3.o,bF,bF,bF,bF,k4.o,bF,bF]++rT 12) (Ak (aI h7) (gc (cH h8) (gc (aI h7) (Ak (cH h8) (Aw (aI h7) (gc h6 (gc h5 (gc k4 (Ak h5 (gc h4 (gc k3 (Ak h4 (gc h3 (gc k2 (Ak h3 (gc k1 (gfl h2 h1 (gc (aI h0) gn))))))))))))))))))
theorem bFv(h0:(j:Int)<(dc.length:Int))(h1:dc[j]? = some [Ah,Ag,An,Au,Ao,Al])(h2:uni 6 dc)(h3:(eC Ah 1 9999)=false)(h4:(eC Ag 0 9)=false)(h5:(eC An 0 10000)=false)(h6:(eC Ao 0 36000)=false)(h7:(0:Int)<Ao)(h8:Ag≠3)(h9:Ag=5):aC Tp 0 mS (cQ dl sk dc j) .ret (bS (cQ dl sk dc j) [(2,(pI 3))]):=have k1:=fk 2 (bP Ah 1 9999) rfl;have k2:=fk 2 (bP Ag 0 9) rfl;have k3:=fk 2 (bP An 0 10000) rfl;have k4:=fk 2 (bP Ao 0 36000) rfl;aC.fi (gI [0,1,3,1,5,1,14,90] [0]) ([bT,.x (dcE Ah Ag An Au Ao Al),k1.o,bF,bF,bF,k2.o,bF,bF,bF,bF,k3.o,bF,bF,bF,bF,k4.o,bF,bF,bT,bT,bT,bT,bF,bF,bF,bT,bF]++rT 7) (gc (aI h7) (gc (cH h9) (gc (aI h7) (Ak (cH h9) (gc (aI h7) (gc (aU h8) (gc (aI h7) (Ak (aU h8) (Aw (aI h7) (gc h6 (gc h5 (gc k4 (Ak h5 (gc h4 (gc k3 (Ak h4 (gc h3 (gc k2 (Ak h3 (gc k1 (gfl h2 h1 (gc (aI h0) gn))))))))))))))))))))))
theorem bFw(h0:(j:Int)<(dc.length:Int))(h1:dc[j]? = some [Ah,Ag,An,Au,Ao,Al])(h2:uni 6 dc)(h3:(eC Ah 1 9999)=false)(h4:(eC Ag 0 9)=false)(h5:(eC An 0 10000)=false)(h6:(eC Ao 0 36000)=false)(h7:(0:Int)<Ao)(h8:Ag≠3)(h9:Ag≠5)(A5:(6:Int)<Ag):aC Tp 0 mS (cQ dl sk dc j) .ret (bS (cQ dl sk dc j) [(2,(pI 3))]):=have k1:=fk 2 (bP Ah 1 9999) rfl;have k2:=fk 2 (bP Ag 0 9) rfl;have k3:=fk 2 (bP An 0 10000) rfl;have k4:=fk 2 (bP Ao 0 36000) rfl;aC.fi (gI [0,1,3,1,5,1,14,90] [0]) [bT,.x (dcE Ah Ag An Au Ao Al),k1.o,bF,bF,bF,k2.o,bF,bF,bF,bF,k3.o,bF,bF,bF,bF,k4.o,bF,bF,bT,bT,bT,bT,bF,bF,bF,bT,bF,bT,bF,bF,bF,bT,bF,bT,bT] (gc (aI A5) (gc (aI h7) (gc (aU h9) (gc (aI h7) (Ak (aU h9) (gc (aI h7) (gc (aU h8) (gc (aI h7) (Ak (aU h8) (Aw (aI h7) (gc h6 (gc h5 (gc k4 (Ak h5 (gc h4 (gc k3 (Ak h4 (gc h3 (gc k2 (Ak h3 (gc k1 (gfl h2 h1 (gc (aI h0) gn)))))))))))))))))))))))
theorem bFx(h0:(j:Int)<(dc.length:Int))(h1:dc[j]? = some [Ah,Ag,An,Au,Ao,Al])(h2:uni 6 dc)(h3:(eC Ah 1 9999)=false)(h4:(eC Ag 0 9)=false)(h5:(eC An 0 10000)=false)(h6:(eC Ao 0 36000)=false)(h7:(0:Int)<Ao)(h8:Ag≠3)(h9:Ag≠5)(A5:Ag≤6)(Bd:inR (((j+1):Nat):Int))(Eo:j'=(j+1)):aC Tp 0 mS (cQ dl sk dc j) .normal (cQ dl sk dc j'):=by
 subst Eo;have k1:=fk 2 (bP Ah 1 9999) rfl;have k2:=fk 2 (bP Ag 0 9) rfl;have k3:=fk 2 (bP An 0 10000) rfl;have k4:=fk 2 (bP Ao 0 36000) rfl;exact aC.fi (gI [0,1,2,2,5,1,14,90] [0]) [bT,.x (dcE Ah Ag An Au Ao Al),k1.o,bF,bF,bF,k2.o,bF,bF,bF,bF,k3.o,bF,bF,bF,bF,k4.o,bF,bF,bT,bT,bT,bT,bF,bF,bF,bT,bF,bT,bF,bF,bF,bT,bF,bT,bF] (gc Bd (gc (aN A5) (gc (aI h7) (gc (aU h9) (gc (aI h7) (Ak (aU h9) (gc (aI h7) (gc (aU h8) (gc (aI h7) (Ak (aU h8) (Aw (aI h7) (gc h6 (gc h5 (gc k4 (Ak h5 (gc h4 (gc k3 (Ak h4 (gc h3 (gc k2 (Ak h3 (gc k1 (gfl h2 h1 (gc (aI h0) gn))))))))))))))))))))))))
theorem bFy(h0:(j:Int)<(dc.length:Int))(h1:dc[j]? = some [Ah,Ag,An,Au,Ao,Al])(h2:uni 6 dc)(h3:(eC Ah 1 9999)=false)(h4:(eC Ag 0 9)=false)(h5:(eC An 0 10000)=false)(h6:(eC Ao 0 36000)=false)(h7:Ao≤0)(h8:inR (((j+1):Nat):Int))(Eo:j'=(j+1)):aC Tp 0 mS (cQ dl sk dc j) .normal (cQ dl sk dc j'):=by
 subst Eo;have k1:=fk 2 (bP Ah 1 9999) rfl;have k2:=fk 2 (bP Ag 0 9) rfl;have k3:=fk 2 (bP An 0 10000) rfl;have k4:=fk 2 (bP Ao 0 36000) rfl;exact aC.fi (gI [0,1,2,2,5,1,14,90] [0]) ([bT,.x (dcE Ah Ag An Au Ao Al),k1.o,bF,bF,bF,k2.o,bF,bF,bF,bF,k3.o,bF,bF,bF,bF,k4.o]++rF 10) (gc h8 (Eu (aN h7) (gc h6 (gc h5 (gc k4 (Ak h5 (gc h4 (gc k3 (Ak h4 (gc h3 (gc k2 (Ak h3 (gc k1 (gfl h2 h1 (gc (aI h0) gn)))))))))))))))
theorem bFz(h0:(dc.length:Int)≤(j:Int)):aC Tp 0 mS (cQ dl sk dc j) (.exit 2) (cQ dl sk dc j):=aC.fi (gI [0,1,2,2,5,1,14,90] [0]) [bF] (gc (aN h0) gn)
def iN(dl:Int)(sk:Lqq)(dc:Lqq)(a:Nat)(b:Nat):St:=⟨fr 219 [(1,(.ptr 0 0)),(6,(pI (a:Int))),(7,(pI (b:Int))),(104,(pI (a:Int))),(105,(.ptr 0 1)),(106,(.p (fS sk))),(107,(pI (sk.length:Int))),(108,(pB (decide ((a:Int)<(sk.length:Int)))))],[some (.box 61 [(pI dl),(.p (fS sk)),(.p (fS dc))])]⟩
theorem bGa{a':Nat}(h0:(a:Int)<(sk.length:Int))(A2:aE Tp 0 aQb (iN dl sk dc a 0) (.exit 6) (iN dl sk dc a Mf))(h2:inR (((a+1):Nat):Int))(Pp:a'=(a+1)):aC Tp 0 aBg (eW dl sk dc a) .normal (eW dl sk dc a'):=by
 subst Pp;exact aC.fi (gI [0,1,2,4,7,1,14,115] [0]) [bT,A2.k 5 (gI [0,1,2,4,14,90,111,18] [0])] (gc h2 (gc A2.code (gc (aI h0) gn)))
theorem bGb(h0:(a:Int)<(sk.length:Int))(A2:aE Tp 0 aQb (iN dl sk dc a 0) .ret (bS (iN dl sk dc a Mf) [(2,(pI 5))])):aC Tp 0 aBg (eW dl sk dc a) .ret (bS (eW dl sk dc a) [(2,(pI 5))]):=aC.fi (gI [0,1,3,3,7,1,14,115] [0]) [bT,A2.k 5 (gI [0,1,2,4,14,90,111,18] [0])] (gc A2.code (gc (aI h0) gn))
theorem bGc(h0:(sk.length:Int)≤(a:Int)):aC Tp 0 aBg (eW dl sk dc a) (.exit 4) (eW dl sk dc a):=aC.fi (gI [0,1,2,4,7,1,14,115] [0]) [bF] (gc (aN h0) gn)
def iO(dl:Int)(sk:Lqq)(dc:Lqq)(c:Nat)(d:Nat):St:=⟨fr 219 [(1,(.ptr 0 0)),(8,(pI (c:Int))),(9,(pI (d:Int))),(129,(pI (c:Int))),(130,(.ptr 0 2)),(131,(.p (fS dc))),(132,(pI (dc.length:Int))),(133,(pB (decide ((c:Int)<(dc.length:Int)))))],[some (.box 61 [(pI dl),(.p (fS sk)),(.p (fS dc))])]⟩
theorem bGd{c':Nat}(h0:(c:Int)<(dc.length:Int))(A2:aE Tp 0 aQc (iO dl sk dc c 0) (.exit 10) (iO dl sk dc c Mg))(h2:inR (((c+1):Nat):Int))(Wd:c'=(c+1)):aC Tp 0 aEs (fH dl sk dc c) .normal (fH dl sk dc c'):=by
 subst Wd;exact aC.fi (gI [0,1,2,6,9,1,14,140] [0]) [bT,A2.k 5 (gI [0,1,2,6,14,115,136,18] [0])] (gc h2 (gc A2.code (gc (aI h0) gn)))
theorem bGe(h0:(c:Int)<(dc.length:Int))(A2:aE Tp 0 aQc (iO dl sk dc c 0) .ret (bS (iO dl sk dc c Mg) [(2,(pI 5))])):aC Tp 0 aEs (fH dl sk dc c) .ret (bS (fH dl sk dc c) [(2,(pI 5))]):=aC.fi (gI [0,1,3,5,9,1,14,140] [0]) [bT,A2.k 5 (gI [0,1,2,6,14,115,136,18] [0])] (gc A2.code (gc (aI h0) gn))
theorem bGf(h0:(dc.length:Int)≤(c:Int)):aC Tp 0 aEs (fH dl sk dc c) (.exit 8) (fH dl sk dc c):=aC.fi (gI [0,1,2,6,9,1,14,140] [0]) [bF] (gc (aN h0) gn)
theorem bGg(h0:(e:Int)<(dc.length:Int))(h1:dc[e]? = some [Hi,Ef,Hj,El,Hk,Hl])(h2:uni 6 dc)(h3:(4:Int)<Ef)(h4:El≠0):aC Tp 0 aBh (eX dl sk dc e) .ret (bS (eX dl sk dc e) [(2,(pI 1))]):=aC.fi (gI [0,1,3,7,11,1,14,172] [0]) ([bT,.x (dcE Hi Ef Hj El Hk Hl)]++rT 10) (Fx (jF h4) (Aw (aI h3) (gfl h2 h1 (gc (aI h0) gn))))
theorem bGh(h0:(e:Int)<(dc.length:Int))(h1:dc[e]? = some [Hi,Ef,Hj,El,Hk,Hl])(h2:uni 6 dc)(h3:(4:Int)<Ef)(h4:El=0)(h5:(5:Int)≤Ef)(h6:inR (((e+1):Nat):Int))(Sy:e'=(e+1)):aC Tp 0 aBh (eX dl sk dc e) .normal (eX dl sk dc e'):=by
 subst Sy;exact aC.fi (gI [0,1,2,8,11,1,14,172] [0]) ([bT,.x (dcE Hi Ef Hj El Hk Hl),bT,bT,bT,bT]++rF 12) (gc h6 (gc (bL h4) (gc (aN h5) (gc (bL h4) (Bo (aN h5) (Aw (bL h4) (Aw (aI h3) (gfl h2 h1 (gc (aI h0) gn)))))))))
theorem bGi(h0:(e:Int)<(dc.length:Int))(h1:dc[e]? = some [Hi,Ef,Hj,El,Hk,Hl])(h2:uni 6 dc)(h3:Ef≤4)(h4:Ef<5)(h5:uni 2 sk)(h6:sk.length≤1000)(h7:(bJ (fun x=>decide (x.getD 0 0=El)) sk)<0):aC Tp 0 aBh (eX dl sk dc e) .ret (bS (eX dl sk dc e) [(2,(pI 1))]):=have k1:=fk 2 (aUu dl sk dc El h5 h6) rfl;aC.fi (gI [0,1,3,7,11,1,14,172] [0]) [bT,.x (dcE Hi Ef Hj El Hk Hl),bF,bF,bF,bF,bT,bT,bT,bT,k1.o,bT,bT,bT] (gc (aI h7) (Az (aI h4) (gc k1 (Aw (aI h4) (Aw (aN h3) (gfl h2 h1 (gc (aI h0) gn)))))))
theorem bGj(h0:(e:Int)<(dc.length:Int))(h1:dc[e]? = some [Hi,Ef,Hj,El,Hk,Hl])(h2:uni 6 dc)(h3:Ef≤4)(h4:Ef<5)(h5:uni 2 sk)(h6:sk.length≤1000)(h7:(0:Int)≤(bJ (fun x=>decide (x.getD 0 0=El)) sk))(h8:inR (((e+1):Nat):Int))(Sy:e'=(e+1)):aC Tp 0 aBh (eX dl sk dc e) .normal (eX dl sk dc e'):=by
 subst Sy;have k1:=fk 2 (aUu dl sk dc El h5 h6) rfl;exact aC.fi (gI [0,1,2,8,11,1,14,172] [0]) [bT,.x (dcE Hi Ef Hj El Hk Hl),bF,bF,bF,bF,bT,bT,bT,bT,k1.o,bT,bT,bF] (gc h8 (gc (aN h7) (Az (aI h4) (gc k1 (Aw (aI h4) (Aw (aN h3) (gfl h2 h1 (gc (aI h0) gn))))))))
theorem bGk(h0:(dc.length:Int)≤(e:Int)):aC Tp 0 aBh (eX dl sk dc e) (.exit 12) (eX dl sk dc e):=aC.fi (gI [0,1,2,8,11,1,14,172] [0]) [bF] (gc (aN h0) gn)
theorem bGl(h0:(f:Int)<(dc.length:Int))(h1:dc[f]? = some [Em,Eg,Hm,Hn,Ho,En])(h2:uni 6 dc)(h3:Eg<5)(h4:En≠0):aC Tp 0 aEt (fJ dl sk dc f) .ret (bS (fJ dl sk dc f) [(2,(pI 4))]):=aC.fi (gI [0,1,3,9,13,206] [0]) ([bT,.x (dcE Em Eg Hm Hn Ho En)]++rT 10) (Fx (jF h4) (Aw (aI h3) (gfl h2 h1 (gc (aI h0) gn))))
theorem bGm(h0:(f:Int)<(dc.length:Int))(h1:dc[f]? = some [Em,Eg,Hm,Hn,Ho,En])(h2:uni 6 dc)(h3:Eg<5)(h4:En=0)(h5:Eg≤4)(h6:inR (((f+1):Nat):Int))(Sz:f'=(f+1)):aC Tp 0 aEt (fJ dl sk dc f) .normal (fJ dl sk dc f'):=by
 subst Sz;exact aC.fi (gI [0,1,2,10,13,206] [0]) ([bT,.x (dcE Em Eg Hm Hn Ho En),bT,bT,bT,bT]++rF 13) (gc h6 (gc (bL h4) (gc (aN h5) (gc (bL h4) (Fx (aN h5) (Aw (bL h4) (Aw (aI h3) (gfl h2 h1 (gc (aI h0) gn)))))))))
theorem bGn(h0:(f:Int)<(dc.length:Int))(h1:dc[f]? = some [Em,Eg,Hm,Hn,Ho,En])(h2:uni 6 dc)(h3:(5:Int)≤Eg)(h4:(4:Int)<Eg)(h5:inR (Em-1))(h6:(eC En 1 (Em-1))=true):aC Tp 0 aEt (fJ dl sk dc f) .ret (bS (fJ dl sk dc f) [(2,(pI 4))]):=have k1:=fk 2 (bP En 1 (Em-1)) rfl;aC.fi (gI [0,1,3,9,13,206] [0]) ([bT,.x (dcE Em Eg Hm Hn Ho En),bF,bF,bF,bF]++rT 6++[k1.o,bT,bT]) (gc h6 (gc (aI h4) (gc k1 (gc (aI h4) (gc h5 (Bo (aI h4) (Aw (aN h3) (gfl h2 h1 (gc (aI h0) gn)))))))))
theorem bGo(h0:(f:Int)<(dc.length:Int))(h1:dc[f]? = some [Em,Eg,Hm,Hn,Ho,En])(h2:uni 6 dc)(h3:(5:Int)≤Eg)(h4:(4:Int)<Eg)(h5:inR (Em-1))(h6:(eC En 1 (Em-1))=false)(h7:inR (((f+1):Nat):Int))(Sz:f'=(f+1)):aC Tp 0 aEt (fJ dl sk dc f) .normal (fJ dl sk dc f'):=by
 subst Sz;have k1:=fk 2 (bP En 1 (Em-1)) rfl;exact aC.fi (gI [0,1,2,10,13,206] [0]) ([bT,.x (dcE Em Eg Hm Hn Ho En),bF,bF,bF,bF]++rT 6++[k1.o,bT,bF]) (gc h7 (gc h6 (gc (aI h4) (gc k1 (gc (aI h4) (gc h5 (Bo (aI h4) (Aw (aN h3) (gfl h2 h1 (gc (aI h0) gn))))))))))
theorem bGp(h0:(dc.length:Int)≤(f:Int)):aC Tp 0 aEt (fJ dl sk dc f) (.exit 14) (fJ dl sk dc f):=aC.fi (gI [0,1,2,10,13,206] [0]) [bF] (gc (aN h0) gn)
theorem bGq(h0:(b:Int)<(a:Int))(h1:sk[a]? = some [Hf,Pd])(h2:uni 2 sk)(h3:sk[b]? = some [Hg,Pe])(h4:Hf=Hg):aC Tp 0 aQb (iN dl sk dc a b) .ret (bS (iN dl sk dc a b) [(2,(pI 5))]):=aC.fi (gI [0,1,3,3,14,90,111,18] [0]) [bT,.x (aA Hf),.x (aA Hg),bT] (gc (cH h4) (gt ((sk.flatten.map aA)[(b*2)]? = some (aA Hg)) (bE (i:=b) (f:=0) h2 h3 rfl) (gc (gD (k:=2) (i:=(b:Int)) (by decide) h2 (Br _) h3) (gt ((sk.flatten.map aA)[(a*2)]? = some (aA Hf)) (bE (i:=a) (f:=0) h2 h1 rfl) (gc (gD (k:=2) (i:=(a:Int)) (by decide) h2 (Br _) h1) (gc (aI h0) gn))))))
theorem bGr{b':Nat}(h0:(b:Int)<(a:Int))(h1:sk[a]? = some [Hf,Pd])(h2:uni 2 sk)(h3:sk[b]? = some [Hg,Pe])(h4:Hf≠Hg)(h5:inR (((b+1):Nat):Int))(Pb:b'=(b+1)):aC Tp 0 aQb (iN dl sk dc a b) .normal (iN dl sk dc a b'):=by
 subst Pb;exact aC.fi (gI [0,1,2,4,14,90,111,18] [0]) [bT,.x (aA Hf),.x (aA Hg),bF] (gc h5 (gc (aU h4) (gt ((sk.flatten.map aA)[(b*2)]? = some (aA Hg)) (bE (i:=b) (f:=0) h2 h3 rfl) (gc (gD (k:=2) (i:=(b:Int)) (by decide) h2 (Br _) h3) (gt ((sk.flatten.map aA)[(a*2)]? = some (aA Hf)) (bE (i:=a) (f:=0) h2 h1 rfl) (gc (gD (k:=2) (i:=(a:Int)) (by decide) h2 (Br _) h1) (gc (aI h0) gn)))))))
theorem bGs(h0:(a:Int)≤(b:Int)):aC Tp 0 aQb (iN dl sk dc a b) (.exit 6) (iN dl sk dc a b):=aC.fi (gI [0,1,2,4,14,90,111,18] [0]) [bF] (gc (aN h0) gn)
theorem bGt(h0:(d:Int)<(c:Int))(h1:dc[c]? = some [Ed,Ee,Gn,Pf,Pg,Ph])(h2:uni 6 dc)(h3:dc[d]? = some [Hh,Pi,Pj,Pk,Pm,Pn])(h4:Ed=Hh):aC Tp 0 aQc (iO dl sk dc c d) .ret (bS (iO dl sk dc c d) [(2,(pI 5))]):=aC.fi (gI [0,1,3,5,14,115,136,18] [0]) [bT,.x (aA Ed),.x (aA Hh),bT] (gc (cH h4) (gt ((dc.flatten.map aA)[(d*6)]? = some (aA Hh)) (bE (i:=d) (f:=0) h2 h3 rfl) (gc (gD (k:=6) (i:=(d:Int)) (by decide) h2 (Br _) h3) (gt ((dc.flatten.map aA)[(c*6)]? = some (aA Ed)) (bE (i:=c) (f:=0) h2 h1 rfl) (gc (gD (k:=6) (i:=(c:Int)) (by decide) h2 (Br _) h1) (gc (aI h0) gn))))))
theorem bGu{d':Nat}(h0:(d:Int)<(c:Int))(h1:dc[c]? = some [Ed,Ee,Gn,Pf,Pg,Ph])(h2:uni 6 dc)(h3:dc[d]? = some [Hh,Pi,Pj,Pk,Pm,Pn])(h4:Ed≠Hh)(h5:inR (((d+1):Nat):Int))(We:d'=(d+1)):aC Tp 0 aQc (iO dl sk dc c d) .normal (iO dl sk dc c d'):=by
 subst We;exact aC.fi (gI [0,1,2,6,14,115,136,18] [0]) [bT,.x (aA Ed),.x (aA Hh),bF] (gc h5 (gc (aU h4) (gt ((dc.flatten.map aA)[(d*6)]? = some (aA Hh)) (bE (i:=d) (f:=0) h2 h3 rfl) (gc (gD (k:=6) (i:=(d:Int)) (by decide) h2 (Br _) h3) (gt ((dc.flatten.map aA)[(c*6)]? = some (aA Ed)) (bE (i:=c) (f:=0) h2 h1 rfl) (gc (gD (k:=6) (i:=(c:Int)) (by decide) h2 (Br _) h1) (gc (aI h0) gn)))))))
theorem bGv(h0:(c:Int)≤(d:Int)):aC Tp 0 aQc (iO dl sk dc c d) (.exit 10) (iO dl sk dc c d):=aC.fi (gI [0,1,2,6,14,115,136,18] [0]) [bF] (gc (aN h0) gn)
end
section

def nB(f:Lqq)(i:Nat):Int:=(f.getD i []).getD 0 0
theorem rO(f:Lqq):(aQ f 0).Nodup↔∀ a,a<f.length→∀ b,b<a→nB f a≠nB f b:=by
 have hk:∀ i (h:i<f.length),nB f i=(aQ f 0)[i]'(by rw [nC];exact h):=fun i h=>by simp [nB,aQ,Bv,Av h]
 constructor
 ·intro h a ha b hb he
  have:=List.pairwise_iff_getElem.1 h b a (by rw [nC];omega) (by rw [nC];omega) hb
  rw [hk a ha,hk b (by omega)] at he
  exact this he.symm
 ·intro h
  refine List.pairwise_iff_getElem.2 fun i j hi hj hij he => ?_
  rw [nC] at hi hj
  exact h j hj i hij (by rw [hk j hj,hk i hi,he])
theorem rsin(dl:Int)(sk dc:Lqq)(hu:uni 2 sk)(hl:sk.length≤1000)(i:Nat)(hi:i<sk.length) :
  (∃ j,(List.range i).any (fun j=>decide (nB sk i=nB sk j))=true∧aE Tp 0 (sub (cd Tryz.f31) [1,1,1,1,1,0,1,0,0,1,0,0,1,0,0]) (iN dl sk dc i 0) .ret (bS (iN dl sk dc i j) [(2,.p (aA 5))]))∨((List.range i).any (fun j=>decide (nB sk i=nB sk j))=false∧aE Tp 0 (sub (cd Tryz.f31) [1,1,1,1,1,0,1,0,0,1,0,0,1,0,0]) (iN dl sk dc i 0) (.exit 6) (iN dl sk dc i i)):=by
 have hx:∀ j,j<sk.length→∃ x,sk[j]? = some x∧x.length=2∧nB sk j=x.getD 0 0:=fun j hj=>⟨sk[j],Av hj,hu _ (fL hj),by simp [nB,Bv,Av hj]⟩
 rcases aE.find (P:=Tp) (k:=0) (b:=(sub (cd Tryz.f31) [1,1,1,1,1,0,1,0,0,1,0,0,1,0,0])) (fun j=>iN dl sk dc i j) (fun j _=>bS (iN dl sk dc i j) [(2,.p (aA 5))]) (iN dl sk dc i i) .ret (.exit 6) (by simp) (by simp) (fun j=>decide (nB sk i=nB sk j)) (List.range i)
  (fun j x hj hp=>by
   have hji:j<i:=by have:=aO hj;simpa using this
   have hxj:x=j:=by rw [nP hji] at hj;exact (Option.some.inj hj).symm
   subst hxj;obtain ⟨y,hy,ly,ky⟩:=hx i hi;obtain ⟨z,hz,lz,kz⟩:=hx x (by omega)
   obtain ⟨a,b,rfl⟩:=len2 ly;obtain ⟨c,d,rfl⟩:=len2 lz;have he:=of_decide_eq_false hp;rw [ky,kz] at he
   exact bGr (by omega) hy hu hz he (aH (by omega)) rfl)
  (fun j x hj hp=>by
   have hji:j<i:=by have:=aO hj;simpa using this
   have hxj:x=j:=by rw [nP hji] at hj;exact (Option.some.inj hj).symm
   subst hxj;obtain ⟨y,hy,ly,ky⟩:=hx i hi;obtain ⟨z,hz,lz,kz⟩:=hx x (by omega)
   obtain ⟨a,b,rfl⟩:=len2 ly;obtain ⟨c,d,rfl⟩:=len2 lz;have he:=of_decide_eq_true hp;rw [ky,kz] at he
   exact bGq (by omega) hy hu hz he)
  (by rw [aGv];exact bGs (by omega)) with ⟨j,x,h1,h2,h3,h4⟩ | ⟨h1,h2,h3⟩
 ·exact .inl ⟨j,List.any_eq_true.2 ⟨x,Bi h1,h3⟩,h4⟩
 ·exact .inr ⟨h2,h3⟩
theorem rso(dl:Int)(sk dc:Lqq)(hu:uni 2 sk)(hl:sk.length≤1000) :
  (¬ (aQ sk 0).Nodup∧∃ i,aE Tp 0 (sub (cd Tryz.f31) [1,1,1,1,1,0,1,0,0]) (eW dl sk dc 0) .ret (bS (eW dl sk dc i) [(2,.p (aA 5))]))∨((aQ sk 0).Nodup∧aE Tp 0 (sub (cd Tryz.f31) [1,1,1,1,1,0,1,0,0]) (eW dl sk dc 0) (.exit 4) (eW dl sk dc sk.length)):=by
 rcases aE.find (P:=Tp) (k:=0) (b:=(sub (cd Tryz.f31) [1,1,1,1,1,0,1,0,0])) (fun i=>eW dl sk dc i) (fun i _=>bS (eW dl sk dc i) [(2,.p (aA 5))]) (eW dl sk dc sk.length) .ret (.exit 4) (by simp) (by simp) (fun i=>(List.range i).any fun j=>decide (nB sk i=nB sk j)) (List.range sk.length)
  (fun i x hj hp=>by
   have hi:i<sk.length:=by have:=aO hj;simpa using this
   have hxj:x=i:=by rw [nP hi] at hj;exact (Option.some.inj hj).symm
   subst hxj
   rcases rsin dl sk dc hu hl x hi with ⟨j,h,_⟩ | ⟨_,h⟩
   ·rw [h] at hp;cases hp
   ·exact bGa (by omega) h (aH (by omega)) rfl)
  (fun i x hj hp=>by
   have hi:i<sk.length:=by have:=aO hj;simpa using this
   have hxj:x=i:=by rw [nP hi] at hj;exact (Option.some.inj hj).symm
   subst hxj
   rcases rsin dl sk dc hu hl x hi with ⟨j,_,h⟩ | ⟨h,_⟩
   ·exact bGb (by omega) h
   ·rw [h] at hp;cases hp)
  (by rw [aGv];exact bGc (by omega)) with ⟨i,x,h1,h2,h3,h4⟩ | ⟨h1,h2,h3⟩
 ·refine .inl ⟨fun hn => ?_,i,h4⟩
  have hi:i<sk.length:=by have:=aO h1;simpa using this
  have hxj:x=i:=by rw [nP hi] at h1;exact (Option.some.inj h1).symm
  subst hxj;obtain ⟨j,hj,he⟩:=List.any_eq_true.1 h3;exact (rO sk).1 hn x hi j (by simpa using hj) (of_decide_eq_true he)
 ·refine .inr ⟨(rO sk).2 fun i hi j hj he => ?_,h3⟩
  have:=List.any_eq_false.1 h2 i (iJ.2 hi);exact this (List.any_eq_true.2 ⟨j,iJ.2 hj,decide_eq_true he⟩)
theorem rdin(dl:Int)(sk dc:Lqq)(hu:uni 6 dc)(hl:dc.length≤1000)(i:Nat)(hi:i<dc.length) :
  (∃ j,(List.range i).any (fun j=>decide (nB dc i=nB dc j))=true∧aE Tp 0 (sub (cd Tryz.f31) [1,1,1,1,1,1,0,1,0,0,1,0,0,1,0,0]) (iO dl sk dc i 0) .ret (bS (iO dl sk dc i j) [(2,.p (aA 5))]))∨((List.range i).any (fun j=>decide (nB dc i=nB dc j))=false∧aE Tp 0 (sub (cd Tryz.f31) [1,1,1,1,1,1,0,1,0,0,1,0,0,1,0,0]) (iO dl sk dc i 0) (.exit 10) (iO dl sk dc i i)):=by
 have hx:∀ j,j<dc.length→∃ x,dc[j]? = some x∧x.length=6∧nB dc j=x.getD 0 0:=fun j hj=>⟨dc[j],Av hj,hu _ (fL hj),by simp [nB,Bv,Av hj]⟩
 rcases aE.find (P:=Tp) (k:=0) (b:=(sub (cd Tryz.f31) [1,1,1,1,1,1,0,1,0,0,1,0,0,1,0,0])) (fun j=>iO dl sk dc i j) (fun j _=>bS (iO dl sk dc i j) [(2,.p (aA 5))]) (iO dl sk dc i i) .ret (.exit 10) (by simp) (by simp) (fun j=>decide (nB dc i=nB dc j)) (List.range i)
  (fun j x hj hp=>by
   have hji:j<i:=by have:=aO hj;simpa using this
   have hxj:x=j:=by rw [nP hji] at hj;exact (Option.some.inj hj).symm
   subst hxj;obtain ⟨y,hy,ly,ky⟩:=hx i hi;obtain ⟨z,hz,lz,kz⟩:=hx x (by omega)
   obtain ⟨a,b,c,d,e,g,rfl⟩:=A6 ly;obtain ⟨a',b',c',d',e',g',rfl⟩:=A6 lz;have he:=of_decide_eq_false hp;rw [ky,kz] at he
   exact bGu (by omega) hy hu hz he (aH (by omega)) rfl)
  (fun j x hj hp=>by
   have hji:j<i:=by have:=aO hj;simpa using this
   have hxj:x=j:=by rw [nP hji] at hj;exact (Option.some.inj hj).symm
   subst hxj;obtain ⟨y,hy,ly,ky⟩:=hx i hi;obtain ⟨z,hz,lz,kz⟩:=hx x (by omega)
   obtain ⟨a,b,c,d,e,g,rfl⟩:=A6 ly;obtain ⟨a',b',c',d',e',g',rfl⟩:=A6 lz;have he:=of_decide_eq_true hp;rw [ky,kz] at he
   exact bGt (by omega) hy hu hz he)
  (by rw [aGv];exact bGv (by omega)) with ⟨j,x,h1,h2,h3,h4⟩ | ⟨h1,h2,h3⟩
 ·exact .inl ⟨j,List.any_eq_true.2 ⟨x,Bi h1,h3⟩,h4⟩
 ·exact .inr ⟨h2,h3⟩
theorem rdo(dl:Int)(sk dc:Lqq)(hu:uni 6 dc)(hl:dc.length≤1000) :
  (¬ (aQ dc 0).Nodup∧∃ i,aE Tp 0 (sub (cd Tryz.f31) [1,1,1,1,1,1,0,1,0,0]) (fH dl sk dc 0) .ret (bS (fH dl sk dc i) [(2,.p (aA 5))]))∨((aQ dc 0).Nodup∧aE Tp 0 (sub (cd Tryz.f31) [1,1,1,1,1,1,0,1,0,0]) (fH dl sk dc 0) (.exit 8) (fH dl sk dc dc.length)):=by
 rcases aE.find (P:=Tp) (k:=0) (b:=(sub (cd Tryz.f31) [1,1,1,1,1,1,0,1,0,0])) (fun i=>fH dl sk dc i) (fun i _=>bS (fH dl sk dc i) [(2,.p (aA 5))]) (fH dl sk dc dc.length) .ret (.exit 8) (by simp) (by simp) (fun i=>(List.range i).any fun j=>decide (nB dc i=nB dc j)) (List.range dc.length)
  (fun i x hj hp=>by
   have hi:i<dc.length:=by have:=aO hj;simpa using this
   have hxj:x=i:=by rw [nP hi] at hj;exact (Option.some.inj hj).symm
   subst hxj
   rcases rdin dl sk dc hu hl x hi with ⟨j,h,_⟩ | ⟨_,h⟩
   ·rw [h] at hp;cases hp
   ·exact bGd (by omega) h (aH (by omega)) rfl)
  (fun i x hj hp=>by
   have hi:i<dc.length:=by have:=aO hj;simpa using this
   have hxj:x=i:=by rw [nP hi] at hj;exact (Option.some.inj hj).symm
   subst hxj
   rcases rdin dl sk dc hu hl x hi with ⟨j,_,h⟩ | ⟨h,_⟩
   ·exact bGe (by omega) h
   ·rw [h] at hp;cases hp)
  (by rw [aGv];exact bGf (by omega)) with ⟨i,x,h1,h2,h3,h4⟩ | ⟨h1,h2,h3⟩
 ·refine .inl ⟨fun hn => ?_,i,h4⟩
  have hi:i<dc.length:=by have:=aO h1;simpa using this
  have hxj:x=i:=by rw [nP hi] at h1;exact (Option.some.inj h1).symm
  subst hxj;obtain ⟨j,hj,he⟩:=List.any_eq_true.1 h3;exact (rO dc).1 hn x hi j (by simpa using hj) (of_decide_eq_true he)
 ·refine .inr ⟨(rO dc).2 fun i hi j hj he => ?_,h3⟩
  have:=List.any_eq_false.1 h2 i (iJ.2 hi);exact this (List.any_eq_true.2 ⟨j,iJ.2 hj,decide_eq_true he⟩)
theorem jY{n a b:Int}(h:within n a b=true):eC n a b=false:=by unfold eC;rw [h];rfl
theorem aQa{n a b:Int}(h:within n a b=false):eC n a b=true:=by unfold eC;rw [h];rfl
theorem aUt(a b:Int):skB [a,b]=(within a 1 999 && within b (-1) 360000):=rfl
theorem r0(dl:Int)(sk dc:Lqq)(hu:uni 2 sk)(hl:sk.length≤1000):(sk.all skB=false∧∃ i,aE Tp 0 (sub (cd Tryz.f31) [1,1,1,0,1,0,0]) (dR dl sk dc 0) .ret (bS (dR dl sk dc i) [(2,.p (aA 3))]))∨(sk.all skB=true∧aE Tp 0 (sub (cd Tryz.f31) [1,1,1,0,1,0,0]) (dR dl sk dc 0) (.exit 0) (dR dl sk dc sk.length)):=by
 rcases aE.find (P:=Tp) (k:=0) (b:=(sub (cd Tryz.f31) [1,1,1,0,1,0,0])) (fun i=>dR dl sk dc i) (fun i _=>bS (dR dl sk dc i) [(2,.p (aA 3))]) (dR dl sk dc sk.length) .ret (.exit 0) (by simp) (by simp) (fun x => !skB x) sk
  (fun i x hx hp=>by
   obtain ⟨a,b,rfl⟩:=len2 (hu _ (Bi hx));have hp:skB [a,b]=true:=by simpa using hp
   rw [aUt,B7] at hp
   have:=aO hx;exact bFo (by omega) hx hu (jY hp.1) (jY hp.2) (aH (by omega)) rfl)
  (fun i x hx hp=>by
   obtain ⟨a,b,rfl⟩:=len2 (hu _ (Bi hx));have hp:skB [a,b]=false:=by simpa using hp
   have:=aO hx;rw [aUt] at hp
   cases h1:within a 1 999 with
   | false=>exact bFm (by omega) hx hu (aQa h1)
   | true=>rw [h1,gA] at hp;exact bFn (by omega) hx hu (jY h1) (aQa hp))
  (bFp (by omega)) with ⟨i,x,h1,h2,h3,h4⟩ | ⟨h1,h2,h3⟩
 ·exact .inl ⟨by rw [← aCk,eF h2];simp,i,h4⟩
 ·exact .inr ⟨by rw [List.all_eq_not_any_not,h2];rfl,h3⟩
theorem r1 (dl:Int) (sk dc:Lqq) (hu:uni 6 dc) (hl:dc.length≤1000):(dc.all dcB=false∧∃ i,aE Tp 0 (sub (cd Tryz.f31) [1,1,1,1,0,1,0,0]) (cQ dl sk dc 0) .ret (bS (cQ dl sk dc i) [(2,.p (aA 3))]))∨(dc.all dcB=true∧aE Tp 0 (sub (cd Tryz.f31) [1,1,1,1,0,1,0,0]) (cQ dl sk dc 0) (.exit 2) (cQ dl sk dc dc.length)):=by
 rcases aE.find (P:=Tp) (k:=0) (b:=(sub (cd Tryz.f31) [1,1,1,1,0,1,0,0])) (fun i=>cQ dl sk dc i) (fun i _=>bS (cQ dl sk dc i) [(2,.p (aA 3))]) (cQ dl sk dc dc.length) .ret (.exit 2) (by simp) (by simp) (fun x => !dcB x) dc
  (fun i x hx hp=>by
   obtain ⟨a,b,c,d,e,f,rfl⟩:=A6 (hu _ (Bi hx));have hp:dcB [a,b,c,d,e,f]=true:=by simpa using hp
   rw [gY,B7,B7,B7] at hp
   obtain ⟨p1,p2,p3,p4⟩:=hp;have:=aO hx;have q2:=bV.1 p2;have q4:=bV.1 p4;have hm:within e 0 36000=true:=bV.2 ⟨q4.1,by have:=q4.2;unfold mT at this;split at this <;> omega⟩
   by_cases he:0<e
   ·have hk:¬ (b=3∨¬ b≤4∧b≠6):=fun h=>by
     have:=q4.2;unfold mT at this
     rw [if_pos h] at this
     omega
    exact bFx (by omega) hx hu (jY p1) (jY p2) (jY p3) (jY hm) he (by omega) (by omega) (by omega) (aH (by omega)) rfl
   ·exact bFy (by omega) hx hu (jY p1) (jY p2) (jY p3) (jY hm) (by omega) (aH (by omega)) rfl)
  (fun i x hx hp=>by
   obtain ⟨a,b,c,d,e,f,rfl⟩:=A6 (hu _ (Bi hx));have hp:dcB [a,b,c,d,e,f]=false:=by simpa using hp
   have:=aO hx;rw [gY] at hp
   cases p1:within a 1 9999 with
   | false=>exact bFq (by omega) hx hu (aQa p1)
   | true =>
   cases p2:within b 0 9 with
   | false=>exact bFr (by omega) hx hu (jY p1) (aQa p2)
   | true =>
   cases p3:within c 0 10000 with
   | false=>exact bFs (by omega) hx hu (jY p1) (jY p2) (aQa p3)
   | true =>
   cases p4:within e 0 36000 with
   | false=>exact bFt (by omega) hx hu (jY p1) (jY p2) (jY p3) (aQa p4)
   | true =>
    rw [p1,p2,p3,gA,gA,gA] at hp
    have q2:=bV.1 p2;have q4:=bV.1 p4;have hk:(b=3∨¬ b≤4∧b≠6)∧0<e:=by
     unfold mT at hp
     split at hp
     ·rename_i hk
      refine ⟨hk,?_⟩
      rcases Int.lt_or_le 0 e with h | h
      ·exact h
      ·rw [bV.2 ⟨q4.1,h⟩] at hp;cases hp
     ·rw [p4] at hp;cases hp
    by_cases h3:b=3
    ·exact bFu (by omega) hx hu (jY p1) (jY p2) (jY p3) (jY p4) hk.2 h3
    ·by_cases h5:b=5
     ·exact bFv (by omega) hx hu (jY p1) (jY p2) (jY p3) (jY p4) hk.2 h3 h5
     ·exact bFw (by omega) hx hu (jY p1) (jY p2) (jY p3) (jY p4) hk.2 h3 h5 (by omega))
  (bFz (by omega)) with ⟨i,x,h1,h2,h3,h4⟩ | ⟨h1,h2,h3⟩
 ·exact .inl ⟨by rw [← aCk,eF h2];simp,i,h4⟩
 ·exact .inr ⟨by rw [List.all_eq_not_any_not,h2];rfl,h3⟩
theorem aZg(sk:Lqq)(v:Int):decide (0≤bJ (fun x=>decide (x.getD 0 0=v)) sk)=(aQ sk 0).contains v:=by
 have:=lZ (fun x:List Int=>decide (x.getD 0 0=v)) sk
 rw [show decide (0≤bJ (fun x=>decide (x.getD 0 0=v)) sk)=decide (bJ (fun x=>decide (x.getD 0 0=v)) sk ≥ 0) from rfl,this]
 unfold aQ;rw [Bool.eq_iff_iff];simp [List.any_eq_true,List.contains_iff_mem,Bs]
theorem bPd(sk:Lqq)(a b c d e f:Int):inB sk [a,b,c,d,e,f]=if b≤4 then (aQ sk 0).contains d else d == 0:=rfl
theorem r6(dl:Int)(sk dc:Lqq)(us:uni 2 sk)(ls:sk.length≤1000)(hu:uni 6 dc)(hl:dc.length≤1000):(dc.all (inB sk)=false∧∃ i,aE Tp 0 (sub (cd Tryz.f31) [1,1,1,1,1,1,1,0,1,0,0]) (eX dl sk dc 0) .ret (bS (eX dl sk dc i) [(2,.p (aA 1))]))∨(dc.all (inB sk)=true∧aE Tp 0 (sub (cd Tryz.f31) [1,1,1,1,1,1,1,0,1,0,0]) (eX dl sk dc 0) (.exit 12) (eX dl sk dc dc.length)):=by
 rcases aE.find (P:=Tp) (k:=0) (b:=(sub (cd Tryz.f31) [1,1,1,1,1,1,1,0,1,0,0])) (fun i=>eX dl sk dc i) (fun i _=>bS (eX dl sk dc i) [(2,.p (aA 1))]) (eX dl sk dc dc.length) .ret (.exit 12) (by simp) (by simp) (fun x => !inB sk x) dc
  (fun i x hx hp=>by
   obtain ⟨a,b,c,d,e,f,rfl⟩:=A6 (hu _ (Bi hx));have hp:inB sk [a,b,c,d,e,f]=true:=by simpa using hp
   have:=aO hx;rw [bPd] at hp
   by_cases hb:b≤4
   ·rw [if_pos hb,← aZg] at hp
    exact bGj (by omega) hx hu hb (by omega) us ls (of_decide_eq_true hp) (aH (by omega)) rfl
   ·rw [if_neg hb] at hp
    exact bGh (by omega) hx hu (by omega) (by simpa using hp) (by omega) (aH (by omega)) rfl)
  (fun i x hx hp=>by
   obtain ⟨a,b,c,d,e,f,rfl⟩:=A6 (hu _ (Bi hx));have hp:inB sk [a,b,c,d,e,f]=false:=by simpa using hp
   have:=aO hx;rw [bPd] at hp
   by_cases hb:b≤4
   ·rw [if_pos hb,← aZg] at hp
    have:=of_decide_eq_false hp;exact bGi (by omega) hx hu hb (by omega) us ls (by omega)
   ·rw [if_neg hb] at hp
    exact bGg (by omega) hx hu (by omega) (by simpa using hp))
  (bGk (by omega)) with ⟨i,x,h1,h2,h3,h4⟩ | ⟨h1,h2,h3⟩
 ·exact .inl ⟨by rw [← aCk,eF h2];simp,i,h4⟩
 ·exact .inr ⟨by rw [List.all_eq_not_any_not,h2];rfl,h3⟩
theorem bPe(a b c d e f:Int):orB [a,b,c,d,e,f]=if b≤4 then f == 0 else within f 1 (a-1):=rfl
theorem r7(dl:Int)(sk dc:Lqq)(hu:uni 6 dc)(hl:dc.length≤1000)(hr:∀ x∈dc,inR (x.getD 0 0-1)):(dc.all orB=false∧∃ i,aE Tp 0 (sub (cd Tryz.f31) [1,1,1,1,1,1,1,1,0,1,0,0]) (fJ dl sk dc 0) .ret (bS (fJ dl sk dc i) [(2,.p (aA 4))]))∨(dc.all orB=true∧aE Tp 0 (sub (cd Tryz.f31) [1,1,1,1,1,1,1,1,0,1,0,0]) (fJ dl sk dc 0) (.exit 14) (fJ dl sk dc dc.length)):=by
 rcases aE.find (P:=Tp) (k:=0) (b:=(sub (cd Tryz.f31) [1,1,1,1,1,1,1,1,0,1,0,0])) (fun i=>fJ dl sk dc i) (fun i _=>bS (fJ dl sk dc i) [(2,.p (aA 4))]) (fJ dl sk dc dc.length) .ret (.exit 14) (by simp) (by simp) (fun x => !orB x) dc
  (fun i x hx hp=>by
   have hin:=hr x (Bi hx);obtain ⟨a,b,c,d,e,f,rfl⟩:=A6 (hu _ (Bi hx));have hin:inR (a-1):=hin;have hp:orB [a,b,c,d,e,f]=true:=by simpa using hp
   have:=aO hx;rw [bPe] at hp
   by_cases hb:b≤4
   ·rw [if_pos hb] at hp
    exact bGm (by omega) hx hu (by omega) (by simpa using hp) hb (aH (by omega)) rfl
   ·rw [if_neg hb] at hp
    exact bGo (by omega) hx hu (by omega) (by omega) hin (jY hp) (aH (by omega)) rfl)
  (fun i x hx hp=>by
   have hin:=hr x (Bi hx);obtain ⟨a,b,c,d,e,f,rfl⟩:=A6 (hu _ (Bi hx));have hin:inR (a-1):=hin;have hp:orB [a,b,c,d,e,f]=false:=by simpa using hp
   have:=aO hx;rw [bPe] at hp
   by_cases hb:b≤4
   ·rw [if_pos hb] at hp
    exact bGl (by omega) hx hu (by omega) (by simpa using hp)
   ·rw [if_neg hb] at hp
    exact bGn (by omega) hx hu (by omega) (by omega) hin (aQa hp))
  (bGp (by omega)) with ⟨i,x,h1,h2,h3,h4⟩ | ⟨h1,h2,h3⟩
 ·exact .inl ⟨by rw [← aCk,eF h2];simp,i,h4⟩
 ·exact .inr ⟨by rw [List.all_eq_not_any_not,h2];rfl,h3⟩
theorem aEr(dl:Int)(sk dc:Lqq)(us:uni 2 sk)(ud:uni 6 dc){base:Nat}:FV Tp 31 [.p (.agg (bB dl sk dc))] base (.p (aA (jQ dl sk dc))) []:=by
 unfold jQ
 by_cases h1:(sk.length:Int)<1
 ·rw [if_pos (.inl (by unfold within;rw [decide_eq_false (by omega)];rfl))];exact cCf h1
 by_cases h2:(30:Int)<(sk.length:Int)
 ·rw [if_pos (.inl (by unfold within;rw [decide_eq_false (p:=(sk.length:Int)≤30) (by omega),Bool.and_false]))];exact cCg (by omega) h2
 by_cases h3:(40:Int)<(dc.length:Int)
 ·rw [if_pos (.inr h3)];exact cCh (by omega) (by omega) h3
 have hw:within (sk.length:Int) 1 30=true:=bV.2 (by omega)
 rw [if_neg (by rw [hw];simp;omega)]
 cases h4:within dl 0 10000 with
 | false=>rw [if_pos (.inl rfl)];exact cCi (by omega) (by omega) (by omega) (aQa h4)
 | true =>
 have o4:=jY h4;have a1:(1:Int)≤(sk.length:Int):=by omega
 have a2:(sk.length:Int)≤30:=by omega
 have a3:(dc.length:Int)≤40:=by omega
 rcases r0 dl sk dc us (by omega) with ⟨q0,i0,L0⟩ | ⟨q0,L0⟩
 ·rw [if_pos (.inr (.inl q0))];exact bUx a1 a2 a3 o4 L0
 rcases r1 dl sk dc ud (by omega) with ⟨q1,i1,L1⟩ | ⟨q1,L1⟩
 ·rw [if_pos (.inr (.inr q1))];exact cCo a1 a2 a3 o4 L0 L1
 rw [if_neg (by rw [q0,q1];simp)]
 rcases rso dl sk dc us (by omega) with ⟨q2,i2,L2⟩ | ⟨q2,L2⟩
 ·rw [if_pos (.inl q2)];exact cCn a1 a2 a3 o4 L0 L1 L2
 rcases rdo dl sk dc ud (by omega) with ⟨q3,i3,L3⟩ | ⟨q3,L3⟩
 ·rw [if_pos (.inr q3)];exact cCm a1 a2 a3 o4 L0 L1 L2 L3
 rw [if_neg (by simp [q2,q3])]
 rcases r6 dl sk dc us (by omega) ud (by omega) with ⟨q6,i6,L6⟩ | ⟨q6,L6⟩
 ·rw [if_pos q6];exact cCl a1 a2 a3 o4 L0 L1 L2 L3 L6
 rw [if_neg (by rw [q6];simp)]
 have hr:∀ x∈dc,inR (x.getD 0 0-1):=fun x hx=>by
  have:=iB.1 (gJ.1 q1 x hx);unfold inR;omega
 rcases r7 dl sk dc ud (by omega) hr with ⟨q7,i7,L7⟩ | ⟨q7,L7⟩
 ·rw [if_pos q7];exact cCk a1 a2 a3 o4 L0 L1 L2 L3 L6 L7
 rw [if_neg (by rw [q7];simp)]
 exact cCj a1 a2 a3 o4 L0 L1 L2 L3 L6 L7
end
section
variable {dl Hd He:Int}{o q dc sk Dp:Lqq}{b n b' n':Nat}
variable {dl:Int}{sk dc:Lqq}

noncomputable abbrev aIo:Code:=sub (cd Tryz.f36) [1,1,0,1,0,0]
noncomputable abbrev aIp:Code:=sub (cd Tryz.f36) [1,1,1,0,1,0,0]
theorem aLj{r:Int}(dl:Int)(sk dc:Lqq)(v:Int)(hu:uni 2 sk)(hl:sk.length≤1000)(h:bJ (fun x=>decide (x.getD 0 0=v)) sk=r){base:Nat}:FV Tp 92 [.p (.agg (bB dl sk dc)),.p (aA v)] base (pI r) []:=by
 have q:=aUu dl sk dc v hu hl (base:=base);rw [h] at q
 exact q
theorem bPb{r:Int}(dl:Int)(sk dc:Lqq)(v:Int)(hu:uni 6 dc)(hl:dc.length≤1000)(h:bJ (fun x=>decide (x.getD 0 0=v)) dc=r){base:Nat}:FV Tp 101 [.p (.agg (bB dl sk dc)),.p (aA v)] base (pI r) []:=by
 have q:=cCe dl sk dc v hu hl (base:=base);rw [h] at q
 exact q
def mM(dl:Int)(sk:Lqq)(dc:Lqq)(b:Nat)(on:Nat)(oc:List PV):St:=⟨fr 59 [(1,(.ptr 0 0)),(2,(.ptr 1 0)),(3,(.ptr 2 0)),(4,(pI (b:Int)))],[some (.box 61 [(pI dl),(.p (fS sk)),(.p (fS dc))]),some (.box 61 [(pI 0),(.p bX),(.p bX)]),some (.box 61 [(pI dl),(.own 3),(.p bX)]),some (.row 73 on oc)]⟩
def mO(dl:Int)(sk:Lqq)(dc:Lqq)(Dp:Lqq)(n:Nat)(qn:Nat)(qc:List PV):St:=⟨fr 59 [(1,(.ptr 0 0)),(2,(.ptr 1 0)),(3,(.ptr 2 0)),(6,(pI (n:Int)))],[some (.box 61 [(pI dl),(.p (fS sk)),(.p (fS dc))]),some (.box 61 [(pI 0),(.p bX),(.p bX)]),some (.box 61 [(pI dl),(.own 3),(.own 4)]),some (.row 73 Dp.length (Dp.flatten.map aA)),some (.row 119 qn qc)]⟩
theorem cBz{Wc:Nat}{Q9:Nat}{M6:Lqq}(hl0:aE Tp 0 aIo (mM dl sk dc 1 0 []) (.exit 0) (mM dl sk dc Wc Dp.length (Dp.flatten.map aA)))(A2:aE Tp 0 aIp (mO dl sk dc Dp 1 0 []) (.exit 2) (mO dl sk dc Dp Q9 M6.length (M6.flatten.map aA))){base:Nat}:FV Tp 36 [(.p (.agg (bB dl sk dc)))] base (.p (.agg (bB dl Dp M6))) []:=FV.frz (FMM.fi 0 ⟨[],[],[3,4],[]⟩ func36 [hl0.k 8 (gN [0,1,5,1,8,22] [0,1,2,3] [(102001,73)]),A2.k 4 (gN [0,1,4,2,7,51] [0,1,2,3,4] [(102002,119)])] (gc A2.code (gc hl0.code gn))) (by kernel_rfl)
theorem bEz{Ab Ac:Int}{o':Lqq}(h0:(b:Int)≤999)(h1:uni 2 sk)(h2:sk.length≤1000)(h3:bJ (fun x=>decide (x.getD 0 0=(b:Int))) sk=Hd)(h4:(0:Int)≤Hd)(h5:sk[Hd.toNat]? = some [Ab,Ac])(h6:0≤Hd)(h7:[(aA Ab),(aA Ac)].length=1*2∧o.length+1≤1000000)(h8:inR (((b+1):Nat):Int))(Pb:b'=(b+1))(B1:o'.length=(o.length+1))(B2:o'.flatten.map aA=((o.flatten.map aA)++[(aA Ab),(aA Ac)])):aC Tp 0 aIo (mM dl sk dc b o.length (o.flatten.map aA)) .normal (mM dl sk dc b' o'.length (o'.flatten.map aA)):=by
 subst Pb;rw [B1,B2];exact aC.fi (gI [0,1,5,1,8,22] [0,1,2,5]) [bT,.c (pI Hd) [],bT,.x (.agg [(aA Ab),(aA Ac)])] (gc h8 (gc h7 (gt ([(aA Ab),(aA Ac)].length=2) (by first | decide | simp) (gfz h1 h6 h5 (gc (mA h4) (gc (fk 4 (aLj dl sk dc (b:Int) h1 h2 h3) rfl) (gc (mA h0) gn)))))))
theorem bFa(h0:(b:Int)≤999)(h1:uni 2 sk)(h2:sk.length≤1000)(h3:bJ (fun x=>decide (x.getD 0 0=(b:Int))) sk=Hd)(h4:Hd<0)(h5:inR (((b+1):Nat):Int))(Pb:b'=(b+1)):aC Tp 0 aIo (mM dl sk dc b o.length (o.flatten.map aA)) .normal (mM dl sk dc b' o.length (o.flatten.map aA)):=by
 subst Pb;exact aC.fi (gI [0,1,5,1,8,22] [0,1,2,3]) [bT,.c (pI Hd) [],bF] (gc h5 (gc (jG h4) (gc (fk 4 (aLj dl sk dc (b:Int) h1 h2 h3) rfl) (gc (mA h0) gn))))
theorem bFb(h0:(999:Int)<(b:Int)):aC Tp 0 aIo (mM dl sk dc b o.length (o.flatten.map aA)) (.exit 0) (mM dl sk dc b o.length (o.flatten.map aA)):=aC.fi (gI [0,1,5,1,8,22] [0,1,2,3]) [bF] (gc (jG h0) gn)
theorem bFc{Ag An Au Ao Al Jy:Int}{q':Lqq}(h0:(n:Int)≤9999)(h1:(q.length:Int)<(dc.length:Int))(h2:uni 6 dc)(h3:dc.length≤1000)(h4:bJ (fun x=>decide (x.getD 0 0=(n:Int))) dc=He)(h5:(0:Int)≤He)(h6:dc[He.toNat]? = some [Ag,An,Au,Ao,Al,Jy])(h7:0≤He)(h8:[(aA Ag),(aA An),(aA Au),(aA Ao),(aA Al),(aA Jy)].length=1*6∧q.length+1≤1000000)(h9:inR (((n+1):Nat):Int))(Jw:n'=(n+1))(Jz:q'.length=(q.length+1))(J0:q'.flatten.map aA=((q.flatten.map aA)++[(aA Ag),(aA An),(aA Au),(aA Ao),(aA Al),(aA Jy)])):aC Tp 0 aIp (mO dl sk dc Dp n q.length (q.flatten.map aA)) .normal (mO dl sk dc Dp n' q'.length (q'.flatten.map aA)):=by
 subst Jw;rw [Jz,J0];exact aC.fi (gI [0,1,4,2,7,51] [0,1,2,3,6]) (rT 9++[.c (pI He) [],bT,.x (dcE Ag An Au Ao Al Jy)]) (gc h9 (gc h8 (gt ([(aA Ag),(aA An),(aA Au),(aA Ao),(aA Al),(aA Jy)].length=6) (by first | decide | simp) (gfz h2 h7 h6 (gc (mA h5) (gc (fk 5 (bPb dl sk dc (n:Int) h2 h3 h4) rfl) (gc (aI h1) (Eu (mA h0) gn))))))))
theorem bFd(h0:(n:Int)≤9999)(h1:(q.length:Int)<(dc.length:Int))(h2:uni 6 dc)(h3:dc.length≤1000)(h4:bJ (fun x=>decide (x.getD 0 0=(n:Int))) dc=He)(h5:He<0)(h6:inR (((n+1):Nat):Int))(Jw:n'=(n+1)):aC Tp 0 aIp (mO dl sk dc Dp n q.length (q.flatten.map aA)) .normal (mO dl sk dc Dp n' q.length (q.flatten.map aA)):=by
 subst Jw;exact aC.fi (gI [0,1,4,2,7,51] [0,1,2,3,4]) (rT 9++[.c (pI He) [],bF]) (gc h6 (gc (jG h5) (gc (fk 5 (bPb dl sk dc (n:Int) h2 h3 h4) rfl) (gc (aI h1) (Eu (mA h0) gn)))))
theorem bFe(h0:(n:Int)≤9999)(h1:(dc.length:Int)≤(q.length:Int)):aC Tp 0 aIp (mO dl sk dc Dp n q.length (q.flatten.map aA)) (.exit 2) (mO dl sk dc Dp n q.length (q.flatten.map aA)):=aC.fi (gI [0,1,4,2,7,51] [0,1,2,3,4]) (rT 8++[bF]) (gc (aN h1) (Eu (mA h0) gn))
theorem bFf(h0:(9999:Int)<(n:Int)):aC Tp 0 aIp (mO dl sk dc Dp n q.length (q.flatten.map aA)) (.exit 2) (mO dl sk dc Dp n q.length (q.flatten.map aA)):=aC.fi (gI [0,1,4,2,7,51] [0,1,2,3,4]) (rF 8) (Eu (jG h0) gn)
theorem uU{l:Lqq}{p:List Int→Bool}(h:∀ x∈l,p x=false):l.filter p=[]:=List.filter_eq_nil_iff.2 fun x hx=>by rw [h x hx];simp
theorem wS(n:Int):∀ {l:Lqq},l.Pairwise (fun a b=>a.getD 0 0≤b.getD 0 0)→l.filter (fun x=>decide (x.getD 0 0<n+1))=l.filter (fun x=>decide (x.getD 0 0<n))++l.filter (fun x=>decide (x.getD 0 0=n))
 | [],_=>rfl
 | x::l,h=>by
  rw [aKy] at h
  have ih:=wS n h.2
  rcases Int.lt_trichotomy (x.getD 0 0) n with hx | hx | hx
  ·rw [List.filter_cons_of_pos (by rw [decide_eq_true_iff];omega),List.filter_cons_of_pos (by rw [decide_eq_true_iff];omega),List.filter_cons_of_neg (by rw [decide_eq_true_iff];omega),ih]
   rfl
  ·rw [List.filter_cons_of_pos (by rw [decide_eq_true_iff];omega),List.filter_cons_of_neg (by rw [decide_eq_true_iff];omega),List.filter_cons_of_pos (by rw [decide_eq_true_iff];omega),ih,
    uU (l:=l) (p:=fun x=>decide (x.getD 0 0<n)) (fun y hy=>decide_eq_false (by have:=h.1 y hy;omega))]
   rfl
  ·rw [List.filter_cons_of_neg (by rw [decide_eq_true_iff];omega),List.filter_cons_of_neg (by rw [decide_eq_true_iff];omega),List.filter_cons_of_neg (by rw [decide_eq_true_iff];omega),ih]
theorem aPw:∀ {l:Lqq} {x:List Int},(aQ l 0).Nodup→x∈l→l.filter (fun y=>decide (y.getD 0 0=x.getD 0 0))=[x]
 | [],x,_,h=>by cases h
 | y::l,x,hn,h=>by
  have Fe:=hn;unfold aQ at hn
  rw [fZ,List.nodup_cons] at hn
  rcases fU.1 h with rfl | h
  ·rw [List.filter_cons_of_pos (by simp),uU (fun z hz=>decide_eq_false fun e=>hn.1 (Bs.2 ⟨z,hz,e⟩))]
  ·rw [List.filter_cons_of_neg (by rw [decide_eq_true_iff];exact fun e=>hn.1 (Bs.2 ⟨x,h,e.symm⟩))]
   exact aPw hn.2 h
def upto(f:Lqq)(n:Nat):Lqq:=(aB f).filter fun x=>decide (x.getD 0 0<(n:Int))
theorem aBf{f:Lqq}(h:(aQ f 0).Nodup):(aQ (aB f) 0).Nodup:=((dY f).map _).nodup_iff.2 h
theorem aPx{f:Lqq}(hn:(aQ f 0).Nodup){n:Nat}{x:List Int}(hx:x∈f)(hk:x.getD 0 0=(n:Int)):upto f (n+1)=upto f n++[x]:=by
 unfold upto;have e:((n+1:Nat):Int)=(n:Int)+1:=by omega
 rw [e,wS (n:Int) (iU f)];have:=aPw (aBf hn) ((dY f).mem_iff.2 hx);rw [hk] at this
 rw [this]
theorem aIq{f:Lqq}{n:Nat}(h:∀ x∈f,x.getD 0 0≠(n:Int)):upto f (n+1)=upto f n:=by
 unfold upto;have e:((n+1:Nat):Int)=(n:Int)+1:=by omega
 rw [e,wS (n:Int) (iU f),uU (l:=aB f) (p:=fun x=>decide (x.getD 0 0=(n:Int))) (fun x hx=>decide_eq_false (h x ((dY f).mem_iff.1 hx))),List.append_nil]
theorem aPy{f:Lqq}{n:Nat}(h:∀ x∈f,x.getD 0 0<(n:Int)):upto f n=aB f:=List.filter_eq_self.2 fun x hx=>decide_eq_true (h x ((dY f).mem_iff.1 hx))
theorem bPc{f:Lqq}{n:Nat}(h:f.length≤(upto f n).length):upto f n=aB f:=by
 have h1:(upto f n).length≤(aB f).length:=mI _ _;have h2:=eG f;exact (List.filter_sublist).eq_of_length (by unfold upto at h h1;omega)
theorem aIr{f:Lqq}(h:∀ x∈f,1≤x.getD 0 0):upto f 1=[]:=uU fun x hx=>decide_eq_false (by have:=h x ((dY f).mem_iff.1 hx);omega)
theorem aZe(f:Lqq)(n:Nat):(upto f n).length≤f.length:=by
 have h1:(upto f n).length≤(aB f).length:=mI _ _;rw [eG] at h1;exact h1
theorem aZf{f:Lqq}{v:Int}(h:0≤bJ (fun x=>decide (x.getD 0 0=v)) f):∃ x,f[(bJ (fun x=>decide (x.getD 0 0=v)) f).toNat]? = some x∧x.getD 0 0=v:=by
 unfold bJ at h ⊢
 cases hq:f.findIdx? fun x=>decide (x.getD 0 0=v) with
 | none=>rw [hq] at h;simp at h
 | some i =>
  obtain ⟨hi,hp,_⟩:=List.findIdx?_eq_some_iff_getElem.1 hq;exact ⟨f[i],by simp [Av hi],of_decide_eq_true hp⟩
theorem aPz{f:Lqq}{v:Int}(h:bJ (fun x=>decide (x.getD 0 0=v)) f<0):∀ x∈f,x.getD 0 0≠v:=by
 unfold bJ at h
 cases hq:f.findIdx? fun x=>decide (x.getD 0 0=v) with
 | none=>intro x hx e;have:=List.findIdx?_eq_none_iff.1 hq x hx;rw [decide_eq_true e] at this;cases this
 | some i=>rw [hq] at h;simp at h;omega
theorem aLk(dl:Int)(sk dc:Lqq)(h:bR dl sk dc){base:Nat}:FV Tp 36 [.p (.agg (bB dl sk dc))] base (.p (.agg (bB dl (aB sk) (aB dc)))) []:=by
 have l1:=h.len;have l2:=h.len2;have k1:∀ x∈sk,1≤x.getD 0 0∧x.getD 0 0≤999:=fun x hx=>(aLm.1 (h.hsk x hx)).1
 have k2:∀ x∈dc,1≤x.getD 0 0∧x.getD 0 0≤9999:=fun x hx=>(iB.1 (h.hdc x hx)).1
 have L0:aE Tp 0 aIo (mM dl sk dc 1 0 []) (.exit 0) (mM dl sk dc 1000 (aB sk).length ((aB sk).flatten.map aA)):=by
  have L:=aE.count (P:=Tp) (k:=0) (b:=aIo) (e := .exit 0) (R:=mM dl sk dc 1000 (aB sk).length ((aB sk).flatten.map aA)) 999 (fun i=>mM dl sk dc (i+1) (upto sk (i+1)).length ((upto sk (i+1)).flatten.map aA))
   (fun i hi=>by
    by_cases hx:0≤bJ (fun x=>decide (x.getD 0 0=(((i+1:Nat)):Int))) sk
    ·obtain ⟨x,h1,h2⟩:=aZf hx
     obtain ⟨a,b,rfl⟩:=len2 (h.us _ (Bi h1));have e:=aPx h.ns (Bi h1) h2;have:=aZe sk (i+1);exact bEz (b:=i+1) (o:=upto sk (i+1)) (o':=upto sk (i+1+1)) (by omega) h.us (by omega) rfl hx h1 hx ⟨rfl,by omega⟩ (aH (by omega)) rfl (by rw [e];simp) (by rw [e];exact (uV (l:=upto sk (i+1)) (x:=[a,b])).symm)
    ·rw [aIq (n:=i+1) (aPz (by omega))]
     exact bFa (b:=i+1) (by omega) h.us (by omega) rfl (by omega) (aH (by omega)) rfl)
   (by rw [show upto sk (999+1)=aB sk from aPy fun x hx=>by have:=k1 x hx;omega];exact bFb (by omega)) (by simp)
  have e:=aIr (f:=sk) fun x hx=>(k1 x hx).1
  simp only [gU,e] at L
  exact L
 have L1:∀ d i,i+d=10000→1≤i→∃ i',aE Tp 0 aIp (mO dl sk dc (aB sk) i (upto dc i).length ((upto dc i).flatten.map aA)) (.exit 2) (mO dl sk dc (aB sk) i' (aB dc).length ((aB dc).flatten.map aA)):=by
  intro d
  induction d with
  | zero =>
   intro i hi h1;rw [show upto dc i=aB dc from aPy fun x hx=>by have:=k2 x hx;omega]
   exact ⟨i,.exit (bFf (by omega)) (by simp)⟩
  | succ d ih =>
   intro i hi h1
   by_cases hl:dc.length≤(upto dc i).length
   ·rw [bPc hl]
    have:=eG dc;exact ⟨i,.exit (bFe (by omega) (by omega)) (by simp)⟩
   ·obtain ⟨i',ih⟩:=ih (i+1) (by omega) (by omega)
    refine ⟨i',.step ?_ ih⟩
    by_cases hx:0≤bJ (fun x=>decide (x.getD 0 0=((i:Nat):Int))) dc
    ·obtain ⟨x,h1,h2⟩:=aZf hx
     obtain ⟨a,b,c,d,e,f,rfl⟩:=A6 (h.ud _ (Bi h1));have e:=aPx h.nd (Bi h1) h2;have:=aZe dc i;exact bFc (q:=upto dc i) (q':=upto dc (i+1)) (by omega) (by omega) h.ud (by omega) rfl hx h1 hx ⟨rfl,by omega⟩ (aH (by omega)) rfl (by rw [e];simp) (by rw [e];exact (uV (l:=upto dc i)).symm)
    ·rw [aIq (n:=i) (aPz (by omega))]
     exact bFd (by omega) (by omega) h.ud (by omega) rfl (by omega) (aH (by omega)) rfl
 obtain ⟨i',L1⟩:=L1 9999 1 (by omega) (by omega)
 rw [aIr (f:=dc) fun x hx=>(k2 x hx).1] at L1
 exact cBz L0 L1
end
section
mutual
def wkP:PV→PV
 | .v (.slice none 0 0) => .sl 0 []
 | .agg cs => .agg (bPs cs)
 | x=>x
def bPs:List PV→List PV
 | []=>[]
 | x::r=>wkP x::bPs r
end
theorem aQe:∀ l:List PV,bPs l=l.map wkP
 | []=>by simp [bPs]
 | x::r=>by rw [bPs,aQe r];rfl
def Pt:AV→AV
 | .p x => .p (wkP x)
 | x=>x
theorem bWd{F:Nat→Prop}{w:World}{x:PV}{u:Value}(h:cM F w x u):cM F w (wkP x) u:=by
 induction h with
 | v x =>
  unfold wkP
  split
  ·rename_i e
   cases e;exact .sl 0 [] none 0 (fun _=>undef) (dG _) (Nat.zero_le _) (fun i h=>by simp at h) (fun i h=>by simp at h) (fun i h=>by simp at h)
  ·rename_i e;cases e
  ·exact .v x
 | sl n cs p cap us h1 h2 h3 h4 h5 _=>unfold wkP;exact .sl n cs p cap us h1 h2 h3 h4 h5
 | agg cs vs h0 h1 _ ih =>
  unfold wkP;rw [aQe];exact .agg _ vs (fun i hi=>h0 i (by simpa using hi)) (by simpa using h1) (fun i hi=>by
   have:=ih i (by simpa using hi)
   simpa using this)
 | mp es b cl arr us hb h0 h1 h2 h3 _=>unfold wkP;exact .mp es b cl arr us hb h0 h1 h2 h3
 | rp cs off b o us h1 h2 h3 _=>unfold wkP;exact .rp cs off b o us h1 h2 h3
theorem bWe{C:Cx}{M:Mem}{w:World}{x:AV}{u:Value}(h:Rep C M w x u):Rep C M w (Pt x) u:=by
 cases h with
 | p x u h=>exact .p _ _ (bWd h)
 | _=>unfold Pt;constructor <;> assumption
theorem dD.wk{C:Cx}{M:Mem}{w:World}:∀ {args:List AV} {us:List Value},dD C M w args us→dD C M w (args.map Pt) us
 | [],_,h=>by cases h;exact .nil
 | x::l,_,h=>by
  cases h with
  | cons _ _ u us h1 h2=>exact .cons _ _ _ _ (bWe h1) h2.wk
theorem FMM.argwk{P:Program}{f:Nat}{args A7:List AV}{r:AV}{M M':Mem}(h:FMM P f A7 M r M')(e:args.map Pt=A7):FMM P f args M r M':=fun C w us hus hM n=>by
 subst e;exact h C w us hus.wk hM n
theorem FV.argwk{P:Program}{f base:Nat}{args A7:List AV}{y:AV}{L:Upd}(h:FV P f A7 base y L)(e:args.map Pt=A7):FV P f args base y L:=by
 obtain ⟨r,M1,h1,h2⟩:=h;exact ⟨r,M1,h1.argwk e,h2⟩
end
section
variable {r0:Bool}{m n el:Int}{ec tk:Lqq}{base:Nat}
variable {dl:Int}{sk dc:Lqq}

theorem cBn(h0:dl=el)(h1:uni 2 sk)(h2:uni 2 tk)(h3:sk.length≤1000)(h4:(decide (sk=tk))=true)(h5:uni 6 dc)(h6:uni 6 ec)(h7:dc.length≤1000)(A4:r0=(decide (dc=ec))):FV Tp 35 [(.p (.agg (bB dl sk dc))),(.p (.agg (bB el tk ec)))] base (pB r0) []:=by
 subst A4;have k1:=fk 2 (bPf sk tk h1 h2 h3) rfl;have k2:=fk 2 (cDe dc ec h5 h6 h7) rfl;exact FV.fi func35 (rT 5++[k1.o]++rT 6++[k2.o,bT]) (gc h4 (gc k2 (Bo h4 (gc (cH h0) (gc k1 (Bo (cH h0) gn))))))
theorem cBo(h0:dl=el)(h1:uni 2 sk)(h2:uni 2 tk)(h3:sk.length≤1000)(h4:(decide (sk=tk))=false):FV Tp 35 [(.p (.agg (bB dl sk dc))),(.p (.agg (bB el tk ec)))] base (pB false) []:=have k1:=fk 2 (bPf sk tk h1 h2 h3) rfl;FV.fi func35 (rT 5++[k1.o,bT]++rF 6) (Fx h4 (gc (cH h0) (gc k1 (Bo (cH h0) gn))))
theorem cBp(h0:dl≠el):FV Tp 35 [(.p (.agg (bB dl sk dc))),(.p (.agg (bB el tk ec)))] base (pB false) []:=FV.fi func35 (rF 6) (Fx (aU h0) gn)
theorem aUs(dl:Int)(sk dc:Lqq)(el:Int)(tk ec:Lqq)(u1:uni 2 sk∧sk.length≤1000)(u2:uni 6 dc∧dc.length≤1000)(v1:uni 2 tk)(v2:uni 6 ec){base:Nat}:FV Tp 35 [.p (.agg (bB dl sk dc)),.p (.agg (bB el tk ec))] base (pB (decide (dl=el∧sk=tk∧dc=ec))) []:=by
 by_cases h1:dl=el
 ·by_cases h2:sk=tk
  ·exact cBn h1 u1.1 v1 u1.2 (decide_eq_true h2) u2.1 v2 u2.2 (by simp [h1,h2])
  ·rw [decide_eq_false (fun h=>h2 h.2.1)];exact cBo h1 u1.1 v1 u1.2 (decide_eq_false h2)
 ·rw [decide_eq_false (fun h=>h1 h.1)];exact cBp h1
theorem cBq(h0:n<(sk.length:Int))(h1:(sk.length:Int)≤30):FV Tp 29 [(.p (.agg (bB dl sk dc))),(pI n),(pI m)] base (pB true) []:=FV.fi func29 (rT 10) (Bo (mA h1) (Bo (aI h0) gn))
theorem cBr(h0:n<(sk.length:Int))(h1:(30:Int)<(sk.length:Int))(h2:(35:Int)<(sk.length:Int)):FV Tp 29 [(.p (.agg (bB dl sk dc))),(pI n),(pI m)] base (pB true) []:=FV.fi func29 (rT 5++rF 5++rT 8) (Eu (aI h2) (Bo (jG h1) (Bo (aI h0) gn)))
theorem cBs(h0:n<(sk.length:Int))(h1:(30:Int)<(sk.length:Int))(h2:(sk.length:Int)≤35)(h3:m<(dc.length:Int))(h4:(dc.length:Int)≤40):FV Tp 29 [(.p (.agg (bB dl sk dc))),(pI n),(pI m)] base (pB true) []:=FV.fi func29 (rT 5++rF 11++[bT,bT,bT,bT,bF,bT,bF]++rT 5) (Bo (mA h4) (gc (aN h2) (gc (aI h3) (gc (aN h2) (Aw (aI h3) (Fx (aN h2) (Bo (jG h1) (Bo (aI h0) gn))))))))
theorem cBt(h0:n<(sk.length:Int))(h1:(30:Int)<(sk.length:Int))(h2:(sk.length:Int)≤35)(h3:m<(dc.length:Int))(h4:(40:Int)<(dc.length:Int))(A4:r0=(decide ((dc.length:Int) > 45))):FV Tp 29 [(.p (.agg (bB dl sk dc))),(pI n),(pI m)] base (pB r0) []:=by
 subst A4;exact FV.fi func29 (rT 5++rF 11++[bT,bT,bT,bT,bF,bT]++rF 6) (Bo (jG h4) (gc (aN h2) (gc (aI h3) (gc (aN h2) (Aw (aI h3) (Fx (aN h2) (Bo (jG h1) (Bo (aI h0) gn))))))))
theorem cBu(h0:n<(sk.length:Int))(h1:(30:Int)<(sk.length:Int))(h2:(sk.length:Int)≤35)(h3:(dc.length:Int)≤m)(A4:r0=(decide ((dc.length:Int) > 45))):FV Tp 29 [(.p (.agg (bB dl sk dc))),(pI n),(pI m)] base (pB r0) []:=by
 subst A4;exact FV.fi func29 (rT 5++rF 18) (gc (aN h2) (gc (aN h3) (gc (aN h2) (Aw (aN h3) (Fx (aN h2) (Bo (jG h1) (Bo (aI h0) gn)))))))
theorem cBv(h0:(sk.length:Int)≤n)(h1:(35:Int)<(sk.length:Int)):FV Tp 29 [(.p (.agg (bB dl sk dc))),(pI n),(pI m)] base (pB true) []:=FV.fi func29 (rF 5++rT 8) (Eu (aI h1) (Bo (aN h0) gn))
theorem cBw(h0:(sk.length:Int)≤n)(h1:(sk.length:Int)≤35)(h2:m<(dc.length:Int))(h3:(dc.length:Int)≤40):FV Tp 29 [(.p (.agg (bB dl sk dc))),(pI n),(pI m)] base (pB true) []:=FV.fi func29 (rF 11++[bT,bT,bT,bT,bF,bT,bF]++rT 5) (Bo (mA h3) (gc (aN h1) (gc (aI h2) (gc (aN h1) (Aw (aI h2) (Fx (aN h1) (Bo (aN h0) gn)))))))
theorem cBx(h0:(sk.length:Int)≤n)(h1:(sk.length:Int)≤35)(h2:m<(dc.length:Int))(h3:(40:Int)<(dc.length:Int))(A4:r0=(decide ((dc.length:Int) > 45))):FV Tp 29 [(.p (.agg (bB dl sk dc))),(pI n),(pI m)] base (pB r0) []:=by
 subst A4;exact FV.fi func29 (rF 11++[bT,bT,bT,bT,bF,bT]++rF 6) (Bo (jG h3) (gc (aN h1) (gc (aI h2) (gc (aN h1) (Aw (aI h2) (Fx (aN h1) (Bo (aN h0) gn)))))))
theorem cBy(h0:(sk.length:Int)≤n)(h1:(sk.length:Int)≤35)(h2:(dc.length:Int)≤m)(A4:r0=(decide ((dc.length:Int) > 45))):FV Tp 29 [(.p (.agg (bB dl sk dc))),(pI n),(pI m)] base (pB r0) []:=by
 subst A4;exact FV.fi func29 (rF 18) (gc (aN h1) (gc (aN h2) (gc (aN h1) (Aw (aN h2) (Fx (aN h1) (Bo (aN h0) gn))))))
def tJ(sk dc:Lqq)(n m:Int):Bool:=decide ((n<(sk.length:Int)∧(sk.length:Int)≤30)∨(35:Int)<(sk.length:Int)∨(m<(dc.length:Int)∧(dc.length:Int)≤40)∨(45:Int)<(dc.length:Int))
theorem zP(dl:Int)(sk dc:Lqq)(n m:Int){base:Nat}:FV Tp 29 [.p (.agg (bB dl sk dc)),.p (aA n),.p (aA m)] base (pB (tJ sk dc n m)) []:=by
 have T:∀ {p:Prop} [Decidable p],p→true=decide p:=fun h=>(decide_eq_true h).symm
 by_cases h1:n<(sk.length:Int)
 ·by_cases h2:(sk.length:Int)≤30
  ·rw [show tJ sk dc n m=true from decide_eq_true (.inl ⟨h1,h2⟩)];exact cBq h1 h2
  by_cases h3:(35:Int)<(sk.length:Int)
  ·rw [show tJ sk dc n m=true from decide_eq_true (.inr (.inl h3))];exact cBr h1 (by omega) h3
  by_cases h4:m<(dc.length:Int)
  ·by_cases h5:(dc.length:Int)≤40
   ·rw [show tJ sk dc n m=true from decide_eq_true (.inr (.inr (.inl ⟨h4,h5⟩)))];exact cBs h1 (by omega) (by omega) h4 h5
   ·exact cBt h1 (by omega) (by omega) h4 (by omega) (by unfold tJ;rw [Bool.eq_iff_iff];simp only [decide_eq_true_eq];omega)
  ·exact cBu h1 (by omega) (by omega) (by omega) (by unfold tJ;rw [Bool.eq_iff_iff];simp only [decide_eq_true_eq];omega)
 ·by_cases h3:(35:Int)<(sk.length:Int)
  ·rw [show tJ sk dc n m=true from decide_eq_true (.inr (.inl h3))];exact cBv (by omega) h3
  by_cases h4:m<(dc.length:Int)
  ·by_cases h5:(dc.length:Int)≤40
   ·rw [show tJ sk dc n m=true from decide_eq_true (.inr (.inr (.inl ⟨h4,h5⟩)))];exact cBw (by omega) (by omega) h4 h5
   ·exact cBx (by omega) (by omega) h4 (by omega) (by unfold tJ;rw [Bool.eq_iff_iff];simp only [decide_eq_true_eq];omega)
  ·exact cBy (by omega) (by omega) (by omega) (by unfold tJ;rw [Bool.eq_iff_iff];simp only [decide_eq_true_eq];omega)
end
section

theorem aEq(dl:Int)(sk dc:Lqq)(h0:uni 2 sk)(h1:sk.length≤1000)(h2:uni 6 dc)(h3:dc.length≤1000){base:Nat}:FV Tp 27 [.p (.agg (bB dl sk dc))] base (.p (.agg (bB dl sk dc))) []:=cCp h0 h1 h2 h3
end
section
section
variable {α:Type} {E:α→List PV} {k:Nat}
theorem aCl(hE:∀ a,(E a).length=k)(l:List α):((l.map E).flatten).length=l.length*k:=by
 induction l with
 | nil=>simp
 | cons a l ih=>rw [fZ,vC,iF,hE,ih,nX,aGw];omega
theorem zR(hE:∀ a,(E a).length=k){l:List α}{i:Nat}{e:α}(h:l[i]? = some e):∃ a b,(l.map E).flatten=a++(E e++b)∧a.length=i*k:=by
 obtain ⟨hi,rfl⟩:=B3.1 h;refine ⟨((l.take i).map E).flatten,((l.drop (i+1)).map E).flatten,?_,?_⟩
 ·have:l=l.take i++(l[i]::l.drop (i+1)):=by rw [← aKx hi,aPm]
  have e2:=congrArg (fun l=>(l.map E).flatten) this
  simp only [fM,fZ,aPn,vC] at e2
  exact e2
 ·rw [aCl hE,mJ];congr 1;omega
theorem bI{l:List α}{i f:Nat}(hE:∀ a,(E a).length=k){e:α}{x:PV}(h:l[i]? = some e)(hx:(E e)[f]? = some x):((l.map E).flatten)[i*k+f]? = some x:=by
 obtain ⟨a,b,e1,e2⟩:=zR hE h;have hf:=(B3.1 hx).1;rw [e1,← e2,yD (by omega),Nat.add_sub_cancel_left,zL hf]
 exact hx
theorem wX{l:List α}{i:Nat}(hE:∀ a,(E a).length=k){e:α}(h:l[i]? = some e):i*k+k≤((l.map E).flatten).length:=by
 obtain ⟨a,b,e1,e2⟩:=zR hE h;rw [e1,iF,iF,hE,e2];omega
theorem nS{l:List α}{i:Nat}(hE:∀ a,(E a).length=k){e:α}(h:l[i]? = some e){x:PV}(hx:PV.agg (E e)=x):some (.agg ((((l.map E).flatten).drop (i*k)).take k):PV)=some x:=by
 obtain ⟨a,b,e1,e2⟩:=zR hE h;rw [e1,← e2,List.drop_left,List.take_left' (hE e),hx]
theorem lP{l:List α}{i:Int}(hE:∀ a,(E a).length=k)(hk:0<k)(h0:0≤i){e:α}(h:l[i.toNat]? = some e):0≤i∧i<(l.length:Int)∧i.toNat*k<((l.map E).flatten).length:=by
 have hi:=(B3.1 h).1;refine ⟨h0,by omega,?_⟩
 rw [aCl hE];exact Nat.mul_lt_mul_of_pos_right hi hk
end
end
section
variable {a c l o r u Dj A0 Ar A8 Dk Cu Dl Bl D9 Cw Bz:Bool}{b f i k m i' k' Iw Aa Ab Ac Ad Ae Af Ah Ag An Au Ao Al A9 Dm Ba Dn Hb Bb Co:Int}{q:List Int}{n n' Hc:Nat}
variable {dl:Int}{sk dc:Lqq}

noncomputable abbrev iM:Code:=sub (cd Tryz.f75) [1,1,0,1,0,0,1,0,0,1,1,1,1,1,1,0,1,0,0]
noncomputable abbrev wR:Code:=sub (cd Tryz.f75) [1,1,0,1,0,0]
noncomputable abbrev rN:Code:=sub (cd Tryz.f75) [1,1,0,1,0,0,1,0,0,1,1,1,1,1,1,1,1,0,1,0,0]
abbrev RS:=Bool × Bool × Bool × Bool × Int × Int × Int
def rsE(s:RS):List PV:=[blP s.1,blP s.2.1,blP s.2.2.1,blP s.2.2.2.1,aA s.2.2.2.2.1,aA s.2.2.2.2.2.1,aA s.2.2.2.2.2.2]
def gX(dl:Int)(sk:Lqq)(dc:Lqq)(q:List Int)(i:Int)(Ln:Nat)(Lc:List PV):St:=⟨fr 165 [(1,(.p (aG q))),(2,(.ptr 0 0)),(4,(.p bX)),(5,(.own 1)),(6,(pI i))],[some (.box 61 [(pI dl),(.p (fS sk)),(.p (fS dc))]),some (.row 121 Ln Lc)]⟩
theorem cBm{Bm:Int}{L'1:List RS}(h0:0≤(dc.length:Int)∧(dc.length:Int)≤(dc.length:Int)∧(dc.length:Int)≤1000000)(h1:inR ((dc.length:Int)-1))(Dc:aE Tp 0 wR (gX dl sk dc q ((dc.length:Int)-1) dc.length ((List.replicate dc.length [(blP false),(blP false),(blP false),(blP false),(aA 0),(aA 0),(aA 0)]).flatten)) (.exit 0) (gX dl sk dc q Bm L'1.length ((L'1.map rsE).flatten))){base:Nat}:FV Tp 75 [(.p (.agg (bB dl sk dc))),(.p (aG q))] base (.own base) [(base,(.row 121 L'1.length ((L'1.map rsE).flatten)))]:=FV.fi func75 [Dc.k 8 (gI [0,1,3,1,7,158] [0,1])] (gc Dc.code (gc h1 (gc h0 gn)))
def cG(dl:Int)(sk:Lqq)(dc:Lqq)(q:List Int)(i:Int)(L:List RS)(Aa:Int)(Ab:Int)(Ac:Int)(Ad:Int)(Ae:Int)(Af:Int)(k:Int)(l:Bool)(a:Bool)(c:Bool)(u:Bool)(m:Int)(b:Int)(f:Int)(r:Bool):St:=⟨fr 165 [(1,(.p (aG q))),(2,(.ptr 0 0)),(4,(.p bX)),(5,(.own 1)),(6,(pI i)),(7,(.ptr 2 0)),(8,(.ptr 3 0)),(9,(pB a)),(10,(pB r)),(11,(pI k))],[some (.box 61 [(pI dl),(.p (fS sk)),(.p (fS dc))]),some (.row 121 L.length ((L.map rsE).flatten)),some (.box 119 [(pI Aa),(pI Ab),(pI Ac),(pI Ad),(pI Ae),(pI Af)]),some (.box 121 [(pB l),(pB c),(pB false),(pB u),(pI m),(pI b),(pI f)])]⟩
def eN(dl:Int)(sk:Lqq)(dc:Lqq)(q:List Int)(i:Int)(L:List RS)(Aa:Int)(Ab:Int)(Ac:Int)(Ad:Int)(Ae:Int)(Af:Int)(A8:Bool)(A0:Bool)(Bb:Int)(A9:Int)(Ba:Int)(Bl:Bool)(n:Nat)(o:Bool)(u:Bool):St:=⟨fr 165 [(1,(.p (aG q))),(2,(.ptr 0 0)),(4,(.p bX)),(5,(.own 1)),(6,(pI i)),(7,(.ptr 2 0)),(8,(.ptr 3 0)),(10,(pB Bl)),(13,(pI (n:Int)))],[some (.box 61 [(pI dl),(.p (fS sk)),(.p (fS dc))]),some (.row 121 L.length ((L.map rsE).flatten)),some (.box 119 [(pI Aa),(pI Ab),(pI Ac),(pI Ad),(pI Ae),(pI Af)]),some (.box 121 [(pB A8),(pB A0),(pB o),(pB u),(pI Bb),(pI A9),(pI Ba)])]⟩
theorem bEn{L:List RS}{L':List RS}(h0:(0:Int)≤i)(h1:dc[i.toNat]? = some [Aa,Ab,Ac,Ad,Ae,Af])(h2:0≤i)(h3:uni 6 dc)(h4:Ab=4)(h5:inR ((L.length:Int)-1))(Gf:aE Tp 0 iM (cG dl sk dc q i L Aa Ab Ac Ad Ae Af ((L.length:Int)-1) (decide (Ac > dl)) true (!(decide (Ac > dl))) false Ae 0 0 false) (.exit 2) (cG dl sk dc q i L Aa Ab Ac Ad Ae Af Hb A8 Dj A0 D9 Bb A9 Ba Bl))(h7:Dj=true)(h8:A0=true)(Ik:aE Tp 0 rN (eN dl sk dc q i L Aa Ab Ac Ad Ae Af A8 A0 Bb A9 Ba Bl 0 (!Bl) D9) (.exit 4) (eN dl sk dc q i L Aa Ab Ac Ad Ae Af A8 A0 Bb A9 Ba Bl Hc Cu Cw))(A5:0≤i∧i<(L.length:Int))(Bd:[(blP A8),(blP A0),(blP Cu),(blP Cw),(aA Bb),(aA A9),(aA Ba)].length=7∧(i.toNat*7)+7≤((L.map rsE).flatten).length)(Bh:inR (i-1))(Ai:i'=(i-1))(Dx:L'.length=L.length)(Dy:(L'.map rsE).flatten=(((L.map rsE).flatten).take (i.toNat*7)++[(blP A8),(blP A0),(blP Cu),(blP Cw),(aA Bb),(aA A9),(aA Ba)]++((L.map rsE).flatten).drop ((i.toNat*7)+7))):aC Tp 0 wR (gX dl sk dc q i L.length ((L.map rsE).flatten)) .normal (gX dl sk dc q i' L'.length ((L'.map rsE).flatten)):=by
 subst Ai;rw [Dx,Dy];exact aC.fi (gI [0,1,3,1,7,158] [0,1]) ([bT,.x (dcE Aa Ab Ac Ad Ae Af),bT,bT,bT,bT,Gf.k 10 (gN [0,1,3,1,12,1,14,151] [0,1,2,3] [(9,0),(10,0)])]++rT 6++[Ik.k 4 (gI [0,1,3,1,9,1,11,1,14,151] [0,1,2,3])]) (gc Bh (gc Bd (gc A5 (gc Ik.code (Ak h8 (Ak h7 (gc Gf.code (gc h5 (Aw (cH h4) (gfz h3 h2 h1 (gc (mA h0) gn)))))))))))
theorem bEo{L:List RS}{L':List RS}(h0:(0:Int)≤i)(h1:dc[i.toNat]? = some [Aa,Ab,Ac,Ad,Ae,Af])(h2:0≤i)(h3:uni 6 dc)(h4:Ab=4)(h5:inR ((L.length:Int)-1))(Gf:aE Tp 0 iM (cG dl sk dc q i L Aa Ab Ac Ad Ae Af ((L.length:Int)-1) (decide (Ac > dl)) true (!(decide (Ac > dl))) false Ae 0 0 false) (.exit 2) (cG dl sk dc q i L Aa Ab Ac Ad Ae Af Hb A8 Dj A0 D9 Bb A9 Ba Bl))(h7:Dj=true)(h8:A0=false)(Ik:aE Tp 0 rN (eN dl sk dc q i L Aa Ab Ac Ad Ae Af A8 A0 Bb A9 Ba Bl 0 false D9) (.exit 4) (eN dl sk dc q i L Aa Ab Ac Ad Ae Af A8 A0 Bb A9 Ba Bl Hc Cu Cw))(A5:0≤i∧i<(L.length:Int))(Bd:[(blP A8),(blP A0),(blP Cu),(blP Cw),(aA Bb),(aA A9),(aA Ba)].length=7∧(i.toNat*7)+7≤((L.map rsE).flatten).length)(Bh:inR (i-1))(Ai:i'=(i-1))(Dx:L'.length=L.length)(Dy:(L'.map rsE).flatten=(((L.map rsE).flatten).take (i.toNat*7)++[(blP A8),(blP A0),(blP Cu),(blP Cw),(aA Bb),(aA A9),(aA Ba)]++((L.map rsE).flatten).drop ((i.toNat*7)+7))):aC Tp 0 wR (gX dl sk dc q i L.length ((L.map rsE).flatten)) .normal (gX dl sk dc q i' L'.length ((L'.map rsE).flatten)):=by
 subst Ai;rw [Dx,Dy];exact aC.fi (gI [0,1,3,1,7,158] [0,1]) [bT,.x (dcE Aa Ab Ac Ad Ae Af),bT,bT,bT,bT,Gf.k 10 (gN [0,1,3,1,12,1,14,151] [0,1,2,3] [(9,0),(10,0)]),bT,bT,bT,bF,bF,bF,Ik.k 4 (gN [0,1,3,1,9,1,11,1,14,151] [0,1,2,3] [(103002,0)])] (gc Bh (gc Bd (gc A5 (gc Ik.code (Ak h8 (Ak h7 (gc Gf.code (gc h5 (Aw (cH h4) (gfz h3 h2 h1 (gc (mA h0) gn)))))))))))
theorem bEp{L:List RS}{L':List RS}(h0:(0:Int)≤i)(h1:dc[i.toNat]? = some [Aa,Ab,Ac,Ad,Ae,Af])(h2:0≤i)(h3:uni 6 dc)(h4:Ab≠4)(h5:Ab=7)(h6:inR ((L.length:Int)-1))(Ec:aE Tp 0 iM (cG dl sk dc q i L Aa Ab Ac Ad Ae Af ((L.length:Int)-1) (decide (Ac > dl)) (Ab == 7) (!(decide (Ac > dl))) false Ae 0 0 false) (.exit 2) (cG dl sk dc q i L Aa Ab Ac Ad Ae Af Hb A8 Dj A0 D9 Bb A9 Ba Bl))(h8:Dj=true)(h9:A0=true)(Jv:aE Tp 0 rN (eN dl sk dc q i L Aa Ab Ac Ad Ae Af A8 A0 Bb A9 Ba Bl 0 (!Bl) D9) (.exit 4) (eN dl sk dc q i L Aa Ab Ac Ad Ae Af A8 A0 Bb A9 Ba Bl Hc Cu Cw))(Bd:0≤i∧i<(L.length:Int))(Bh:[(blP A8),(blP A0),(blP Cu),(blP Cw),(aA Bb),(aA A9),(aA Ba)].length=7∧(i.toNat*7)+7≤((L.map rsE).flatten).length)(B9:inR (i-1))(Ai:i'=(i-1))(Dx:L'.length=L.length)(Dy:(L'.map rsE).flatten=(((L.map rsE).flatten).take (i.toNat*7)++[(blP A8),(blP A0),(blP Cu),(blP Cw),(aA Bb),(aA A9),(aA Ba)]++((L.map rsE).flatten).drop ((i.toNat*7)+7))):aC Tp 0 wR (gX dl sk dc q i L.length ((L.map rsE).flatten)) .normal (gX dl sk dc q i' L'.length ((L'.map rsE).flatten)):=by
 subst Ai;rw [Dx,Dy];exact aC.fi (gI [0,1,3,1,7,158] [0,1]) ([bT,.x (dcE Aa Ab Ac Ad Ae Af),bF,bF,bF,bF]++rT 6++[Ec.k 8 (gN [0,1,3,1,12,1,14,151] [0,1,2,3] [(10,0)])]++rT 6++[Jv.k 4 (gI [0,1,3,1,9,1,11,1,14,151] [0,1,2,3])]) (gc B9 (gc Bh (gc Bd (gc Jv.code (Ak h9 (Ak h8 (gc Ec.code (gc h6 (Fx (cH h5) (Aw (aU h4) (gfz h3 h2 h1 (gc (mA h0) gn))))))))))))
theorem bEq{L:List RS}{L':List RS}(h0:(0:Int)≤i)(h1:dc[i.toNat]? = some [Aa,Ab,Ac,Ad,Ae,Af])(h2:0≤i)(h3:uni 6 dc)(h4:Ab≠4)(h5:Ab=7)(h6:inR ((L.length:Int)-1))(Ec:aE Tp 0 iM (cG dl sk dc q i L Aa Ab Ac Ad Ae Af ((L.length:Int)-1) (decide (Ac > dl)) (Ab == 7) (!(decide (Ac > dl))) false Ae 0 0 false) (.exit 2) (cG dl sk dc q i L Aa Ab Ac Ad Ae Af Hb A8 Dj A0 D9 Bb A9 Ba Bl))(h8:Dj=true)(h9:A0=false)(Jv:aE Tp 0 rN (eN dl sk dc q i L Aa Ab Ac Ad Ae Af A8 A0 Bb A9 Ba Bl 0 false D9) (.exit 4) (eN dl sk dc q i L Aa Ab Ac Ad Ae Af A8 A0 Bb A9 Ba Bl Hc Cu Cw))(Bd:0≤i∧i<(L.length:Int))(Bh:[(blP A8),(blP A0),(blP Cu),(blP Cw),(aA Bb),(aA A9),(aA Ba)].length=7∧(i.toNat*7)+7≤((L.map rsE).flatten).length)(B9:inR (i-1))(Ai:i'=(i-1))(Dx:L'.length=L.length)(Dy:(L'.map rsE).flatten=(((L.map rsE).flatten).take (i.toNat*7)++[(blP A8),(blP A0),(blP Cu),(blP Cw),(aA Bb),(aA A9),(aA Ba)]++((L.map rsE).flatten).drop ((i.toNat*7)+7))):aC Tp 0 wR (gX dl sk dc q i L.length ((L.map rsE).flatten)) .normal (gX dl sk dc q i' L'.length ((L'.map rsE).flatten)):=by
 subst Ai;rw [Dx,Dy];exact aC.fi (gI [0,1,3,1,7,158] [0,1]) ([bT,.x (dcE Aa Ab Ac Ad Ae Af),bF,bF,bF,bF]++rT 6++[Ec.k 8 (gN [0,1,3,1,12,1,14,151] [0,1,2,3] [(10,0)]),bT,bT,bT,bF,bF,bF,Jv.k 4 (gN [0,1,3,1,9,1,11,1,14,151] [0,1,2,3] [(103002,0)])]) (gc B9 (gc Bh (gc Bd (gc Jv.code (Ak h9 (Ak h8 (gc Ec.code (gc h6 (Fx (cH h5) (Aw (aU h4) (gfz h3 h2 h1 (gc (mA h0) gn))))))))))))
theorem bEr{L:List RS}{L':List RS}(h0:(0:Int)≤i)(h1:dc[i.toNat]? = some [Aa,Ab,Ac,Ad,Ae,Af])(h2:0≤i)(h3:uni 6 dc)(h4:Ab≠4)(h5:Ab≠7)(h6:inR ((L.length:Int)-1))(Ec:aE Tp 0 iM (cG dl sk dc q i L Aa Ab Ac Ad Ae Af ((L.length:Int)-1) false (Ab == 7) true false Ae 0 0 false) (.exit 2) (cG dl sk dc q i L Aa Ab Ac Ad Ae Af Hb A8 Dj A0 D9 Bb A9 Ba Bl))(h8:Dj=false)(Ik:aE Tp 0 rN (eN dl sk dc q i L Aa Ab Ac Ad Ae Af A8 A0 Bb A9 Ba Bl 0 false D9) (.exit 4) (eN dl sk dc q i L Aa Ab Ac Ad Ae Af A8 A0 Bb A9 Ba Bl Hc Cu Cw))(A5:0≤i∧i<(L.length:Int))(Bd:[(blP A8),(blP A0),(blP Cu),(blP Cw),(aA Bb),(aA A9),(aA Ba)].length=7∧(i.toNat*7)+7≤((L.map rsE).flatten).length)(Bh:inR (i-1))(Ai:i'=(i-1))(Dx:L'.length=L.length)(Dy:(L'.map rsE).flatten=(((L.map rsE).flatten).take (i.toNat*7)++[(blP A8),(blP A0),(blP Cu),(blP Cw),(aA Bb),(aA A9),(aA Ba)]++((L.map rsE).flatten).drop ((i.toNat*7)+7))):aC Tp 0 wR (gX dl sk dc q i L.length ((L.map rsE).flatten)) .normal (gX dl sk dc q i' L'.length ((L'.map rsE).flatten)):=by
 subst Ai;rw [Dx,Dy];exact aC.fi (gI [0,1,3,1,7,158] [0,1]) ([bT,.x (dcE Aa Ab Ac Ad Ae Af)]++rF 10++[Ec.k 8 (gN [0,1,3,1,12,1,14,151] [0,1,2,3] [(103000,0),(103001,0),(10,0)]),bF,bF,bF,Ik.k 4 (gN [0,1,3,1,9,1,11,1,14,151] [0,1,2,3] [(103002,0)])]) (gc Bh (gc Bd (gc A5 (gc Ik.code (Ak h8 (gc Ec.code (gc h6 (Fx (aU h5) (Aw (aU h4) (gfz h3 h2 h1 (gc (mA h0) gn)))))))))))
theorem bEs{L:List RS}(h0:i<0):aC Tp 0 wR (gX dl sk dc q i L.length ((L.map rsE).flatten)) (.exit 0) (gX dl sk dc q i L.length ((L.map rsE).flatten)):=aC.fi (gI [0,1,3,1,7,158] [0,1]) [bF] (gc (jG h0) gn)
theorem bEt{L:List RS}(h0:i<k)(h1:dc[k.toNat]? = some [Ah,Ag,An,Au,Ao,Al])(h2:0≤k)(h3:uni 6 dc)(h4:Al≠Aa)(h5:inR (k-1))(Eb:k'=(k-1)):aC Tp 0 iM (cG dl sk dc q i L Aa Ab Ac Ad Ae Af k l a c u m b f r) .normal (cG dl sk dc q i L Aa Ab Ac Ad Ae Af k' l a c u m b f r):=by
 subst Eb;exact aC.fi (gI [0,1,3,1,12,1,14,151] [0,1,2,3]) ([bT,.x (dcE Ah Ag An Au Ao Al)]++rT 7) (gc h5 (Kx (jF h4) (gfz h3 h2 h1 (gc (aI h0) gn))))
theorem bEu{L:List RS}(h0:i<k)(h1:dc[k.toNat]? = some [Ah,Ag,An,Au,Ao,Al])(h2:0≤k)(h3:uni 6 dc)(h4:Al=Aa)(h5:0≤k∧k<(L.length:Int))(h6:L[k.toNat]? = some (Dk,Ar,Dl,Bz,Co,Dm,Dn))(h7:Ar=false)(h8:inR (k-1))(Eb:k'=(k-1)):aC Tp 0 iM (cG dl sk dc q i L Aa Ab Ac Ad Ae Af k l a c u m b f r) .normal (cG dl sk dc q i L Aa Ab Ac Ad Ae Af k' l a c u m b f r):=by
 subst Eb;exact aC.fi (gI [0,1,3,1,12,1,14,151] [0,1,2,3]) ([bT,.x (dcE Ah Ag An Au Ao Al)]++rF 5++[.x (blP Ar),bF,bF,bT]) (gc h8 (gc (bM h7) (Az (bL h4) (gt (((L.map rsE).flatten)[((k.toNat*7)+1)]? = some (blP Ar)) (bI (E:=rsE) (i:=k.toNat) (f:=1) (k:=7) (fun _=>rfl) h6 rfl) (Az (bL h4) (gc h5 (Ak (bL h4) (gfz h3 h2 h1 (gc (aI h0) gn)))))))))
theorem aUi{L:List RS}(h0:i<k)(h1:dc[k.toNat]? = some [Ah,Ag,An,Au,Ao,Al])(h2:0≤k)(h3:uni 6 dc)(h4:Al=Aa)(h5:0≤k∧k<(L.length:Int))(h6:L[k.toNat]? = some (Dk,Ar,Dl,Bz,Co,Dm,Dn))(h7:Ar=true)(h8:Ag=5)(h9:Ag≤7)(A5:Ag≠6)(Bd:inR (k-1))(Eb:k'=(k-1)):aC Tp 0 iM (cG dl sk dc q i L Aa Ab Ac Ad Ae Af k l a c u m b f r) .normal (cG dl sk dc q i L Aa Ab Ac Ad Ae Af k' l a false u m b f r):=by
 subst Eb;exact aC.fi (gN [0,1,3,1,12,1,14,151] [0,1,2,3] [(103001,0)]) ([bT,.x (dcE Ah Ag An Au Ao Al)]++rF 5++[.x (blP Ar),bF,bF,bF]++rT 8++rF 7) (gc Bd (Aw (aU A5) (Ak (aN h9) (Eu (cH h8) (gc (aV h7) (Az (bL h4) (gt (((L.map rsE).flatten)[((k.toNat*7)+1)]? = some (blP Ar)) (bI (E:=rsE) (i:=k.toNat) (f:=1) (k:=7) (fun _=>rfl) h6 rfl) (Az (bL h4) (gc h5 (Ak (bL h4) (gfz h3 h2 h1 (gc (aI h0) gn))))))))))))
theorem aUj{L:List RS}(h0:i<k)(h1:dc[k.toNat]? = some [Ah,Ag,An,Au,Ao,Al])(h2:0≤k)(h3:uni 6 dc)(h4:Al=Aa)(h5:0≤k∧k<(L.length:Int))(h6:L[k.toNat]? = some (Dk,Ar,Dl,Bz,Co,Dm,Dn))(h7:Ar=true)(h8:Ag≠5)(h9:Ag=7)(A5:Bz=true)(Bd:Ab<8)(Bh:Ag≤7)(B9:Ag≠6)(Di:inR (k-1))(Eb:k'=(k-1)):aC Tp 0 iM (cG dl sk dc q i L Aa Ab Ac Ad Ae Af k l a c u m b f r) .normal (cG dl sk dc q i L Aa Ab Ac Ad Ae Af k' l a false u m b f r):=by
 subst Eb;exact aC.fi (gN [0,1,3,1,12,1,14,151] [0,1,2,3] [(103001,0)]) ([bT,.x (dcE Ah Ag An Au Ao Al)]++rF 5++[.x (blP Ar)]++rF 7++rT 5++[.x (blP Bz),bF,bT,bF,bT,bT,bT,bF,bT,bF,bT]++rF 7) (gc Di (Aw (aU B9) (Ak (aN Bh) (gc (aI Bd) (gc (aU h8) (gc A5 (gc (aU h8) (Ak A5 (gc (aU h8) (gc (cH h9) (gc (aU h8) (gt (((L.map rsE).flatten)[((k.toNat*7)+3)]? = some (blP Bz)) (bI (E:=rsE) (i:=k.toNat) (f:=3) (k:=7) (fun _=>rfl) h6 rfl) (Az (cH h9) (gc h5 (Ak (cH h9) (Aw (aU h8) (gc (aV h7) (Az (bL h4) (gt (((L.map rsE).flatten)[((k.toNat*7)+1)]? = some (blP Ar)) (bI (E:=rsE) (i:=k.toNat) (f:=1) (k:=7) (fun _=>rfl) h6 rfl) (Az (bL h4) (gc h5 (Ak (bL h4) (gfz h3 h2 h1 (gc (aI h0) gn))))))))))))))))))))))))
theorem aUk{L:List RS}(h0:i<k)(h1:dc[k.toNat]? = some [Ah,Ag,An,Au,Ao,Al])(h2:0≤k)(h3:uni 6 dc)(h4:Al=Aa)(h5:0≤k∧k<(L.length:Int))(h6:L[k.toNat]? = some (Dk,Ar,Dl,Bz,Co,Dm,Dn))(h7:Ar=true)(h8:Ag≠5)(h9:Ag=7)(A5:Bz=true)(Bd:(8:Int)≤Ab)(Bh:Ag≤7)(B9:Ag≠6)(Di:inR (k-1))(Eb:k'=(k-1)):aC Tp 0 iM (cG dl sk dc q i L Aa Ab Ac Ad Ae Af k l a c u m b f r) .normal (cG dl sk dc q i L Aa Ab Ac Ad Ae Af k' l a c u m b f r):=by
 subst Eb;exact aC.fi (gI [0,1,3,1,12,1,14,151] [0,1,2,3]) ([bT,.x (dcE Ah Ag An Au Ao Al)]++rF 5++[.x (blP Ar)]++rF 7++rT 5++[.x (blP Bz),bF,bT,bF,bT,bT,bT,bF,bT]++rF 9) (gc Di (Aw (aU B9) (Ak (aN Bh) (gc (aN Bd) (gc (aU h8) (gc A5 (gc (aU h8) (Ak A5 (gc (aU h8) (gc (cH h9) (gc (aU h8) (gt (((L.map rsE).flatten)[((k.toNat*7)+3)]? = some (blP Bz)) (bI (E:=rsE) (i:=k.toNat) (f:=3) (k:=7) (fun _=>rfl) h6 rfl) (Az (cH h9) (gc h5 (Ak (cH h9) (Aw (aU h8) (gc (aV h7) (Az (bL h4) (gt (((L.map rsE).flatten)[((k.toNat*7)+1)]? = some (blP Ar)) (bI (E:=rsE) (i:=k.toNat) (f:=1) (k:=7) (fun _=>rfl) h6 rfl) (Az (bL h4) (gc h5 (Ak (bL h4) (gfz h3 h2 h1 (gc (aI h0) gn))))))))))))))))))))))))
theorem aUl{L:List RS}(h0:i<k)(h1:dc[k.toNat]? = some [Ah,Ag,An,Au,Ao,Al])(h2:0≤k)(h3:uni 6 dc)(h4:Al=Aa)(h5:0≤k∧k<(L.length:Int))(h6:L[k.toNat]? = some (Dk,Ar,Dl,Bz,Co,Dm,Dn))(h7:Ar=true)(h8:Ag≠5)(h9:Ag=7)(A5:Bz=false)(Bd:Ag≤7)(Bh:Ag≠6)(B9:inR (k-1))(Eb:k'=(k-1)):aC Tp 0 iM (cG dl sk dc q i L Aa Ab Ac Ad Ae Af k l a c u m b f r) .normal (cG dl sk dc q i L Aa Ab Ac Ad Ae Af k' l a c u m b f r):=by
 subst Eb;exact aC.fi (gI [0,1,3,1,12,1,14,151] [0,1,2,3]) ([bT,.x (dcE Ah Ag An Au Ao Al)]++rF 5++[.x (blP Ar)]++rF 7++rT 5++[.x (blP Bz),bF,bT]++rF 14) (gc B9 (Aw (aU Bh) (Ak (aN Bd) (gc (aU h8) (gc A5 (gc (aU h8) (Ak A5 (gc (aU h8) (gc (cH h9) (gc (aU h8) (gt (((L.map rsE).flatten)[((k.toNat*7)+3)]? = some (blP Bz)) (bI (E:=rsE) (i:=k.toNat) (f:=3) (k:=7) (fun _=>rfl) h6 rfl) (Az (cH h9) (gc h5 (Ak (cH h9) (Aw (aU h8) (gc (aV h7) (Az (bL h4) (gt (((L.map rsE).flatten)[((k.toNat*7)+1)]? = some (blP Ar)) (bI (E:=rsE) (i:=k.toNat) (f:=1) (k:=7) (fun _=>rfl) h6 rfl) (Az (bL h4) (gc h5 (Ak (bL h4) (gfz h3 h2 h1 (gc (aI h0) gn)))))))))))))))))))))))
theorem aUm{L:List RS}{u':Bool}(h0:i<k)(h1:dc[k.toNat]? = some [Ah,Ag,An,Au,Ao,Al])(h2:0≤k)(h3:uni 6 dc)(h4:Al=Aa)(h5:0≤k∧k<(L.length:Int))(h6:L[k.toNat]? = some (Dk,Ar,Dl,Bz,Co,Dm,Dn))(h7:Ar=true)(h8:Ag≠5)(h9:Ag≠7)(A5:(7:Int)<Ag)(Bd:r=false)(Bh:Ag≠6)(B9:inR (k-1))(Eb:k'=(k-1))(Wb:u'=(Ag == 8)):aC Tp 0 iM (cG dl sk dc q i L Aa Ab Ac Ad Ae Af k l a c u m b f r) .normal (cG dl sk dc q i L Aa Ab Ac Ad Ae Af k' l a c u' m Ah f true):=by
 subst Eb Wb;exact aC.fi (gN [0,1,3,1,12,1,14,151] [0,1,2,3] [(10,0)]) ([bT,.x (dcE Ah Ag An Au Ao Al)]++rF 5++[.x (blP Ar)]++rF 17++[bT,bT,bT,bT,bF,bF,bF,bF]) (gc B9 (Aw (aU Bh) (gc (bM Bd) (Ak (aI A5) (Ak (aU h8) (gc (aU h9) (gc (aU h8) (Bo (aU h9) (Aw (aU h8) (gc (aV h7) (Az (bL h4) (gt (((L.map rsE).flatten)[((k.toNat*7)+1)]? = some (blP Ar)) (bI (E:=rsE) (i:=k.toNat) (f:=1) (k:=7) (fun _=>rfl) h6 rfl) (Az (bL h4) (gc h5 (Ak (bL h4) (gfz h3 h2 h1 (gc (aI h0) gn)))))))))))))))))
theorem aUn{L:List RS}(h0:i<k)(h1:dc[k.toNat]? = some [Ah,Ag,An,Au,Ao,Al])(h2:0≤k)(h3:uni 6 dc)(h4:Al=Aa)(h5:0≤k∧k<(L.length:Int))(h6:L[k.toNat]? = some (Dk,Ar,Dl,Bz,Co,Dm,Dn))(h7:Ar=true)(h8:Ag≠5)(h9:Ag≠7)(A5:(7:Int)<Ag)(Bd:r=true)(Bh:Ag≠6)(B9:inR (k-1))(Eb:k'=(k-1)):aC Tp 0 iM (cG dl sk dc q i L Aa Ab Ac Ad Ae Af k l a c u m b f r) .normal (cG dl sk dc q i L Aa Ab Ac Ad Ae Af k' l a c u m b f r):=by
 subst Eb;exact aC.fi (gI [0,1,3,1,12,1,14,151] [0,1,2,3]) ([bT,.x (dcE Ah Ag An Au Ao Al)]++rF 5++[.x (blP Ar)]++rF 17++[bT,bT,bT]++rF 5) (gc B9 (Aw (aU Bh) (gc (aV Bd) (Ak (aI A5) (Ak (aU h8) (gc (aU h9) (gc (aU h8) (Bo (aU h9) (Aw (aU h8) (gc (aV h7) (Az (bL h4) (gt (((L.map rsE).flatten)[((k.toNat*7)+1)]? = some (blP Ar)) (bI (E:=rsE) (i:=k.toNat) (f:=1) (k:=7) (fun _=>rfl) h6 rfl) (Az (bL h4) (gc h5 (Ak (bL h4) (gfz h3 h2 h1 (gc (aI h0) gn)))))))))))))))))
theorem aUo{L:List RS}(h0:i<k)(h1:dc[k.toNat]? = some [Ah,Ag,An,Au,Ao,Al])(h2:0≤k)(h3:uni 6 dc)(h4:Al=Aa)(h5:0≤k∧k<(L.length:Int))(h6:L[k.toNat]? = some (Dk,Ar,Dl,Bz,Co,Dm,Dn))(h7:Ar=true)(h8:Ag≠5)(h9:Ag≠7)(A5:Ag≤7)(Bd:Ag=6)(Bh:f=0)(B9:inR (k-1))(Eb:k'=(k-1)):aC Tp 0 iM (cG dl sk dc q i L Aa Ab Ac Ad Ae Af k l a c u m b f r) .normal (cG dl sk dc q i L Aa Ab Ac Ad Ae Af k' l a c u Co b Ah r):=by
 subst Eb;exact aC.fi (gI [0,1,3,1,12,1,14,151] [0,1,2,3]) ([bT,.x (dcE Ah Ag An Au Ao Al)]++rF 5++[.x (blP Ar)]++rF 20++rT 5++[.x (aA Co)]) (gc B9 (gt (((L.map rsE).flatten)[((k.toNat*7)+4)]? = some (aA Co)) (bI (E:=rsE) (i:=k.toNat) (f:=4) (k:=7) (fun _=>rfl) h6 rfl) (gc h5 (gc (cH Bh) (Aw (cH Bd) (Ak (aN A5) (Ak (aU h8) (gc (aU h9) (gc (aU h8) (Bo (aU h9) (Aw (aU h8) (gc (aV h7) (Az (bL h4) (gt (((L.map rsE).flatten)[((k.toNat*7)+1)]? = some (blP Ar)) (bI (E:=rsE) (i:=k.toNat) (f:=1) (k:=7) (fun _=>rfl) h6 rfl) (Az (bL h4) (gc h5 (Ak (bL h4) (gfz h3 h2 h1 (gc (aI h0) gn)))))))))))))))))))
theorem aUp{L:List RS}(h0:i<k)(h1:dc[k.toNat]? = some [Ah,Ag,An,Au,Ao,Al])(h2:0≤k)(h3:uni 6 dc)(h4:Al=Aa)(h5:0≤k∧k<(L.length:Int))(h6:L[k.toNat]? = some (Dk,Ar,Dl,Bz,Co,Dm,Dn))(h7:Ar=true)(h8:Ag≠5)(h9:Ag≠7)(A5:Ag≤7)(Bd:Ag=6)(Bh:f≠0)(B9:inR (k-1))(Eb:k'=(k-1)):aC Tp 0 iM (cG dl sk dc q i L Aa Ab Ac Ad Ae Af k l a c u m b f r) .normal (cG dl sk dc q i L Aa Ab Ac Ad Ae Af k' l a c u m b f r):=by
 subst Eb;exact aC.fi (gI [0,1,3,1,12,1,14,151] [0,1,2,3]) ([bT,.x (dcE Ah Ag An Au Ao Al)]++rF 5++[.x (blP Ar)]++rF 20++[bT,bT,bT,bT,bF]) (gc B9 (gc (aU Bh) (Aw (cH Bd) (Ak (aN A5) (Ak (aU h8) (gc (aU h9) (gc (aU h8) (Bo (aU h9) (Aw (aU h8) (gc (aV h7) (Az (bL h4) (gt (((L.map rsE).flatten)[((k.toNat*7)+1)]? = some (blP Ar)) (bI (E:=rsE) (i:=k.toNat) (f:=1) (k:=7) (fun _=>rfl) h6 rfl) (Az (bL h4) (gc h5 (Ak (bL h4) (gfz h3 h2 h1 (gc (aI h0) gn)))))))))))))))))
theorem aUq{L:List RS}(h0:i<k)(h1:dc[k.toNat]? = some [Ah,Ag,An,Au,Ao,Al])(h2:0≤k)(h3:uni 6 dc)(h4:Al=Aa)(h5:0≤k∧k<(L.length:Int))(h6:L[k.toNat]? = some (Dk,Ar,Dl,Bz,Co,Dm,Dn))(h7:Ar=true)(h8:Ag≠5)(h9:Ag≠7)(A5:Ag≤7)(Bd:Ag≠6)(Bh:inR (k-1))(Eb:k'=(k-1)):aC Tp 0 iM (cG dl sk dc q i L Aa Ab Ac Ad Ae Af k l a c u m b f r) .normal (cG dl sk dc q i L Aa Ab Ac Ad Ae Af k' l a c u m b f r):=by
 subst Eb;exact aC.fi (gI [0,1,3,1,12,1,14,151] [0,1,2,3]) ([bT,.x (dcE Ah Ag An Au Ao Al)]++rF 5++[.x (blP Ar)]++rF 24) (gc Bh (Aw (aU Bd) (Ak (aN A5) (Ak (aU h8) (gc (aU h9) (gc (aU h8) (Bo (aU h9) (Aw (aU h8) (gc (aV h7) (Az (bL h4) (gt (((L.map rsE).flatten)[((k.toNat*7)+1)]? = some (blP Ar)) (bI (E:=rsE) (i:=k.toNat) (f:=1) (k:=7) (fun _=>rfl) h6 rfl) (Az (bL h4) (gc h5 (Ak (bL h4) (gfz h3 h2 h1 (gc (aI h0) gn))))))))))))))))
theorem aUr{L:List RS}(h0:k≤i):aC Tp 0 iM (cG dl sk dc q i L Aa Ab Ac Ad Ae Af k l a c u m b f r) (.exit 2) (cG dl sk dc q i L Aa Ab Ac Ad Ae Af k l a c u m b f r):=aC.fi (gI [0,1,3,1,12,1,14,151] [0,1,2,3]) [bF] (gc (aN h0) gn)
theorem bEv{L:List RS}(h0:(n:Int)<(q.length:Int))(h1:Bl=false)(h2:q[n]? = some Iw)(h3:Iw=Aa)(h4:inR (((n+1):Nat):Int))(Jw:n'=(n+1)):aC Tp 0 rN (eN dl sk dc q i L Aa Ab Ac Ad Ae Af A8 A0 Bb A9 Ba Bl n o u) .normal (eN dl sk dc q i L Aa Ab Ac Ad Ae Af A8 A0 Bb A9 Ba Bl n' o true):=by
 subst Jw;exact aC.fi (gN [0,1,3,1,9,1,11,1,14,151] [0,1,2,3] [(103003,0)]) (rT 5++[.x (aA Iw)]++rT 5) (gc h4 (gc (cH h3) (Aw (bM h1) (gc (atm aA h2) (gc (bM h1) (gc (ixn aA h2) (Ak (bM h1) (gc (aI h0) gn))))))))
theorem bEw{L:List RS}(h0:(n:Int)<(q.length:Int))(h1:Bl=false)(h2:q[n]? = some Iw)(h3:Iw≠Aa)(h4:inR (((n+1):Nat):Int))(Jw:n'=(n+1)):aC Tp 0 rN (eN dl sk dc q i L Aa Ab Ac Ad Ae Af A8 A0 Bb A9 Ba Bl n o u) .normal (eN dl sk dc q i L Aa Ab Ac Ad Ae Af A8 A0 Bb A9 Ba Bl n' o u):=by
 subst Jw;exact aC.fi (gI [0,1,3,1,9,1,11,1,14,151] [0,1,2,3]) (rT 5++[.x (aA Iw),bT,bT,bT,bT,bF]) (gc h4 (gc (aU h3) (Aw (bM h1) (gc (atm aA h2) (gc (bM h1) (gc (ixn aA h2) (Ak (bM h1) (gc (aI h0) gn))))))))
theorem bEx{L:List RS}(h0:(n:Int)<(q.length:Int))(h1:Bl=true)(h2:inR (((n+1):Nat):Int))(Jw:n'=(n+1)):aC Tp 0 rN (eN dl sk dc q i L Aa Ab Ac Ad Ae Af A8 A0 Bb A9 Ba Bl n o u) .normal (eN dl sk dc q i L Aa Ab Ac Ad Ae Af A8 A0 Bb A9 Ba Bl n' o u):=by
 subst Jw;exact aC.fi (gI [0,1,3,1,9,1,11,1,14,151] [0,1,2,3]) ([bT]++rF 8) (gc h2 (Eu (aV h1) (gc (aI h0) gn)))
theorem bEy{L:List RS}(h0:(q.length:Int)≤(n:Int)):aC Tp 0 rN (eN dl sk dc q i L Aa Ab Ac Ad Ae Af A8 A0 Bb A9 Ba Bl n o u) (.exit 4) (eN dl sk dc q i L Aa Ab Ac Ad Ae Af A8 A0 Bb A9 Ba Bl n o u):=aC.fi (gI [0,1,3,1,9,1,11,1,14,151] [0,1,2,3]) [bF] (gc (aN h0) gn)
end
section
theorem bUu{dl:Int}{sk dc:Lqq}{q:List Int}{i:Int}{L:List RS}{Aa Ab Ac Ad Ae Af k:Int}{l a c u:Bool}{m b f:Int}{r:Bool}{Ah Ag An Au Ao Al:Int}{Dk Ar Dl Bz:Bool}{Co Dm Dn:Int}(hik:i<k)(hx:dc[k.toNat]? = some [Ah,Ag,An,Au,Ao,Al])(Fy:0≤k)(hu:uni 6 dc)(hkl:k<(L.length:Int))(hL:L[k.toNat]? = some (Dk,Ar,Dl,Bz,Co,Dm,Dn))(hin:inR (k-(1:Int))) :
  aC Tp 0 (sub (cd Tryz.f75) [1,1,0,1,0,0,1,0,0,1,1,1,1,1,1,0,1,0,0]) (cG dl sk dc q i L Aa Ab Ac Ad Ae Af k l a c u m b f r) .normal (cG dl sk dc q i L Aa Ab Ac Ad Ae Af (k-1) l a (if (Al=Aa∧Ar=true)∧(Ag=5∨(Ag=7∧Bz=true∧Ab<8)) then false else c) (if (Al=Aa∧Ar=true)∧7<Ag∧r=false then Ag == 8 else u) (if (Al=Aa∧Ar=true)∧Ag=6∧f=0 then Co else m) (if (Al=Aa∧Ar=true)∧7<Ag∧r=false then Ah else b) (if (Al=Aa∧Ar=true)∧Ag=6∧f=0 then Ah else f) (if (Al=Aa∧Ar=true)∧7<Ag then true else r)):=by
 by_cases d0:Al=Aa
 ·by_cases d1:Ar=true
  ·by_cases d2:Ag=(5:Int)
   ·by_cases d3:(7:Int)<Ag
    ·by_cases d4:r=true
     ·by_cases d5:Ag=(6:Int)
      ·by_cases d6:f=(0:Int)
       ·exfalso;omega
       ·exfalso;omega
      ·exfalso;omega
     ·by_cases d5:Ag=(6:Int)
      ·by_cases d6:f=(0:Int)
       ·exfalso;omega
       ·exfalso;omega
      ·exfalso;omega
    ·by_cases d4:Ag=(6:Int)
     ·by_cases d5:f=(0:Int)
      ·exfalso;omega
      ·exfalso;omega
     ·exact (aUi hik hx Fy hu d0 ⟨Fy,hkl⟩ hL d1 d2 (by omega) d4 hin rfl).cast (by simp [d0,d1,d2,d3,d4])
   ·by_cases d3:Ag=(7:Int)
    ·by_cases d4:Bz=true
     ·by_cases d5:Ab<(8:Int)
      ·by_cases d6:(7:Int)<Ag
       ·by_cases d7:r=true
        ·by_cases d8:Ag=(6:Int)
         ·by_cases d9:f=(0:Int)
          ·exfalso;omega
          ·exfalso;omega
         ·exfalso;omega
        ·by_cases d8:Ag=(6:Int)
         ·by_cases d9:f=(0:Int)
          ·exfalso;omega
          ·exfalso;omega
         ·exfalso;omega
       ·by_cases d7:Ag=(6:Int)
        ·by_cases d8:f=(0:Int)
         ·exfalso;omega
         ·exfalso;omega
        ·exact (aUj hik hx Fy hu d0 ⟨Fy,hkl⟩ hL d1 d2 d3 d4 d5 (by omega) d7 hin rfl).cast (by simp [d0,d1,d2,d3,d4,d5,d6,d7])
      ·by_cases d6:(7:Int)<Ag
       ·by_cases d7:r=true
        ·by_cases d8:Ag=(6:Int)
         ·by_cases d9:f=(0:Int)
          ·exfalso;omega
          ·exfalso;omega
         ·exfalso;omega
        ·by_cases d8:Ag=(6:Int)
         ·by_cases d9:f=(0:Int)
          ·exfalso;omega
          ·exfalso;omega
         ·exfalso;omega
       ·by_cases d7:Ag=(6:Int)
        ·by_cases d8:f=(0:Int)
         ·exfalso;omega
         ·exfalso;omega
        ·exact (aUk hik hx Fy hu d0 ⟨Fy,hkl⟩ hL d1 d2 d3 d4 (by omega) (by omega) d7 hin rfl).cast (by simp [d0,d1,d2,d3,d4,d5,d6,d7])
     ·by_cases d5:(7:Int)<Ag
      ·by_cases d6:r=true
       ·by_cases d7:Ag=(6:Int)
        ·by_cases d8:f=(0:Int)
         ·exfalso;omega
         ·exfalso;omega
        ·exfalso;omega
       ·by_cases d7:Ag=(6:Int)
        ·by_cases d8:f=(0:Int)
         ·exfalso;omega
         ·exfalso;omega
        ·exfalso;omega
      ·by_cases d6:Ag=(6:Int)
       ·by_cases d7:f=(0:Int)
        ·exfalso;omega
        ·exfalso;omega
       ·exact (aUl hik hx Fy hu d0 ⟨Fy,hkl⟩ hL d1 d2 d3 (by simpa using d4) (by omega) d6 hin rfl).cast (by simp [d0,d1,d2,d3,d4,d5,d6])
    ·by_cases d4:(7:Int)<Ag
     ·by_cases d5:r=true
      ·by_cases d6:Ag=(6:Int)
       ·by_cases d7:f=(0:Int)
        ·exfalso;omega
        ·exfalso;omega
       ·exact (aUn hik hx Fy hu d0 ⟨Fy,hkl⟩ hL d1 d2 d3 d4 d5 d6 hin rfl).cast (by simp [d0,d1,d2,d3,d4,d5,d6])
      ·by_cases d6:Ag=(6:Int)
       ·by_cases d7:f=(0:Int)
        ·exfalso;omega
        ·exfalso;omega
       ·exact (aUm hik hx Fy hu d0 ⟨Fy,hkl⟩ hL d1 d2 d3 d4 (by simpa using d5) d6 hin rfl rfl).cast (by simp [d0,d1,d2,d3,d4,d5,d6])
     ·by_cases d5:Ag=(6:Int)
      ·by_cases d6:f=(0:Int)
       ·exact (aUo hik hx Fy hu d0 ⟨Fy,hkl⟩ hL d1 d2 d3 (by omega) d5 d6 hin rfl).cast (by simp [d0,d1,d2,d3,d4,d5,d6])
       ·exact (aUp hik hx Fy hu d0 ⟨Fy,hkl⟩ hL d1 d2 d3 (by omega) d5 d6 hin rfl).cast (by simp [d0,d1,d2,d3,d4,d5,d6])
      ·exact (aUq hik hx Fy hu d0 ⟨Fy,hkl⟩ hL d1 d2 d3 (by omega) d5 hin rfl).cast (by simp [d0,d1,d2,d3,d4,d5])
  ·exact (bEu hik hx Fy hu d0 ⟨Fy,hkl⟩ hL (by simpa using d1) hin rfl).cast (by simp [d0,d1])
 ·exact (bEt hik hx Fy hu d0 hin rfl).cast (by simp [d0])
end
section

abbrev dN(x:List Int):Int:=x.getD 0 0
abbrev dK(x:List Int):Int:=x.getD 1 0
abbrev dMi(x:List Int):Int:=x.getD 2 0
abbrev dB(x:List Int):Int:=x.getD 3 0
abbrev dMu(x:List Int):Int:=x.getD 4 0
abbrev dAb(x:List Int):Int:=x.getD 5 0
def eY(k:Int):Bool:=k == 4 || k == 7
def cR(k:Int):Bool:=k == 8 || k == 9

def cB(dc:Lqq)(n:Int):Lqq:=dc.reverse.filter fun x=>dAb x == n

structure DS where
 x:List Int
 cnt:Bool
 upd:Bool
 rul:Option (List Int)
 chg:Option (List Int)
 much:Int

def cX(t:List DS)(n:Int):List DS:=t.reverse.filter fun s=>dAb s.x == n
def iC(dl:Int)(x:List Int):Bool:=eY (dK x) && decide (dl<dMi x)
def vT(x:List Int)(y:List Int):Bool:=dK y == 5 || (dK y == 7 && !cR (dK x))
def sD(x:List Int)(s:DS):Bool:=vT x s.x && s.cnt && (dK s.x == 5 || s.upd)
def mkS(dl:Int)(oc:List Int)(x:List Int)(t:List DS):DS :=
 ⟨x,!iC dl x && !((cX t (dN x)).any (sD x)),
  match (cX t (dN x)).find? fun s=>cR (dK s.x) && s.cnt with
   | some s=>dK s.x == 8
   | none=>oc.contains (dN x),
  ((cX t (dN x)).find? fun s=>cR (dK s.x) && s.cnt).map (·.x),
  ((cX t (dN x)).find? fun s=>dK s.x == 6 && s.cnt).map (·.x),
  match (cX t (dN x)).find? fun s=>dK s.x == 6 && s.cnt with
   | some s=>s.much
   | none=>dMu x⟩
def bK(dl:Int)(oc:List Int):Lqq→List DS
 | []=>[]
 | x::r=>mkS dl oc x (bK dl oc r)::bK dl oc r

theorem rQ(dl:Int)(oc:List Int):∀ dc:Lqq,(bK dl oc dc).map (·.x)=dc
 | []=>rfl
 | x::r=>by rw [bK,fZ,rQ dl oc r];rfl
theorem jR(dl:Int)(oc:List Int)(dc:Lqq):(bK dl oc dc).length=dc.length:=by
 have:=congrArg List.length (rQ dl oc dc);simpa using this
theorem bWf(dl:Int)(oc:List Int)(dc:Lqq)(n:Int):(cX (bK dl oc dc) n).map (·.x)=cB dc n:=by
 unfold cX cB
 conv=>rhs;rw [← rQ dl oc dc]
 rw [← List.map_reverse,List.filter_map];rfl

structure bN (dc:Lqq):Prop where
 ud:uni 6 dc
 len:dc.length≤1000
 rng:∀ x∈dc,dcB x=true
 up:dc.Pairwise fun a b=>dN a<dN b
 ord:∀ x∈dc,orB x=true

theorem bN.tail{x:List Int}{r:Lqq}(h:bN (x::r)):bN r :=
 ⟨fun y hy=>h.ud y (Cj _ hy),by have:=h.len;simp at this;omega,fun y hy=>h.rng y (Cj _ hy),(aKy.1 h.up).2,fun y hy=>h.ord y (Cj _ hy)⟩
theorem aVn{a r:Lqq}{x:List Int}(h:bN (a++x::r)):cB (a++x::r) (dN x)=cB r (dN x):=by
 unfold cB;have e:a++x::r=(a++[x])++r:=by simp
 rw [e,List.reverse_append,kU];have:(a++[x]).reverse.filter (fun y=>dAb y == dN x)=[]:=by
  rw [List.filter_eq_nil_iff];intro y hy;have hy:y∈a++[x]:=zM.1 hy;have hm:y∈a++x::r:=by rw [e];exact oV _ hy
  have Pu:1≤dN x:=(iB.1 (h.rng x (by simp))).1.1
  have hle:dN y≤dN x:=by
   rcases jX.1 hy with hy | hy
   ·exact Int.le_of_lt ((List.pairwise_append.1 h.up).2.2 y hy x (by simp))
   ·simp at hy;rw [hy];exact bCw _
  have ho:=h.ord y hm;unfold orB at ho
  simp only [beq_iff_eq];show ¬ y.getD 5 0=x.getD 0 0
  split at ho
  ·have:y.getD 5 0=0:=by simpa using ho
   unfold dN at Pu;omega
  ·have:=bV.1 ho
   unfold dN at hle;omega
 rw [this,List.append_nil]

def aBj(L:List (Int × Lqq))(k:Int):Lqq:=match L.find? fun e=>e.1 == k with
 | some e=>e.2
 | none=>[]
def aGx(L:List (Int × Lqq))(k:Int)(v:Lqq):List (Int × Lqq):=if L.any (fun e=>e.1 == k) then L.map (fun e=>if e.1 == k then (k,v) else e) else L++[(k,v)]
def jZ(L:List (Int × Lqq))(x:List Int):List (Int × Lqq):=if 0<dAb x then aGx L (dAb x) (aBj L (dAb x)++[x]) else L
def abM(dc:Lqq):List (Int × Lqq):=dc.reverse.foldl jZ []

structure aQh (q:Lqq) (L:List (Int × Lqq)):Prop where
 nd:(L.map (·.1)).Nodup
 mem:∀ e∈L,0<e.1∧e.2≠[]∧e.2=q.filter fun x=>dAb x == e.1
 all:∀ x∈q,0<dAb x→dAb x∈L.map (·.1)
theorem aQh.look{q:Lqq}{L:List (Int × Lqq)}(h:aQh q L){n:Int}(hn:0<n):aBj L n=q.filter fun x=>dAb x == n:=by
 unfold aBj;cases hf:L.find? fun e=>e.1 == n with
 | some e =>
  have h1:=sH hf;have h2:e.1=n:=by simpa using aPp hf
  rw [← h2];exact (h.mem e h1).2.2
 | none =>
  symm;rw [List.filter_eq_nil_iff];intro x hx he;have he:dAb x=n:=by simpa using he
  obtain ⟨e,h1,h2⟩:=Bs.1 (h.all x hx (by omega))
  have:=aEm.1 hf e h1;exact this (by rw [h2,he];exact beq_self_eq_true n)
theorem bPu{L:List (Int × Lqq)}{k:Int}{v:Lqq}{e:Int × Lqq}(h:e∈aGx L k v):e=(k,v)∨(e∈L∧e.1≠k):=by
 unfold aGx at h
 split at h
 ·obtain ⟨z,hz,rfl⟩:=Bs.1 h
  by_cases hk:z.1=k
  ·left;simp [hk]
  ·right;simp [hk,hz]
 ·rename_i hn
  rcases jX.1 h with h | h
  ·right
   refine ⟨h,fun hk=>hn (List.any_eq_true.2 ⟨e,h,by simpa using hk⟩)⟩
  ·left;simpa using h
theorem bHp{L:List (Int × Lqq)}{k:Int}{v:Lqq}:(k∈L.map (·.1)∧(aGx L k v).map (·.1)=L.map (·.1))∨(k∉L.map (·.1)∧(aGx L k v).map (·.1)=L.map (·.1)++[k]):=by
 unfold aGx
 by_cases h:L.any (fun e=>e.1 == k)=true
 ·left
  rw [if_pos h];refine ⟨?_,?_⟩
  ·obtain ⟨e,h1,h2⟩:=List.any_eq_true.1 h
   exact Bs.2 ⟨e,h1,by simpa using h2⟩
  ·rw [vD]
   refine aBx fun e _ => ?_
   by_cases hk:e.1=k
   ·simp [hk]
   ·simp [hk]
 ·right
  rw [if_neg h];refine ⟨fun hm=>h ?_,by simp⟩
  obtain ⟨e,h1,h2⟩:=Bs.1 hm;exact List.any_eq_true.2 ⟨e,h1,by simpa using h2⟩
theorem aQh.step{q:Lqq}{L:List (Int × Lqq)}(h:aQh q L)(x:List Int)(hx:0≤dAb x):aQh (q++[x]) (jZ L x):=by
 unfold jZ
 by_cases hp:0<dAb x
 ·rw [if_pos hp]
  have hk:=bHp (L:=L) (k:=dAb x) (v:=aBj L (dAb x)++[x]);refine ⟨?_,fun e he => ?_,fun y hy h0 => ?_⟩
  ·rcases hk with ⟨_,hk⟩ | ⟨hn,hk⟩
   ·rw [hk];exact h.nd
   ·rw [hk,List.nodup_append]
    exact ⟨h.nd,by simp,fun a ha b hb he=>hn (by rw [← List.mem_singleton.1 hb,← he];exact ha)⟩
  ·rcases bPu he with rfl | ⟨h1,h2⟩
   ·refine ⟨hp,by simp,?_⟩
    dsimp only;rw [h.look hp,kU];simp
   ·obtain ⟨q1,q2,q3⟩:=h.mem e h1
    refine ⟨q1,q2,?_⟩;rw [kU,← q3];have:[x].filter (fun y=>dAb y == e.1)=[]:=by
     rw [List.filter_eq_nil_iff];intro y hy;simp at hy
     subst hy;simpa using fun he=>h2 he.symm
    rw [this,List.append_nil]
  ·have:dAb y=dAb x∨dAb y∈L.map (·.1):=by
    rcases jX.1 hy with hy | hy
    ·exact .inr (h.all y hy h0)
    ·simp at hy;left;rw [hy]
   rcases hk with ⟨hm,hk⟩ | ⟨hn,hk⟩
   ·rw [hk]
    rcases this with h1 | h1
    ·rw [h1];exact hm
    ·exact h1
   ·rw [hk]
    rcases this with h1 | h1
    ·rw [h1];simp
    ·exact oV _ h1
 ·rw [if_neg hp]
  have h0:dAb x=0:=by omega
  refine ⟨h.nd,fun e he => ?_,fun y hy h1 => ?_⟩
  ·obtain ⟨q1,q2,q3⟩:=h.mem e he
   refine ⟨q1,q2,?_⟩;rw [kU,← q3];have:[x].filter (fun y=>dAb y == e.1)=[]:=by
    rw [List.filter_eq_nil_iff];intro y hy;simp at hy
    subst hy;simp only [beq_iff_eq];omega
   rw [this,List.append_nil]
  ·rcases jX.1 hy with hy | hy
   ·exact h.all y hy h1
   ·simp at hy;rw [hy] at h1;omega
theorem zS:∀ (p q:Lqq) (L:List (Int × Lqq)),aQh q L→(∀ x∈p,0≤dAb x)→aQh (q++p) (p.foldl jZ L)
 | [],q,L,h,_=>by simpa using h
 | x::p,q,L,h,hp=>by
  have:=zS p (q++[x]) (jZ L x) (h.step x (hp x (gL ..))) (fun y hy=>hp y (Cj _ hy))
  simpa using this
theorem nJ{dc:Lqq}(h:bN dc):∀ x∈dc,0≤dAb x∧dAb x≤9998:=fun x hx=>by
 have h1:=iB.1 (h.rng x hx);have ho:=h.ord x hx;unfold orB at ho
 show 0≤x.getD 5 0∧x.getD 5 0≤9998
 split at ho
 ·have:x.getD 5 0=0:=by simpa using ho
  omega
 ·have:=bV.1 ho;omega
theorem aVo{dc:Lqq}(h:bN dc):aQh dc.reverse (abM dc):=by
 have:=zS dc.reverse [] [] ⟨by simp,fun e he=>(by cases he),fun x hx=>(by cases hx)⟩ (fun x hx=>(nJ h x (by simpa using hx)).1)
 simpa [abM] using this
theorem bPv{dc:Lqq}(h:bN dc){n:Int}(hn:0<n):aBj (abM dc) n=cB dc n:=(aVo h).look hn
end
section

def stF(dl:Int)(oc:List Int)(dc:Lqq)(x:List Int):DS:=((bK dl oc dc).find? fun s=>s.x == x).getD (mkS dl oc x [])
def dJ(dl:Int)(oc:List Int)(dc:Lqq)(x:List Int):Bool:=(stF dl oc dc x).cnt
def vE(dl:Int)(oc:List Int)(dc:Lqq)(x:List Int):Bool:=(stF dl oc dc x).upd
def vF(dl:Int)(oc:List Int)(dc:Lqq)(x:List Int):Option (List Int):=(stF dl oc dc x).rul
def aLp(dl:Int)(oc:List Int)(dc:Lqq)(x:List Int):Option (List Int):=(stF dl oc dc x).chg
def kI(dl:Int)(oc:List Int)(dc:Lqq)(x:List Int):Int:=(stF dl oc dc x).much

theorem aQf{a r:Lqq}{x:List Int}(h:bN (a++x::r)){y:List Int}(hy:y∈a):dN y<dN x:=(List.pairwise_append.1 h.up).2.2 y hy x (by simp)
theorem aQg(dl:Int)(oc:List Int){x:List Int}{r:Lqq}:∀ (a:Lqq),bN (a++x::r)→(bK dl oc (a++x::r)).find? (fun s=>s.x == x)=some (mkS dl oc x (bK dl oc r))
 | [],h=>by
  simp only [List.nil_append,bK];rw [List.find?_cons_of_pos];show (mkS dl oc x (bK dl oc r)).x == x;exact beq_self_eq_true x
 | y::a,h=>by
  simp only [List.cons_append,bK];rw [List.find?_cons_of_neg,aQg dl oc a h.tail];show ¬ ((mkS dl oc y (bK dl oc (a++x::r))).x == x)=true;have h1:=aQf h (y:=y) (by simp)
  intro he;have:y=x:=by simpa [mkS] using he
  rw [this] at h1;omega
theorem aFc{dl:Int}{oc:List Int}{a r:Lqq}{x:List Int}(h:bN (a++x::r)):stF dl oc (a++x::r) x=mkS dl oc x (bK dl oc r):=by
 unfold stF;rw [aQg dl oc a h];rfl
theorem aZs(dl:Int)(oc:List Int)(r:Lqq):∀ a:Lqq,∃ l,bK dl oc (a++r)=l++bK dl oc r
 | []=>⟨[],rfl⟩
 | y::a=>by
  obtain ⟨l,h⟩:=aZs dl oc r a;exact ⟨mkS dl oc y (bK dl oc (a++r))::l,by simp [bK,h]⟩
theorem aZt{dl:Int}{oc:List Int}{s:DS}:∀ {dc:Lqq},s∈bK dl oc dc→∃ a r,dc=a++s.x::r∧s=mkS dl oc s.x (bK dl oc r)
 | [],h=>by simp [bK] at h
 | y::q,h=>by
  simp only [bK,fU] at h
  rcases h with rfl | h
  ·exact ⟨[],q,rfl,rfl⟩
  ·obtain ⟨a,r,h1,h2⟩:=aZt h
   exact ⟨y::a,r,by rw [h1];rfl,h2⟩
theorem aJc{dl:Int}{oc:List Int}{dc:Lqq}{s:DS}(h:bN dc)(hs:s∈bK dl oc dc):stF dl oc dc s.x=s:=by
 obtain ⟨a,r,h1,h2⟩:=aZt hs;subst h1;rw [aFc h,← h2]
theorem aVm{dl:Int}{oc:List Int}{dc:Lqq}{x:List Int}(h:bN dc)(hx:x∈dc):(stF dl oc dc x).x=x:=by
 obtain ⟨a,r,rfl⟩:=List.append_of_mem hx;rw [aFc h];rfl
theorem tP{dl:Int}{oc:List Int}{a r:Lqq}{x:List Int}(h:bN (a++x::r)):cX (bK dl oc r) (dN x)=(cB (a++x::r) (dN x)).map (stF dl oc (a++x::r)):=by
 rw [aVn h,← bWf dl oc r (dN x),vD]
 conv=>lhs;rw [← List.map_id (cX (bK dl oc r) (dN x))]
 refine aBx fun s hs => ?_
 have hs:s∈bK dl oc r:=by
  unfold cX at hs
  exact zM.1 (kK.1 hs).1
 have e:a++x::r=(a++[x])++r:=by simp
 have:s∈bK dl oc (a++x::r):=by
  obtain ⟨l,hl⟩:=aZs dl oc r (a++[x]);rw [e,hl];exact aBw _ hs
 exact (aJc h this).symm

theorem eU{dc:Lqq}{n:Int}{y:List Int}(h:y∈cB dc n):y∈dc∧dAb y=n:=by
 unfold cB at h
 obtain ⟨h1,h2⟩:=kK.1 h;exact ⟨zM.1 h1,by simpa using h2⟩
section
variable {dl:Int} {oc:List Int} {dc:Lqq} {x:List Int}
theorem cEt(h:bN dc)(l:Lqq)(hl:∀ y∈l,y∈dc)(f:DS→Bool)(g:List Int→Bool)(hfg:∀ y∈dc,f (stF dl oc dc y)=g y):(l.map (stF dl oc dc)).any f=l.any g:=by
 rw [List.any_map]
 induction l with
 | nil=>rfl
 | cons y l ih =>
  rw [List.any_cons,List.any_cons,ih fun z hz=>hl z (Cj _ hz)]
  rw [Function.comp,hfg y (hl y (gL ..))]
theorem aCm(h:bN dc)(l:Lqq)(hl:∀ y∈l,y∈dc)(f:DS→Bool)(g:List Int→Bool)(hfg:∀ y∈dc,f (stF dl oc dc y)=g y):(l.map (stF dl oc dc)).find? f=(l.find? g).map (stF dl oc dc):=by
 induction l with
 | nil=>rfl
 | cons y l ih =>
  rw [fZ,List.find?_cons,List.find?_cons,hfg y (hl y (gL ..)),ih fun z hz=>hl z (Cj _ hz)]
  cases g y <;> rfl
theorem cEu(h:bN dc)(hx:x∈dc):dJ dl oc dc x=(!iC dl x && !((cB dc (dN x)).any fun y=>vT x y && dJ dl oc dc y && (dK y == 5 || vE dl oc dc y))):=by
 obtain ⟨a,r,rfl⟩:=List.append_of_mem hx;unfold dJ;rw [aFc h];simp only [mkS];rw [tP h,cEt (dl:=dl) (oc:=oc) h _ (fun y hy=>(eU hy).1) (sD x) (fun y=>vT x y && dJ dl oc (a++x::r) y && (dK y == 5 || vE dl oc (a++x::r) y)) (fun y hy => ?_)]
 ·rfl
 ·unfold sD dJ vE
  rw [aVm h hy]
theorem vS{l:Lqq}{g:List Int→Bool}{y:List Int}(h:l.find? g=some y):y∈l:=sH h
theorem aFd(h:bN dc)(l:Lqq)(hl:∀ y∈l,y∈dc)(g:List Int→Bool):((l.find? g).map (stF dl oc dc)).map (·.x)=l.find? g:=by
 cases hf:l.find? g with
 | none=>rfl
 | some y=>simp only [Option.map_some];rw [aVm h (hl y (vS hf))]
theorem aFe(h:bN dc)(hx:x∈dc):vF dl oc dc x=(cB dc (dN x)).find? fun y=>cR (dK y) && dJ dl oc dc y:=by
 obtain ⟨a,r,rfl⟩:=List.append_of_mem hx;unfold vF;rw [aFc h];simp only [mkS];rw [tP h,aCm (dl:=dl) (oc:=oc) h _ (fun y hy=>(eU hy).1) _ (fun y=>cR (dK y) && dJ dl oc (a++x::r) y) (fun y hy => ?_),aFd h _ (fun y hy=>(eU hy).1)]
 unfold dJ;rw [aVm h hy]
theorem cEv(h:bN dc)(hx:x∈dc):vE dl oc dc x=match vF dl oc dc x with | some y=>dK y == 8 | none=>oc.contains (dN x):=by
 rw [aFe h hx];obtain ⟨a,r,rfl⟩:=List.append_of_mem hx;unfold vE;rw [aFc h];simp only [mkS];rw [tP h,aCm (dl:=dl) (oc:=oc) h _ (fun y hy=>(eU hy).1) _ (fun y=>cR (dK y) && dJ dl oc (a++x::r) y) (fun y hy => ?_)]
 ·cases hf:(cB (a++x::r) (dN x)).find? fun y=>cR (dK y) && dJ dl oc (a++x::r) y with
  | none=>rfl
  | some y=>simp only [Option.map_some];rw [aVm h (eU (vS hf)).1]
 ·unfold dJ;rw [aVm h hy]
theorem aFf(h:bN dc)(hx:x∈dc):aLp dl oc dc x=(cB dc (dN x)).find? fun y=>dK y == 6 && dJ dl oc dc y:=by
 obtain ⟨a,r,rfl⟩:=List.append_of_mem hx;unfold aLp;rw [aFc h];simp only [mkS];rw [tP h,aCm (dl:=dl) (oc:=oc) h _ (fun y hy=>(eU hy).1) _ (fun y=>dK y == 6 && dJ dl oc (a++x::r) y) (fun y hy => ?_),aFd h _ (fun y hy=>(eU hy).1)]
 unfold dJ;rw [aVm h hy]
theorem aZu(h:bN dc)(hx:x∈dc):kI dl oc dc x=match aLp dl oc dc x with | some y=>kI dl oc dc y | none=>dMu x:=by
 rw [aFf h hx];obtain ⟨a,r,rfl⟩:=List.append_of_mem hx;unfold kI;rw [aFc h];simp only [mkS];rw [tP h,aCm (dl:=dl) (oc:=oc) h _ (fun y hy=>(eU hy).1) _ (fun y=>dK y == 6 && dJ dl oc (a++x::r) y) (fun y hy => ?_)]
 ·cases hf:(cB (a++x::r) (dN x)).find? fun y=>dK y == 6 && dJ dl oc (a++x::r) y with
  | none=>rfl
  | some y=>rfl
 ·unfold dJ;rw [aVm h hy]
theorem bPt(h:bN dc){y:List Int}(hy:y∈dc){n:Int}(hn:dAb y=n)(h1:1≤n):n<dN y:=by
 have ho:=h.ord y hy;unfold orB at ho
 split at ho
 ·have:y.getD 5 0=0:=by simpa using ho
  rw [show y.getD 5 0=dAb y from rfl] at this;omega
 ·have:=bV.1 ho
  rw [show y.getD 5 0=dAb y from rfl] at this
  rw [show y.getD 0 0=dN y from rfl] at this
  omega
end
end
section
abbrev Acc:=Bool × Bool × Int × Int × Int × Bool
def aUh(n kx:Int)(A:Acc)(s:DS):Acc :=
 (if (dAb s.x=n∧s.cnt=true)∧(dK s.x=5∨(dK s.x=7∧s.upd=true∧kx<8)) then false else A.1,
  if (dAb s.x=n∧s.cnt=true)∧7<dK s.x∧A.2.2.2.2.2=false then dK s.x == 8 else A.2.1,
  if (dAb s.x=n∧s.cnt=true)∧dK s.x=6∧A.2.2.2.2.1=0 then s.much else A.2.2.1,
  if (dAb s.x=n∧s.cnt=true)∧7<dK s.x∧A.2.2.2.2.2=false then dN s.x else A.2.2.2.1,
  if (dAb s.x=n∧s.cnt=true)∧dK s.x=6∧A.2.2.2.2.1=0 then dN s.x else A.2.2.2.2.1,
  if (dAb s.x=n∧s.cnt=true)∧7<dK s.x then true else A.2.2.2.2.2)
def cT(dl:Int)(s:DS):RS:=(iC dl s.x,s.cnt,eY (dK s.x) && (s.cnt && s.rul.isNone),s.upd,s.much,(s.rul.map dN).getD 0,(s.chg.map dN).getD 0)
def N0:RS:=(false,false,false,false,0,0,0)
theorem bUs{α:Type}{E:α→List PV}{k:Nat}(hE:∀ a,(E a).length=k){l:List α}{i:Nat}(hi:i<l.length)(e:α):((l.set i e).map E).flatten=((l.map E).flatten).take (i*k)++E e++((l.map E).flatten).drop (i*k+k):=by
 have h1:l.set i e=l.take i++e::l.drop (i+1):=by rw [List.set_eq_take_append_cons_drop,if_pos hi]
 have h2:l=l.take i++l[i]::l.drop (i+1):=by rw [← aKx hi,aPm]
 have hlen:((l.take i).map E).flatten.length=i*k:=by rw [aCl hE,mJ];congr 1;omega
 have h3:(l.map E).flatten=((l.take i).map E).flatten++(E l[i]++((l.drop (i+1)).map E).flatten):=by
  have e2:=congrArg (fun l=>(l.map E).flatten) h2
  simp only [fM,fZ,aPn,vC] at e2
  exact e2
 rw [h1,h3,← hlen,List.take_left,fM,fZ,aPn,vC];have hd:(((l.take i).map E).flatten++(E l[i]++((l.drop (i+1)).map E).flatten)).drop (((l.take i).map E).flatten.length+k)=((l.drop (i+1)).map E).flatten:=by
  rw [← hE l[i],← iF,← List.append_assoc,List.drop_left]
 rw [hd,List.append_assoc]
theorem cBl(i:Nat)(e:RS)(T:List RS):(List.replicate (i+1) N0++T).set i e=List.replicate i N0++e::T:=by
 rw [List.set_append_left _ _ (by simp),List.replicate_succ',List.set_append_right _ _ (by simp)]
 simp
section
variable {dl:Int} {sk dc:Lqq} {q:List Int} {i:Int} {L:List RS} {Aa Ab Ac Ad Ae Af:Int}
theorem bPa{A:Acc}{lt:Bool}(hlt:lt=(eY Ab && decide (dl<Ac)))(h0:0≤i)(hx:dc[i.toNat]? = some [Aa,Ab,Ac,Ad,Ae,Af])(hu:uni 6 dc)(hil:i<(L.length:Int))(hLl:L.length≤1000)
  (H1:∀ l a,aE Tp 0 (sub (cd Tryz.f75) [1,1,0,1,0,0,1,0,0,1,1,1,1,1,1,0,1,0,0]) (cG dl sk dc q i L Aa Ab Ac Ad Ae Af ((L.length:Int)-(1:Int)) l a (!lt) false Ae 0 0 false) (.exit 2) (cG dl sk dc q i L Aa Ab Ac Ad Ae Af i l a A.1 A.2.1 A.2.2.1 A.2.2.2.1 A.2.2.2.2.1 A.2.2.2.2.2))
  (H2:∀ l c m b f o u,aE Tp 0 (sub (cd Tryz.f75) [1,1,0,1,0,0,1,0,0,1,1,1,1,1,1,1,1,0,1,0,0]) (eN dl sk dc q i L Aa Ab Ac Ad Ae Af l c m b f A.2.2.2.2.2 0 o u) (.exit 4) (eN dl sk dc q i L Aa Ab Ac Ad Ae Af l c m b f A.2.2.2.2.2 q.length o (u || (!A.2.2.2.2.2 && q.contains Aa)))) :
  aC Tp 0 (sub (cd Tryz.f75) [1,1,0,1,0,0]) (gX dl sk dc q i L.length ((L.map rsE).flatten)) .normal (gX dl sk dc q (i-1) (L.set i.toNat (lt,A.1,eY Ab && (A.1 && !A.2.2.2.2.2),A.2.1 || (!A.2.2.2.2.2 && q.contains Aa),A.2.2.1,A.2.2.2.1,A.2.2.2.2.1)).length (((L.set i.toNat (lt,A.1,eY Ab && (A.1 && !A.2.2.2.2.2),A.2.1 || (!A.2.2.2.2.2 && q.contains Aa),A.2.2.1,A.2.2.2.1,A.2.2.2.2.1)).map rsE).flatten)):=by
 have hi:i.toNat<L.length:=by omega
 have hin:inR ((L.length:Int)-(1:Int)):=by unfold inR;omega
 have Ju:inR (i-(1:Int)):=by unfold inR;omega
 have hc:∀ o:Bool,[(blP lt),(blP A.1),(blP o),(blP (A.2.1 || (!A.2.2.2.2.2 && q.contains Aa))),(aA A.2.2.1),(aA A.2.2.2.1),(aA A.2.2.2.2.1)].length=7∧(i.toNat*7)+7≤((L.map rsE).flatten).length:=fun o=>⟨rfl,by
  rw [aCl (k:=7) (fun _=>rfl)]
  have:=Nat.mul_le_mul_right 7 (show i.toNat+1≤L.length from hi)
  omega⟩
 have hs:=fun e=>bUs (E:=rsE) (k:=7) (fun _=>rfl) hi e
 by_cases h4:Ab=4
 ·have e1:lt=decide (Ac > dl):=by rw [hlt,h4];rfl
  have e2:eY Ab=true:=by rw [h4];rfl
  have H1':=H1 lt true;have ht:decide (Ac > dl)=lt:=e1.symm;rw [e2];cases hA:A.1 with
  | true =>
   rw [hA] at H1'
   exact bEn (Dj:=true) (A0:=true) h0 hx h0 hu h4 hin (by rw [ht];exact H1') rfl rfl (H2 _ _ _ _ _ _ _) ⟨h0,hil⟩ (by have:=hc (!A.2.2.2.2.2);rw [hA] at this;exact this) Ju rfl (by rw [nZ]) (hs _)
  | false =>
   rw [hA] at H1'
   exact bEo (Dj:=true) (A0:=false) h0 hx h0 hu h4 hin (by rw [ht];exact H1') rfl rfl (H2 _ _ _ _ _ _ _) ⟨h0,hil⟩ (by have:=hc false;rw [hA] at this;exact this) Ju rfl (by rw [nZ]) (hs _)
 ·by_cases h7:Ab=7
  ·have e1:lt=decide (Ac > dl):=by rw [hlt,h7];rfl
   have e2:eY Ab=true:=by rw [h7];rfl
   have H1':=H1 lt (Ab == 7);have ht:decide (Ac > dl)=lt:=e1.symm;have ha:(Ab == 7)=true:=by rw [h7];rfl
   rw [e2];cases hA:A.1 with
   | true =>
    rw [hA] at H1'
    exact bEp (A0:=true) h0 hx h0 hu h4 h7 hin (by rw [ht];exact H1') ha rfl (H2 _ _ _ _ _ _ _) ⟨h0,hil⟩ (by have:=hc (!A.2.2.2.2.2);rw [hA] at this;exact this) Ju rfl (by rw [nZ]) (hs _)
   | false =>
    rw [hA] at H1'
    exact bEq (A0:=false) h0 hx h0 hu h4 h7 hin (by rw [ht];exact H1') ha rfl (H2 _ _ _ _ _ _ _) ⟨h0,hil⟩ (by have:=hc false;rw [hA] at this;exact this) Ju rfl (by rw [nZ]) (hs _)
  ·have e2:eY Ab=false:=by unfold eY;simp [h4,h7]
   have e1:lt=false:=by rw [hlt,e2];rfl
   have ha:(Ab == 7)=false:=by simpa using h7
   rw [e1] at H1 hc ⊢
   rw [e2];exact bEr h0 hx h0 hu h4 h7 hin (H1 false (Ab == 7)) ha (H2 _ _ _ _ _ _ _) ⟨h0,hil⟩ (hc false) Ju rfl (by rw [nZ]) (hs _)
theorem bUt(l c:Bool)(m b f:Int)(r o:Bool)(u:Bool)(hq:q.length≤1000):aE Tp 0 (sub (cd Tryz.f75) [1,1,0,1,0,0,1,0,0,1,1,1,1,1,1,1,1,0,1,0,0]) (eN dl sk dc q i L Aa Ab Ac Ad Ae Af l c m b f r 0 o u) (.exit 4) (eN dl sk dc q i L Aa Ab Ac Ad Ae Af l c m b f r q.length o (u || (!r && q.contains Aa))):=by
 have:=aE.range (P:=Tp) (k:=0) (b:=sub (cd Tryz.f75) [1,1,0,1,0,0,1,0,0,1,1,1,1,1,1,1,1,0,1,0,0]) (e := .exit 4) (fun n u=>eN dl sk dc q i L Aa Ab Ac Ad Ae Af l c m b f r n o u) (fun u=>eN dl sk dc q i L Aa Ab Ac Ad Ae Af l c m b f r q.length o u) (fun u (y:Int)=>u || (!r && y == Aa)) (fun _ _=>True) (by simp) q (a0:=u) trivial
  (fun n y u hy _=>by
   have hn:=aO hy;refine ⟨trivial,?_⟩;cases r with
   | true=>rw [show (u || (!true && y == Aa))=u by simp];exact bEx (by omega) rfl (aH (by omega)) rfl
   | false =>
    by_cases he:y=Aa
    ·rw [show (u || (!false && y == Aa))=true by simp [he]];exact bEv (by omega) rfl hy he (aH (by omega)) rfl
    ·rw [show (u || (!false && y == Aa))=u by simp [he]];exact bEw (by omega) rfl hy he (aH (by omega)) rfl)
  (fun u _=>bEy (by omega))
 have e:∀ (q:List Int) (u:Bool),q.foldl (fun u (y:Int)=>u || (!r && y == Aa)) u=(u || (!r && q.contains Aa)):=by
  intro q
  induction q with
  | nil=>intro u;simp
  | cons a q ih =>
   intro u;rw [lE,ih,List.contains_cons];cases u <;> cases r <;> simp [Bool.or_assoc,eq_comm,BEq.comm]
 rw [e] at this
 exact this
end
end
section
theorem aUg(s:DS)(T:List DS)(n:Int):cX (s::T) n=cX T n++(if dAb s.x=n then [s] else []):=by
 unfold cX;rw [List.reverse_cons,kU]
 congr 1
 by_cases h:dAb s.x=n
 ·rw [if_pos h,List.filter_cons_of_pos (by simpa using h)];rfl
 ·rw [if_neg h,List.filter_cons_of_neg (by simpa using h)];rfl
abbrev prB(s:DS):Bool:=cR (dK s.x) && s.cnt
abbrev pcB(s:DS):Bool:=dK s.x == 6 && s.cnt
def uOf:Option DS→Bool
 | some s=>dK s.x == 8
 | none=>false
def mOf(x:List Int):Option DS→Int
 | some s=>s.much
 | none=>dMu x
def nOf:Option DS→Int
 | some s=>dN s.x
 | none=>0
def nR(x:List Int)(c0:Bool)(l:List DS):Acc :=
 (c0 && !(l.any (sD x)),uOf (l.find? prB),mOf x (l.find? pcB),nOf (l.find? prB),nOf (l.find? pcB),(l.find? prB).isSome)
theorem Me(p:DS→Bool)(s:DS):[s].find? p=if p s=true then some s else none:=by
 cases h:p s with
 | true=>rw [List.find?_cons_of_pos h];rfl
 | false=>rw [List.find?_cons_of_neg (by rw [h];simp)];rfl
theorem aPu{x:List Int}(hx:dK x≤9){s:DS}(hc:s.cnt=true):sD x s=true↔(dK s.x=5∨dK s.x=7∧s.upd=true∧dK x<8):=by
 have V7:(dK x<8)↔cR (dK x)=false:=by
  unfold cR;rw [Bool.or_eq_false_iff,beq_eq_false_iff_ne,beq_eq_false_iff_ne];constructor
  ·intro h;constructor <;> omega
  ·rintro ⟨h2,h3⟩;omega
 rw [V7];unfold sD vT;rw [hc];simp only [B7,wN,beq_iff_eq,Bool.not_eq_true',and_true];constructor
 ·rintro ⟨h2 | ⟨h2,h3⟩,h4 | h4⟩
  ·exact .inl h2
  ·exact .inl h2
  ·exact .inl h4
  ·exact .inr ⟨h2,h4,h3⟩
 ·rintro (h2 | ⟨h2,h3,h4⟩)
  ·exact ⟨.inl h2,.inl h2⟩
  ·exact ⟨.inr ⟨h2,h4⟩,.inr h3⟩
theorem bEm{x:List Int}(hx:dK x≤9)(c0:Bool){l:List DS}(hl:∀ s∈l,1≤dN s.x){s:DS}(hs:dK s.x≤9):aUh (dN x) (dK x) (nR x c0 l) s=nR x c0 (l++(if dAb s.x=dN x then [s] else [])):=by
 by_cases h1:dAb s.x=dN x
 ·rw [if_pos h1]
  have V9:(7<dK s.x)↔cR (dK s.x)=true:=by
   unfold cR;rw [wN,beq_iff_eq,beq_iff_eq];omega
  have hf:(nOf (l.find? pcB)=0)↔(l.find? pcB)=none:=by
   cases hc:l.find? pcB with
   | none=>exact ⟨fun _=>rfl,fun _=>rfl⟩
   | some y =>
    have:=hl y (sH hc);exact ⟨fun h=>absurd (show dN y.x=0 from h) (by omega),fun h=>by cases h⟩
  unfold nR;rw [List.any_append,List.find?_append,List.find?_append,Me,Me,List.any_cons,List.any_nil,Bool.or_false];cases hc:s.cnt with
  | false =>
   have e1:sD x s=false:=by unfold sD;rw [hc,Bool.and_false,Bool.false_and]
   have e2:¬ prB s=true:=by show ¬ (cR (dK s.x) && s.cnt)=true;rw [hc,Bool.and_false];simp
   have e3:¬ pcB s=true:=by show ¬ (dK s.x == 6 && s.cnt)=true;rw [hc,Bool.and_false];simp
   rw [if_neg e2,if_neg e3,e1,Bool.or_false,Option.or_none,Option.or_none];unfold aUh;have hn:¬ (dAb s.x=dN x∧s.cnt=true):=by rw [hc];simp
   rw [if_neg (fun q=>hn q.1),if_neg (fun q=>hn q.1),if_neg (fun q=>hn q.1),if_neg (fun q=>hn q.1),if_neg (fun q=>hn q.1),if_neg (fun q=>hn q.1)]
  | true =>
   have hh:dAb s.x=dN x∧s.cnt=true:=⟨h1,hc⟩;have p1:(prB s=true)↔7<dK s.x:=by
    rw [V9];show (cR (dK s.x) && s.cnt)=true↔_;rw [hc,Bool.and_true]
   have p2:(pcB s=true)↔dK s.x=6:=by
    show (dK s.x == 6 && s.cnt)=true↔_;rw [hc,Bool.and_true,beq_iff_eq]
   unfold aUh;refine Prod.ext ?_ (Prod.ext ?_ (Prod.ext ?_ (Prod.ext ?_ (Prod.ext ?_ ?_))))
   ·show (if (dAb s.x=dN x∧s.cnt=true)∧(dK s.x=5∨dK s.x=7∧s.upd=true∧dK x<8) then false else (c0 && !(l.any (sD x))))=(c0 && !(l.any (sD x) || sD x s))
    by_cases h:dK s.x=5∨dK s.x=7∧s.upd=true∧dK x<8
    ·rw [if_pos ⟨hh,h⟩,(aPu hx hc).2 h];simp
    ·rw [if_neg (fun q=>h q.2),show sD x s=false from Bool.eq_false_iff.2 fun q=>h ((aPu hx hc).1 q)];simp
   ·show (if (dAb s.x=dN x∧s.cnt=true)∧7<dK s.x∧(l.find? prB).isSome=false then dK s.x == 8 else uOf (l.find? prB))=uOf ((l.find? prB).or (if prB s=true then some s else none))
    cases hr:l.find? prB with
    | some y=>rw [if_neg (fun q=>by cases q.2.2)];rfl
    | none =>
     by_cases h7:7<dK s.x
     ·rw [if_pos ⟨hh,h7,rfl⟩,if_pos (p1.2 h7)];rfl
     ·rw [if_neg (fun q=>h7 q.2.1),if_neg (fun q=>h7 (p1.1 q))];rfl
   ·show (if (dAb s.x=dN x∧s.cnt=true)∧dK s.x=6∧nOf (l.find? pcB)=0 then s.much else mOf x (l.find? pcB))=mOf x ((l.find? pcB).or (if pcB s=true then some s else none))
    cases hr:l.find? pcB with
    | some y =>
     rw [hr] at hf
     rw [if_neg (fun q=>by cases hf.1 q.2.2)];rfl
    | none =>
     by_cases h7:dK s.x=6
     ·rw [if_pos ⟨hh,h7,rfl⟩,if_pos (p2.2 h7)];rfl
     ·rw [if_neg (fun q=>h7 q.2.1),if_neg (fun q=>h7 (p2.1 q))];rfl
   ·show (if (dAb s.x=dN x∧s.cnt=true)∧7<dK s.x∧(l.find? prB).isSome=false then dN s.x else nOf (l.find? prB))=nOf ((l.find? prB).or (if prB s=true then some s else none))
    cases hr:l.find? prB with
    | some y=>rw [if_neg (fun q=>by cases q.2.2)];rfl
    | none =>
     by_cases h7:7<dK s.x
     ·rw [if_pos ⟨hh,h7,rfl⟩,if_pos (p1.2 h7)];rfl
     ·rw [if_neg (fun q=>h7 q.2.1),if_neg (fun q=>h7 (p1.1 q))];rfl
   ·show (if (dAb s.x=dN x∧s.cnt=true)∧dK s.x=6∧nOf (l.find? pcB)=0 then dN s.x else nOf (l.find? pcB))=nOf ((l.find? pcB).or (if pcB s=true then some s else none))
    cases hr:l.find? pcB with
    | some y =>
     rw [hr] at hf
     rw [if_neg (fun q=>by cases hf.1 q.2.2)];rfl
    | none =>
     by_cases h7:dK s.x=6
     ·rw [if_pos ⟨hh,h7,rfl⟩,if_pos (p2.2 h7)];rfl
     ·rw [if_neg (fun q=>h7 q.2.1),if_neg (fun q=>h7 (p2.1 q))];rfl
   ·show (if (dAb s.x=dN x∧s.cnt=true)∧7<dK s.x then true else (l.find? prB).isSome)=((l.find? prB).or (if prB s=true then some s else none)).isSome
    by_cases h7:7<dK s.x
    ·rw [if_pos ⟨hh,h7⟩,if_pos (p1.2 h7)]
     cases l.find? prB <;> rfl
    ·rw [if_neg (fun q=>h7 q.2),if_neg (fun q=>h7 (p1.1 q)),Option.or_none]
 ·rw [if_neg h1,List.append_nil]
  unfold aUh;rw [if_neg (fun q=>h1 q.1.1),if_neg (fun q=>h1 q.1.1),if_neg (fun q=>h1 q.1.1),if_neg (fun q=>h1 q.1.1),if_neg (fun q=>h1 q.1.1),if_neg (fun q=>h1 q.1.1)]
theorem aPv{x:List Int}(hx:dK x≤9)(c0:Bool):∀ {T:List DS},(∀ s∈T,1≤dN s.x∧dK s.x≤9)→T.reverse.foldl (aUh (dN x) (dK x)) (c0,false,dMu x,0,0,false)=nR x c0 (cX T (dN x))
 | [],_=>by
  show (c0,false,dMu x,(0:Int),(0:Int),false)=(c0 && true,false,dMu x,(0:Int),(0:Int),false);rw [Bool.and_true]
 | s::T,h=>by
  rw [List.reverse_cons,aBy,aPv hx c0 (fun y hy=>h y (Cj _ hy)),lE,List.foldl_nil,aUg]
  refine bEm hx c0 (fun y hy => ?_) (h s (gL ..)).2
  unfold cX at hy
  exact (h y (Cj _ (zM.1 (kK.1 hy).1))).1
end
section

theorem cKw{dc:Lqq}{base:Nat}:FV Tp 147 [(.p (fS dc))] base (.fn 187 [] [(.rp [(fS dc)] 0)]) []:=FV.fi func147 [.g 3 ⟨[],[],[0],[]⟩] gn
end
section
variable {P:Program} {C C0:Cx} {M M0:Mem} {w w0:World}

theorem cE{w:World}{b:Nat}{o:Obj}(h:w.heap[b]? = some o):b<w.heap.size:=(nA.1 h).1

theorem aFp(hM:aT P C M w){w':World}(hsz:w.heap.size≤w'.heap.size)(hF:∀ b,C.F b→w'.heap[b]? = w.heap[b]?)(hL:∀ (id:Nat) (o:AO) (b:Nat),M[id]? = some (some o)→o.live=true→C.ι id=some b→w'.heap[b]? = w.heap[b]?) :
  aT P C M w'∧Le C C M M w w':=by
 have hle:Le C C M M w w':=⟨fun _ o h=>⟨o,h⟩,fun _ _ _ _ _ cs h=>⟨cs,h⟩,fun _ o h o' h' hl=>by rw [h] at h';cases h';exact ⟨hl,rfl,rfl⟩,fun _ h=>h,hF⟩
 refine ⟨⟨fun i Dh n cs hm => ?_,fun i Dh cs hm => ?_,fun i es cl hm => ?_,hM.inj,hM.nF,fun b hb=>fY (hM.Fs b hb) hsz,fun i x b hm hl hb=>fY (hM.lt i x b hm hl hb) hsz⟩,hle⟩
 ·rcases hM.row _ _ _ _ hm with h4 | ⟨b,arr,inf,q0,q1,q2,q3,q4,q5,q6,q7,q8⟩
  ·exact .inl h4
  ·exact .inr ⟨b,arr,inf,q0,by rw [hL _ _ _ hm rfl q0];exact q1,q2,q3,q4,q5,q6,fun j hj=>(q7 j hj).mono hle.F hle.fz,q8⟩
 ·obtain ⟨b,arr,q0,q1,q2,q3,q4⟩:=hM.box _ _ _ hm
  exact ⟨b,arr,q0,by rw [hL _ _ _ hm rfl q0];exact q1,q2,fun j hj=>(q3 j hj).mono hle,q4⟩
 ·obtain ⟨b,arr,q0,q1,q2,q3⟩:=hM.mp _ _ _ hm
  refine ⟨b,arr,q0,by rw [hL _ _ _ hm rfl q0];exact q1,q2,fun j hj => ?_⟩
  obtain ⟨en,r1,r2,r3,r4⟩:=q3 j hj;exact ⟨en,r1,r2,r3,r4.mono hle.F hle.fz⟩

theorem Sim.beside{R R':List (Nat × Obj)}{st:St}{a:Act}{w':World}(h:Sim P (C0.with R) M0 w0 st a w)(X:Nat→Prop)(hX:∀ b,X b→∃ o,(b,o)∈R)(h1:w'.os=w.os)(h2:w'.tape=w.tape)(h3:w'.output=w.output)
  (hsz:w.heap.size≤w'.heap.size) (hk:∀ b,b<w.heap.size→¬ X b→w'.heap[b]? = w.heap[b]?)
  (Ve:∀ p∈R',(p∈R∧¬ X p.1)∨(w'.heap[p.1]? = some p.2∧p.2 ≠ .deferred (some [])∧(w.heap.size≤p.1∨∃ o,(p.1,o)∈R))):Sim P (C0.with R') M0 w0 st a w':=by
 obtain ⟨C,hS,hM,hF,⟨l,m1,m2,m3⟩,hR,hP⟩:=h;have hXR:∀ b,X b→∃ o,w.heap[b]? = some o∧w0.heap.size≤b∧o ≠ .deferred (some [])∧¬ C.F b∧∀ (id:Nat) (o:AO),st.m[id]? = some (some o)→o.live=true→C.ι id≠some b:=fun b hb=>by
  obtain ⟨o,ho⟩:=hX b hb;exact ⟨o,hR _ ho⟩
 have hFz:∀ b,C.F b→w'.heap[b]? = w.heap[b]? := fun b hb=>hk b (hM.Fs b hb) (fun hx=>by obtain ⟨_,_,_,_,q,_⟩:=hXR b hx;exact q hb)
 have hLv:∀ (id:Nat) (o:AO) (b:Nat),st.m[id]? = some (some o)→o.live=true→C.ι id=some b→w'.heap[b]? = w.heap[b]? := fun id o b ho hl hb=>hk b (hM.lt _ _ _ ho hl hb) (fun hx=>by obtain ⟨_,_,_,_,_,q⟩:=hXR b hx;exact q id o ho hl hb)
 obtain ⟨G2,hle⟩:=aFp hM hsz hFz hLv;refine ⟨C,hS.le hle,G2,⟨h1.trans hF.os,h2.trans hF.tape,h3.trans hF.out,fB hF.size hsz,fun b hb hn=>(hk b (fY hb hF.size) (fun hx=>by obtain ⟨_,_,q,_⟩:=hXR b hx;omega)).trans (hF.keep b hb hn),hF.ids,hF.row,hF.liv,hF.new,hF.F1,hF.F2⟩,⟨l,m1,m2,fun D hD => ?_⟩,fun p hp => ?_,fun i to ti sz L hm => ?_,hP.2⟩
 ·obtain ⟨q1,q2,q3⟩:=m3 D hD
  refine ⟨(hk D (cE q1) (fun hx => ?_)).trans q1,q2,q3⟩
  obtain ⟨o,r1,_,r3,_⟩:=hXR D hx;rw [q1] at r1;cases r1;exact r3 rfl
 ·rcases Ve p hp with ⟨hin,hx⟩ | ⟨r1,r2,r3⟩
  ·obtain ⟨q1,q2,q3,q4,q5⟩:=hR p hin
   exact ⟨(hk _ (cE q1) hx).trans q1,q2,q3,q4,q5⟩
  ·rcases r3 with r3 | ⟨o,ho⟩
   ·refine ⟨r1,fB hF.size r3,r2,fun hf => ?_,fun id o ho hl hb => ?_⟩
    ·have:=hM.Fs _ hf;omega
    ·have:=hM.lt _ _ _ ho hl hb;omega
   ·obtain ⟨q1,q2,q3,q4,q5⟩:=hR _ ho
    exact ⟨r1,q2,r2,q4,q5⟩
 ·obtain ⟨p,p0,p1⟩:=hP.1 _ _ _ _ _ hm
  refine ⟨p.move p.io rfl (fun _ h=>h) hFz fun b hb=>⟨hk b (p.lt hb).1 fun hx => ?_,p.own b hb⟩,p0,fun b hb=>⟨(p1 b hb).1,fun q hq e => ?_⟩⟩
  ·obtain ⟨o,ho⟩:=hX b hx
   exact (p1 b hb).2 _ ho rfl
  ·rcases Ve q hq with ⟨hin,_⟩ | ⟨_,_,r3⟩
   ·exact (p1 b hb).2 q hin e
   ·rcases r3 with r3 | ⟨o,ho⟩
    ·have:=(p.lt hb).1;omega
    ·exact (p1 b hb).2 _ ho e

theorem Sim.has{R:List (Nat × Obj)}{st:St}{a:Act}(h:Sim P (C0.with R) M0 w0 st a w):∀ p∈R,w.heap[p.1]? = some p.2:=fun p hp=>by
 obtain ⟨C,_,_,_,_,hR,_⟩:=h;exact (hR p hp).1

end
section
open Go.Maps Go.MapKept
open Go.ChangeMaps (setBlock)

structure Ent where
 k:Int
 l:Lqq
 b:Nat
 cap:Nat
 arr:Array Value

def Ent.val(e:Ent):Value := .slice (some ⟨e.b,0,none⟩) e.l.length e.cap
def Ent.blk(e:Ent):Nat × Obj:=(e.b,.cells e.arr 44 (0,0))
structure Ent.OK (e:Ent):Prop where
 key:(Lit.int .i64 e.k).wf=true
 sz:e.arr.size=e.cap*6
 le:e.l.length≤e.cap
 cap:e.cap≤maxLen
 at_:e.arr.toList.take (e.l.length*6)=e.l.flatten.map (Value.int .i64)
 u:uni 6 e.l

structure mW (mb:Nat) (es:Array MapEntry) (L:List Ent):Prop where
 e1:∀ x∈es.toList,∃ e∈L,x.key = .int .i64 e.k∧x.val=e.val
 e2:∀ e∈L,∃ x∈es.toList,x.key = .int .i64 e.k∧x.val=e.val
 nd:es.toList.Pairwise (fun x y=>x.key≠y.key)
 ok:∀ e∈L,e.OK
 keys:(L.map (·.k)).Nodup
 blks:(mb::L.map (·.b)).Nodup
 ord:es.toList.map (fun x=>(x.key,x.val))=L.map fun e=>(Value.int .i64 e.k,e.val)

theorem mW.nil(mb:Nat):mW mb #[] []:=⟨fun x h=>by simp at h,fun e h=>by simp at h,by simp,fun e h=>by simp at h,by simp,by simp,rfl⟩

def tW(L:List Ent)(k:Int):Option Ent:=L.find? fun e=>e.k == k
def sF(L:List Ent)(k:Int):Value:=match tW L k with
 | some e=>e.val
 | none => .slice none 0 0

theorem wZ{L:List Ent}{k:Int}{e:Ent}(h:tW L k=some e):e∈L∧e.k=k:=⟨sH h,by simpa using aPp h⟩
theorem aWj{L:List Ent}{k:Int}(h:tW L k=none):∀ e∈L,e.k≠k:=fun e he hk=>by
 have:=aEm.1 h e he;simp [hk] at this
theorem bJj{L:List Ent}{k:Int}{e:Ent}(hn:(L.map (·.k)).Nodup)(he:e∈L)(hk:e.k=k):tW L k=some e:=by
 cases h:tW L k with
 | none=>exact absurd hk (aWj h e he)
 | some e' =>
  obtain ⟨h1,h2⟩:=wZ h;have:∀ (l:List Ent),(l.map (·.k)).Nodup→e∈l→e'∈l→e=e':=by
   intro l
   induction l with
   | nil=>intro _ h;simp at h
   | cons x r ih =>
    intro hn h3 h4;rw [fZ,List.nodup_cons] at hn
    rcases fU.1 h3 with e1 | h5
    ·rcases fU.1 h4 with e2 | h6
     ·rw [e1,e2]
     ·exact absurd (Bs.2 ⟨e',h6,by rw [h2,← hk,e1]⟩) hn.1
    ·rcases fU.1 h4 with e2 | h6
     ·exact absurd (Bs.2 ⟨e,h5,by rw [hk,← h2,e2]⟩) hn.1
     ·exact ih hn.2 h5 h6
  rw [this L hn he h1]

section
variable {P:Program} {w:World} {t kt et:TypeId} {mb:Nat} {es:Array MapEntry} {cl:Nat} {L:List Ent}

theorem aMd(hkt:P.underlying kt=some (.int .i64)){k:Int}(hk:(Lit.int .i64 k).wf=true):keyOf P kt (.int .i64 k)=some (.int .i64 k):=keyOf_int_mk hkt hk

theorem bQy(ht:P.underlying t=some (.map kt et))(hkt:P.underlying kt=some (.int .i64))(hz:(zeroValue et).run P w = .ok (.slice none 0 0) w)(hb:w.heap[mb]? = some (.map es cl))(hM:mW mb es L){k:Int}(hk:(Lit.int .i64 k).wf=true) :
  (Instr.lookup t (.map (some mb)) (.int .i64 k) false).run P w = .ok (sF L k) w:=by
 have K:=int_keyed hkt;have hkey:=aMd hkt hk;have hes:∀ e∈es.toList,∃ l,keyOf P kt e.key=some l:=fun x hx=>by
  obtain ⟨e,he,h1,_⟩:=hM.e1 x hx;exact ⟨_,by rw [h1];exact aMd hkt (hM.ok e he).key⟩
 rcases K.find w hkey es.toList hes with ⟨h1,h2⟩ | ⟨j,e0,h1,h2,h3⟩
 ·have:tW L k=none:=by
   rw [tW,aEm];intro e he;obtain ⟨x,hx,h4,_⟩:=hM.e2 e he;have:=h2 x hx;rw [h4] at this
   intro G3;exact this (by rw [eq_of_beq G3])
  unfold sF;rw [this];simp [Instr.lookup,run_underlying ht,MapKept.run_getObj_map hb,K.check w _ hkey,h1,hz,Result.andThen]
 ·obtain ⟨e,he,h4,h5⟩:=hM.e1 e0 (Bi h2)
  rw [h3] at h4
  have G3:e.k=k:=by injection h4 with _ h;exact h.symm
  unfold sF;rw [bJj hM.keys he G3];simp [Instr.lookup,run_underlying ht,MapKept.run_getObj_map hb,K.check w _ hkey,h1,Result.andThen,h5]

def qP(L:List Ent)(e:Ent):List Ent:=if L.any (fun x=>x.k == e.k) then L.map (fun x=>if x.k == e.k then e else x) else L++[e]
theorem yM{L:List Ent}{e:Ent}(h:∀ x∈L,x.k≠e.k):qP L e=L++[e]:=by
 unfold qP;rw [if_neg];intro h1;obtain ⟨x,hx,he⟩:=List.any_eq_true.1 h1;exact h x hx (by simpa using he)
theorem tX{L:List Ent}{e x:Ent}(hx:x∈L)(he:x.k=e.k):qP L e=L.map (fun x=>if x.k == e.k then e else x):=by
 unfold qP;rw [if_pos (List.any_eq_true.2 ⟨x,hx,by simpa using he⟩)]
theorem iQ{L:List Ent}{e x:Ent}:x∈qP L e↔(x∈L∧x.k≠e.k)∨x=e:=by
 by_cases h:∃ y∈L,y.k=e.k
 ·obtain ⟨y,hy,he⟩:=h
  rw [tX hy he,Bs];constructor
  ·rintro ⟨z,hz,rfl⟩
   by_cases hk:z.k=e.k
   ·rw [if_pos (by simpa using hk)];exact .inr rfl
   ·rw [if_neg (by simpa using hk)];exact .inl ⟨hz,hk⟩
  ·rintro (⟨h1,h2⟩ | rfl)
   ·exact ⟨x,h1,by rw [if_neg (by simpa using h2)]⟩
   ·exact ⟨y,hy,by rw [if_pos (by simpa using he)]⟩
 ·have h':∀ y∈L,y.k≠e.k:=fun y hy he=>h ⟨y,hy,he⟩
  rw [yM h',jX,List.mem_singleton];constructor
  ·rintro (h1 | h1)
   ·exact .inl ⟨h1,h' x h1⟩
   ·exact .inr h1
  ·rintro (⟨h1,_⟩ | h1)
   ·exact .inl h1
   ·exact .inr h1
theorem bJk{L:List Ent}{e:Ent}(hn:(L.map (·.k)).Nodup):((qP L e).map (·.k)).Nodup:=by
 by_cases h:∃ y∈L,y.k=e.k
 ·obtain ⟨y,hy,he⟩:=h
  rw [tX hy he,vD];have:L.map ((fun x=>x.k) ∘ fun x=>if x.k == e.k then e else x)=L.map (·.k):=aBx fun x _=>by
   by_cases hk:x.k=e.k
   ·simp [hk]
   ·simp [hk]
  rw [this];exact hn
 ·have h':∀ y∈L,y.k≠e.k:=fun y hy he=>h ⟨y,hy,he⟩
  rw [yM h',fM,List.nodup_append];refine ⟨hn,by simp,fun x hx y hy => ?_⟩
  obtain ⟨z,hz,rfl⟩:=Bs.1 hx;simp at hy
  subst hy;exact h' z hz
theorem bJl{mb:Nat}{L:List Ent}{e:Ent}(hn:(L.map (·.k)).Nodup)(hb:(mb::L.map (·.b)).Nodup)(h1:e.b≠mb)(h2:∀ x∈L,x.k≠e.k→x.b≠e.b):(mb::(qP L e).map (·.b)).Nodup:=by
 obtain ⟨b1,b2⟩:=List.nodup_cons.1 hb;refine List.nodup_cons.2 ⟨?_,?_⟩
 ·intro hin
  obtain ⟨x,hx,hxb⟩:=Bs.1 hin
  rcases iQ.1 hx with ⟨h1,_⟩ | rfl
  ·exact b1 (Bs.2 ⟨x,h1,hxb⟩)
  ·exact h1 hxb
 ·by_cases h:∃ y∈L,y.k=e.k
  ·obtain ⟨y,hy,he⟩:=h
   rw [tX hy he,vD,List.Nodup,List.pairwise_map];rw [List.Nodup,List.pairwise_map] at hn b2
   refine List.Pairwise.imp_of_mem ?_ (hn.and b2);intro x z hx hz ⟨q1,q2⟩;dsimp only [Function.comp]
   by_cases hk:x.k=e.k
   ·rw [if_pos (by simpa using hk),if_neg (by simp;rw [← hk];exact fun h=>q1 h.symm)]
    exact fun he=>h2 z hz (fun h=>q1 (by rw [hk,h])) he.symm
   ·rw [if_neg (by simpa using hk)]
    by_cases Fg:z.k=e.k
    ·rw [if_pos (by simpa using Fg)];exact h2 x hx hk
    ·rw [if_neg (by simpa using Fg)];exact q2
  ·have h':∀ y∈L,y.k≠e.k:=fun y hy he=>h ⟨y,hy,he⟩
   rw [yM h',fM,List.nodup_append];refine ⟨b2,by simp,fun x hx y hy => ?_⟩
   obtain ⟨z,hz,rfl⟩:=Bs.1 hx;simp at hy
   subst hy;exact h2 z hz (h' z hz)

theorem bXh(ht:P.underlying t=some (.map kt et))(hkt:P.underlying kt=some (.int .i64))(hb:w.heap[mb]? = some (.map es cl))(hM:mW mb es L)(e:Ent)(he:e.OK)
  (hblk:e.b≠mb∧∀ x∈L,x.k≠e.k→x.b≠e.b) :
  ∃ Cp D4,(Instr.mapUpdate t (.map (some mb)) (.int .i64 e.k) e.val).run P w = .ok () (setBlock w mb (.map Cp D4))∧mW mb Cp (qP L e)∧((∀ x∈es.toList,x.born<cl)→∀ x∈Cp.toList,x.born<D4):=by
 have K:=int_keyed hkt;have hkey:=aMd hkt he.key;have hes:∀ e∈es.toList,∃ l,keyOf P kt e.key=some l:=fun x hx=>by
  obtain ⟨e,he,h1,_⟩:=hM.e1 x hx;exact ⟨_,by rw [h1];exact aMd hkt (hM.ok e he).key⟩
 have hok:∀ x∈qP L e,x.OK:=fun x hx=>by
  rcases iQ.1 hx with ⟨h1,_⟩ | rfl
  ·exact hM.ok x h1
  ·exact he
 have hkeys:((qP L e).map (·.k)).Nodup:=bJk hM.keys
 have hblks:(mb::(qP L e).map (·.b)).Nodup:=bJl hM.keys hM.blks hblk.1 hblk.2
 rcases K.find w hkey es.toList hes with ⟨h1,h2⟩ | ⟨j,e0,h1,h2,h3⟩
 ·refine ⟨es.push ⟨.int .i64 e.k,e.val,cl⟩,cl+1,?_,⟨fun x hx => ?_,fun x hx => ?_,?_,hok,hkeys,hblks,?_⟩,fun hbn x hx => ?_⟩
  ·simp [Instr.mapUpdate,run_underlying ht,MapKept.run_getObj_map hb,K.check w false hkey,h1,MapKept.run_setObj_map _ hb,Result.andThen,setBlock]
  ·simp only [Array.toList_push,jX,List.mem_singleton] at hx
   rcases hx with hx | rfl
   ·obtain ⟨y,hy,q1,q2⟩:=hM.e1 x hx
    refine ⟨y,iQ.2 (.inl ⟨hy,fun hk=>h2 x hx (by rw [q1,hk])⟩),q1,q2⟩
   ·exact ⟨e,iQ.2 (.inr rfl),rfl,rfl⟩
  ·rcases iQ.1 hx with ⟨q1,_⟩ | rfl
   ·obtain ⟨y,hy,q2⟩:=hM.e2 x q1
    exact ⟨y,by simp [hy],q2⟩
   ·exact ⟨⟨.int .i64 x.k,x.val,cl⟩,by simp,rfl,rfl⟩
  ·rw [Array.toList_push,List.pairwise_append]
   exact ⟨hM.nd,by simp,fun x hx y hy=>by simp at hy;subst hy;exact h2 x hx⟩
  ·have hno:∀ x∈L,x.k≠e.k:=fun x hx hk=>by
    obtain ⟨y,hy,q2,_⟩:=hM.e2 x hx;exact h2 y hy (by rw [q2,hk])
   rw [yM hno,Array.toList_push,fM,fM,hM.ord];rfl
  ·simp only [Array.toList_push,jX,List.mem_singleton] at hx
   rcases hx with hx | rfl
   ·exact Nat.lt_succ_of_lt (hbn x hx)
   ·exact Nat.lt_succ_self _
 ·have hj:es[j]? = some e0:=by simpa using h2
  have hlist:(es.modify j (fun e'=>{ e' with key := .int .i64 e.k,val:=e.val })).toList=es.toList.set j { e0 with key := .int .i64 e.k,val:=e.val }:=by
   rw [Array.toList_modify,Go.ChangeMaps.modify_eq_set _ _ _ _ h2]
  have hjl:j<es.toList.length:=(B3.1 h2).1;have hother:∀ i x,es.toList[i]? = some x→i≠j→x.key ≠ .int .i64 e.k:=fun i x hi hij=>by
   rw [← h3];obtain ⟨H4,rfl⟩:=B3.1 hi;obtain ⟨Nj,hje⟩:=B3.1 h2;have:=List.pairwise_iff_getElem.1 hM.nd
   rcases Nat.lt_or_ge i j with h | h
   ·rw [← hje];exact this i j H4 Nj h
   ·rw [← hje];exact (this j i Nj H4 (by omega)).symm
  have who:∀ x∈es.toList.set j { e0 with key := .int .i64 e.k,val:=e.val },x={ e0 with key := .int .i64 e.k,val:=e.val }∨(x∈es.toList∧x.key ≠ .int .i64 e.k):=fun x hx=>by
   obtain ⟨i,hi,ex⟩:=List.getElem_of_mem hx;rw [zN] at ex
   split at ex
   ·exact .inl ex.symm
   ·rename_i hne
    have Cs:i<es.toList.length:=by simpa using hi
    exact .inr ⟨ex ▸ fL Cs,hother i x (by rw [Av Cs,ex]) (fun e=>hne e.symm)⟩
  refine ⟨es.modify j (fun e'=>{ e' with key := .int .i64 e.k,val:=e.val }),cl,?_,⟨fun x hx => ?_,fun x hx => ?_,?_,hok,hkeys,hblks,?_⟩,fun hbn x hx => ?_⟩
  ·simp [Instr.mapUpdate,run_underlying ht,MapKept.run_getObj_map hb,K.check w false hkey,h1,hj,h3,K.stays w hkey,MapKept.run_setObj_map _ hb,Result.andThen,setBlock]
  ·rw [hlist] at hx
   rcases who x hx with rfl | ⟨q1,q2⟩
   ·exact ⟨e,iQ.2 (.inr rfl),rfl,rfl⟩
   ·obtain ⟨y,hy,r1,r2⟩:=hM.e1 x q1
    exact ⟨y,iQ.2 (.inl ⟨hy,fun hk=>q2 (by rw [r1,hk])⟩),r1,r2⟩
  ·rw [hlist]
   rcases iQ.1 hx with ⟨q1,q2⟩ | rfl
   ·obtain ⟨y,hy,r1,r2⟩:=hM.e2 x q1
    obtain ⟨i,hi,rfl⟩:=List.getElem_of_mem hy;have hij:i≠j:=fun hij=>by
     subst hij;rw [Av hi] at h2;cases h2
     rw [h3] at r1;injection r1 with _ r1;exact q2 r1.symm
    exact ⟨es.toList[i],List.mem_iff_getElem.2 ⟨i,by simpa using hi,by rw [zN,if_neg (Ne.symm hij)]⟩,r1,r2⟩
   ·exact ⟨_,List.mem_iff_getElem.2 ⟨j,by simpa using hjl,by rw [zN,if_pos rfl]⟩,rfl,rfl⟩
  ·rw [hlist,List.pairwise_iff_getElem]
   intro i1 i2 H4 G8 hlt;simp only [nZ] at H4 G8
   have h0:=List.pairwise_iff_getElem.1 hM.nd i1 i2 H4 G8 hlt;rw [zN,zN]
   split
   ·rename_i e1
    rw [if_neg (by omega)]
    exact (hother i2 _ (Av G8) (by omega)).symm
   ·split
    ·exact hother i1 _ (Av H4) (by omega)
    ·exact h0
  ·obtain ⟨y,hy,q1,q2⟩:=hM.e1 e0 (Bi h2)
   have hyk:y.k=e.k:=by rw [h3] at q1;injection q1 with _ q1;exact q1.symm
   rw [hlist,tX hy hyk,vD];apply List.ext_getElem?;intro i;rw [fR,fR,List.getElem?_set];have hoi:(es.toList.map fun x=>(x.key,x.val))[i]? = (L.map fun e=>(Value.int .i64 e.k,e.val))[i]? := by rw [hM.ord]
   rw [fR,fR] at hoi
   by_cases hij:j=i
   ·subst hij
    rw [if_pos rfl,if_pos hjl];rw [h2] at hoi
    cases hL:L[j]? with
    | none=>rw [hL] at hoi;cases hoi
    | some z =>
     rw [hL] at hoi
     have hz:z.k=e.k:=by
      simp at hoi
      rw [h3] at hoi
      have:=hoi.1;injection this with _ h;exact h.symm
     simp [hz]
   ·rw [if_neg hij]
    cases hL:L[i]? with
    | none=>rw [hL] at hoi;rw [hoi];rfl
    | some z =>
     rw [hL] at hoi
     rw [hoi];have hz:z.k≠e.k:=fun hz=>by
      cases he:es.toList[i]? with
      | none=>rw [he] at hoi;cases hoi
      | some x =>
       rw [he] at hoi
       simp at hoi
       exact hother i x he (fun h=>hij h.symm) (by rw [hoi.1,hz])
     simp [hz]
  ·rw [hlist] at hx
   rcases who x hx with rfl | ⟨q1,_⟩
   ·exact hbn e0 (Bi h2)
   ·exact hbn x q1

theorem Ent.owns{e:Ent}(he:e.OK)(h:w.heap[e.b]? = some (.cells e.arr 44 (0,0))):w.ownsRow 0 44 6 e.val e.l.length (e.l.flatten.map (Value.int .i64)) :=
 ⟨by rw [Cb,oW he.u],.inr ⟨e.b,e.cap,e.arr,rfl,Nat.zero_le _,h,he.le,he.cap,he.sz,he.at_⟩⟩
theorem bQz:w.ownsRow 0 44 6 (.slice none 0 0) 0 []:=⟨rfl,.inl ⟨rfl,rfl⟩⟩
theorem bRa{v:Value}{l:Lqq}{k:Int}(hk:(Lit.int .i64 k).wf=true)(hl:l≠[])(hu:uni 6 l)(h:w.ownsRow 0 44 6 v l.length (l.flatten.map (Value.int .i64))):∃ e:Ent,e.k=k∧e.l=l∧e.val=v∧e.OK∧w.heap[e.b]? = some (.cells e.arr 44 (0,0)):=by
 rcases h.2 with ⟨_,h0⟩ | ⟨g,cap,cur,rfl,_,h1,h2,h3,h4,h5⟩
 ·exact absurd (aBu h0) hl
 ·exact ⟨⟨k,l,g,cap,cur⟩,rfl,rfl,rfl,⟨hk,h4,h2,h3,h5,hu⟩,h1⟩
end
end
section
variable {P:Program} {C C0:Cx} {M M0:Mem} {w w0:World}

abbrev SR:=St→List (Nat × Obj)→Prop
section
variable {k:Nat} {a b c:Code} {Ψ Ψ1 Ψ':SR} {e:Ex}
end

theorem Sim.slot{st:St}{a:Act}(h:Sim P C0 M0 w0 st a w){i:Nat}{v:Value}(hi:st.t[i]? = some (.p (.v v))):a.tmps.getD i undef=v:=by
 obtain ⟨C,hS,_⟩:=h;have:=hS.at hi
 cases this with
 | p _ _ h=>cases h;rfl
theorem Sim.size{st:St}{a:Act}(h:Sim P C0 M0 w0 st a w):a.tmps.size=st.t.length:=by
 obtain ⟨C,hS,_⟩:=h;exact hS.size
end
section
variable {P:Program} {ops:Array Oper} {md:Region.Mode} {S:World→Prop} {Q:Exit→Act→World→Prop} {L:Nat}

def tV(P:Program)(md:Region.Mode)(ops:Array Oper)(Q:Exit→Act→World→Prop)(S:World→Prop)(L:Nat):Nat→Array Bool→Act→World→Prop
 | 0,listed,a,w=>Region.ready md ops listed=[]∧Q .normal a w
 | fuel+1,listed,a,w=>(Region.ready md ops listed=[]→Q .normal a w) ∧
  ∀ i∈Region.ready md ops listed,wpOp P ops Q i (fun a' w'=>(i≠L→S w')∧tV P md ops Q S L fuel (listed.setIfInBounds i true) a' w') a w

theorem aFo:∀ (fuel:Nat) (listed:Array Bool) (a:Act) (w:World),tV P md ops Q S L fuel listed a w→wpAny P md ops Q fuel listed a w
 | 0,_,_,_,h=>h
 | fuel+1,_,_,_,h=>⟨h.1,fun i hi=>wpOp_mono (fun a' w' h'=>aFo fuel _ a' w' h'.2) (h.2 i hi)⟩

theorem aMa{i:Nat}{oi:Oper}{v:Value}(hi:ops[i]? = some oi)(hsel:∀ (j:Nat) (o:Oper) cs b,ops[j]? = some o→o.op ≠ .select cs b)
  (hQ:∀ c a w,Q (.panic c) (a.put oi.dst v) w→Q (.panic c) a w) (hL:∀ oL,ops[L]? = some oL→∃ e∈oL.after,Region.binds md e=true∧e.on=i) :
  ∀ (fuel:Nat) (listed:Array Bool) (a:Act) (w:World),
   (∀ j oj,ops[j]? = some oj→j≠i→listed.getD j true=false→(∀ e∈oj.after,Region.binds md e=true→e.on≠i)→oi.apart ops oj=true) →
   i∈Region.ready md ops listed→YieldsIf P ops S oi v a→S w →
   tV P md ops Q S L fuel (listed.setIfInBounds i true) (a.put oi.dst v) w→tV P md ops Q S L (fuel+1) listed a w:=by
 intro fuel
 induction fuel with
 | zero =>
  intro listed a w _ hr hy hS H;refine ⟨fun h=>(by rw [h] at hr;cases hr),fun j hj => ?_⟩
  by_cases hji:j=i
  ·subst hji;exact hy.wpOp hi hS ⟨fun _=>hS,H⟩
  ·have:=ready_mono hj hji
   rw [H.1] at this
   cases this
 | succ fuel ih =>
  intro listed a w hfree hr hy hS H;refine ⟨fun h=>(by rw [h] at hr;cases hr),fun j hj => ?_⟩
  by_cases hji:j=i
  ·subst hji;exact hy.wpOp hi hS ⟨fun _=>hS,H⟩
  ·have h1:=H.2 j (ready_mono hj hji)
   obtain ⟨hjun,oj,hoj,hall⟩:=mem_ready.1 hj;have hnot:∀ e∈oj.after,Region.binds md e=true→e.on≠i:=fun e he hb heq=>by
    have h1:=hall e he hb;have h0:=(mem_ready.1 hr).1;rw [heq] at h1
    rcases Nat.lt_or_ge i listed.size with h' | h'
    ·simp [h'] at h0 h1;rw [h0] at h1;cases h1
    ·simp [Array.getElem?_eq_none h'] at h1
   have hjL:j≠L:=fun e=>by
    subst e;obtain ⟨e,he,hb,ho⟩:=hL oj hoj;exact hnot e he hb ho
   have h2:=wpOp_putIf hoj (hfree j oj hoj hji hjun hnot) (fun cs b=>hsel i oi cs b hi) (fun cs b=>hsel j oj cs b hoj) hQ hy h1
   have Ni:∀ k ok,ops[k]? = some ok→k≠i→(listed.setIfInBounds j true).getD k true=false →
     (∀ e∈ok.after,Region.binds md e=true→e.on≠i)→oi.apart ops ok=true:=fun k ok hk hki hun hno=>by
    refine hfree k ok hk hki ?_ hno
    by_cases hjk:j=k
    ·subst hjk;exact hjun
    ·rw [getD_set_ne true hjk] at hun;exact hun
   refine wpOp_mono (fun a' w' h3=>⟨h3.2.1,ih (listed.setIfInBounds j true) a' w' Ni (ready_mono hr (Ne.symm hji)) h3.1 (h3.2.1 hjL) ?_⟩) h2
   rw [Array.setIfInBounds_comm _ _ hji];exact h3.2.2

def aMb(P:Program)(S:World→Prop):List (Oper × Value)→Act→Prop
 | [],_=>True
 | (o,v)::r,a=>(∀ W,S W→(execOp a.eval o).run P W = .ok (.value v) W)∧aMb P S r (a.put o.dst v)
def aBm:List (Oper × Value)→Act→Act
 | [],a=>a
 | (o,v)::r,a=>aBm r (a.put o.dst v)

def aJf(md:Region.Mode)(ops:Array Oper)(L:Nat)(rs:List Nat):List Nat→Array Bool→Bool
 | [],listed=>chain rs listed
 | t::ts,listed=>(match ops[t]? with | some o=>o.guard.isNone | none=>false) && (Region.ready md ops listed).contains t && Region.free md ops listed t &&
   (match ops[L]? with | some oL=>oL.after.any fun e=>Region.binds md e && e.on == t | none=>false) && aJf md ops L rs ts (listed.setIfInBounds t true)
where chain:List Nat→Array Bool→Bool
 | [],listed=>(Region.ready md ops listed).isEmpty
 | r::rs,listed=>(match ops[r]? with | some o=>o.guard.isNone | none=>false) && decide (Region.ready md ops listed=[r]) && chain rs (listed.setIfInBounds r true)

theorem wY{r fuel:Nat}{listed:Array Bool}{o:Oper}{a:Act}{w:World}(hr:Region.ready md ops listed=[r])(ho:ops[r]? = some o)(hg:o.guard=none){v:Value}{w':World}
  (hrun:(execOp a.eval o).run P w = .ok (.value v) w'∨(execOp a.eval o).run P w = .ok .skip w'∧v=undef) (hS:r≠L→S w') (h:tV P md ops Q S L fuel (listed.setIfInBounds r true) (a.put o.dst v) w'):tV P md ops Q S L (fuel+1) listed a w:=by
 refine ⟨fun h0=>(by rw [hr] at h0;cases h0),fun i hi => ?_⟩
 rw [hr] at hi
 obtain rfl:i=r:=by simpa using hi
 unfold wpOp;simp only [ho];have hw:Region.wanted o (yielded ops a.tmps)=true:=by simp [Region.wanted,hg]
 rw [if_pos hw];refine .inl ?_;unfold Oper.wp
 rcases hrun with hrun | ⟨hrun,rfl⟩
 ·rw [hrun];exact ⟨hS,h⟩
 ·rw [hrun];exact ⟨hS,h⟩

theorem aJg(hsel:Region.noSelect ops=true)(hQ:∀ c a w,¬ Q (.panic c) a w)(rs:List Nat){w:World}(hS:S w):∀ (ts:List Nat) (vs:List Value) (listed:Array Bool) (a:Act),vs.length=ts.length→aJf md ops L rs ts listed=true →
  aMb P S ((ts.filterMap fun i=>ops[i]?).zip vs) a→(∀ Gu,aJf.chain md ops rs Gu=true→tV P md ops Q S L rs.length Gu (aBm ((ts.filterMap fun i=>ops[i]?).zip vs) a) w)→tV P md ops Q S L (ts.length+rs.length) listed a w
 | [],vs,listed,a,hl,hB,hy,h=>by
  have:vs=[]:=by simpa using hl
  subst this;simp only [List.length_nil,gU];exact h listed hB
 | t::ts,[],listed,a,hl,hB,hy,h=>by simp at hl
 | t::ts,v::vs,listed,a,hl,hB,hy,h=>by
  simp only [aJf,B7] at hB
  obtain ⟨⟨⟨⟨hp,hrd⟩,hf⟩,hlast⟩,Rv⟩:=hB;cases ho:ops[t]? with
  | none=>rw [ho] at hp;cases hp
  | some o =>
   rw [ho] at hp
   simp only [Option.isNone_iff_eq_none] at hp
   have e0:(t::ts).filterMap (fun i=>ops[i]?)=o::ts.filterMap (fun i=>ops[i]?):=by simp [ho]
   rw [e0,List.zip_cons_cons] at hy h
   have hw:Region.wanted o (yielded ops a.tmps)=true:=by simp [Region.wanted,hp]
   have e:(t::ts).length+rs.length=(ts.length+rs.length)+1:=by simp;omega
   rw [e];refine aMa ho (Region.noSelect_spec hsel) (fun c a w hq=>absurd hq (hQ _ _ _)) (fun oL hoL => ?_) _ _ _ _ (Region.free_spec ho hf) (by simpa using hrd) (.inl ⟨hw,hy.1⟩) hS ?_
   ·rw [hoL] at hlast
    obtain ⟨e,he,hb⟩:=Array.any_eq_true'.1 hlast;simp only [B7,beq_iff_eq] at hb
    exact ⟨e,he,hb.1,hb.2⟩
   ·exact aJg hsel hQ rs hS ts vs _ _ (by simpa using hl) Rv hy.2 h

def aMc(l:List Oper)(ts:List Nat)(r1 r2 r3:Nat):Bool :=
 Region.noSelect l.toArray && aJf .any l.toArray r3 [r1,r2,r3] ts (Array.replicate l.toArray.size false) && decide (ts.length+3=l.toArray.size) && decide (r1≠r3∧r2≠r3)

theorem bO{a:Act}{i:Nat}{v:Value}(h:i<a.tmps.size):(a.put (some i) v).eval (.tmp i)=v:=by
 simp [Act.eval,Act.put,h]
theorem bW{a:Act}{i j:Nat}{v:Value}(h:(i == j)=false):(a.put (some i) v).eval (.tmp j)=a.eval (.tmp j):=by
 have:i≠j:=by simpa using h
 simp [Act.eval,Act.put,this]
theorem dL{a:Act}{i:Nat}{v:Value}:(a.put (some i) v).tmps.size=a.tmps.size:=by simp [Act.put]
end
section
open Go.Maps Go.MapKept
open Go.ChangeMaps (setBlock)
variable {P:Program} {C C0:Cx} {M M0:Mem} {w w0:World}

section
variable {o:Oper} {a:Act} {W W':World}
theorem rV{t:TypeId}{x:Operand}{v r:Value}(ho:o.op = .load t x)(hx:a.eval x=v)(hr:(Instr.loadAt t v).run P W = .ok r W):(execOp a.eval o).run P W = .ok (.value r) W:=by
 unfold execOp;rw [ho];simp [hx,hr,Result.andThen]
theorem bJe{t:TypeId}{x k:Operand}{v u r:Value}(ho:o.op = .lookup t x k false)(hx:a.eval x=v)(hk:a.eval k=u)(hr:(Instr.lookup t v u false).run P W = .ok r W):(execOp a.eval o).run P W = .ok (.value r) W:=by
 unfold execOp;rw [ho];simp [hx,hk,hr,Result.andThen]
theorem bJf{t:TypeId}{x:Operand}{v r:Value}(ho:o.op = .buildSlice t 1 #[(0,x)])(hx:a.eval x=v)(hr:(Instr.buildSlice t 1 #[(0,v)]).run P W = .ok r W'):(execOp a.eval o).run P W = .ok (.value r) W':=by
 unfold execOp;rw [ho];simp [hx,hr,Result.andThen]
theorem bJg{t:TypeId}{s x:Operand}{v u r:Value}(ho:o.op = .call { callee := .builtin .append,args := #[s,x],argTypes := #[t,t] })(hs:a.eval s=v)(hx:a.eval x=u)(hr:(Builtin.append_ #[t,t] o.type #[v,u]).run P W = .ok r W') :
  (execOp a.eval o).run P W = .ok (.value r) W':=by
 unfold execOp;simp only [ho,resolve,invoke,builtin,Sem.run_bind,Sem.run_pure,Result.andThen_ok,List.map_toArray,fZ,List.map_nil,hs,hx,hr]
theorem bJh{t:TypeId}{m k x:Operand}{v u y:Value}(ho:o.op = .mapUpdate t m k x)(hm:a.eval m=v)(hk:a.eval k=u)(hx:a.eval x=y)(hr:(Instr.mapUpdate t v u y).run P W = .ok () W'):(execOp a.eval o).run P W = .ok .skip W':=by
 unfold execOp;rw [ho];simp [hm,hk,hx,hr,Result.andThen]
end

theorem zZ{t:Nat}{i:TI}(hi:cN P t=some i)(ha:i.agg=false){b o:Nat}{v:Value}(h:w.cell? ⟨b,o,none⟩=some v):(Instr.loadAt t (.pointer (some ⟨b,o,none⟩))).run P w = .ok v w:=by
 unfold Instr.loadAt Instr.sureAddr;simpa using mH hi ha h

def jA(mb:Nat)(es:Array MapEntry)(cl:Nat)(L:List Ent):List (Nat × Obj):=(mb,.map es cl)::L.map Ent.blk
theorem cZ{mb:Nat}{es:Array MapEntry}{cl:Nat}{L:List Ent}{p:Nat × Obj}:p∈jA mb es cl L↔p=(mb,.map es cl)∨∃ e∈L,e.blk=p:=by simp [jA]
def qO(L:List Ent)(k:Int):Lqq:=match tW L k with
 | some e=>e.l
 | none=>[]
theorem yL{α β:Type}(f:α→β){x y:α}:∀ (L:List α),(L.map f).Nodup→x∈L→y∈L→f x=f y→x=y
 | [],_,h,_,_=>by simp at h
 | a::r,hn,hx,hy,he=>by
  rw [fZ,List.nodup_cons] at hn
  rcases fU.1 hx with e1 | h1
  ·rcases fU.1 hy with e2 | h2
   ·rw [e1,e2]
   ·exact absurd (Bs.2 ⟨y,h2,by rw [← he,e1]⟩) hn.1
  ·rcases fU.1 hy with e2 | h2
   ·exact absurd (Bs.2 ⟨x,h1,by rw [he,e2]⟩) hn.1
   ·exact yL f r hn.2 h1 h2 he
theorem mW.b_inj{mb:Nat}{es:Array MapEntry}{L:List Ent}(h:mW mb es L){e e':Ent}(he:e∈L)(Ru:e'∈L)(hb:e.b=e'.b):e=e':=yL (·.b) L (List.nodup_cons.1 h.blks).2 he Ru hb
theorem mW.b_mb{mb:Nat}{es:Array MapEntry}{L:List Ent}(h:mW mb es L){e:Ent}(he:e∈L):e.b≠mb:=fun hb=>(List.nodup_cons.1 h.blks).1 (Bs.2 ⟨e,he,hb⟩)

abbrev J2:Value := .agg #[.int .i64 0,.int .i64 0,.int .i64 0,.int .i64 0,.int .i64 0,.int .i64 0]
def vsL(x:List Int):List Value:=x.map (Value.int .i64)
theorem bJi(w:World)(x:List Int):∀ j u,(vsL x)[j]? = some u→(w.alloc (.cells (vsL x).toArray 44)).cell? ((⟨w.heap.size,0,none⟩:Addr).add j)=some u:=fun j u h=>by
 have hj:j<(vsL x).length:=(B3.1 h).1;have e:(⟨w.heap.size,0,none⟩:Addr).add j=⟨w.heap.size,j,none⟩:=by unfold Addr.add;split <;> simp_all
 rw [e];unfold World.cell? World.alloc;simp [h]
theorem bXg{t kt:TypeId}{S22 ty:TypeId}{st:St}{a:Act}{mb cl:Nat}{es:Array MapEntry}{L:List Ent}{k:Int}{x:List Int}(Mj:x.length=6)(ht:P.underlying t=some (.map kt S22))(hkt:P.underlying kt=some (.int .i64))(Xj:P.underlying S22=some (.slice 44))
  (Ll:(P.info? 44).map (fun i=>(i.zero,i.size,i.bytes))=some (some J2,6,48))
  (hs:Sim P (C0.with (jA mb es cl L++C0.R)) M0 w0 st a w) (hd:∀ p∈jA mb es cl L,∀ q∈C0.R,p.1≠q.1) (hM:mW mb es L) (hk:(Lit.int .i64 k).wf=true) (hl:∀ e∈L,e.l.length≤1000) :
  ∃ v2 w2 Cp D4 e,(Builtin.append_ #[S22,S22] ty #[sF L k,.slice (some ⟨w.heap.size,0,none⟩) 1 1]).run P (w.alloc (.cells (vsL x).toArray 44)) = .ok v2 w2 ∧
   (∀ b,b<w.heap.size→(∀ q∈jA mb es cl L,q.1≠b)→w2.heap[b]? = w.heap[b]?)∧w2.heap[mb]? = w.heap[mb]? ∧
   (w.heap.size≤w2.heap.size∧((∀ x∈es.toList,x.born<cl)→∀ x∈Cp.toList,x.born<D4)∧∀ p∈jA mb Cp D4 (qP L e),(∃ p0∈jA mb es cl L,p0.1=p.1)∨w.heap.size≤p.1) ∧
   (Instr.mapUpdate t (.map (some mb)) (.int .i64 k) v2).run P w2 = .ok () (setBlock w2 mb (.map Cp D4))∧mW mb Cp (qP L e)∧e.k=k∧e.l=qO L k++[x] ∧
   (∀ p∈jA mb Cp D4 (qP L e),∀ q∈C0.R,p.1≠q.1)∧Sim P (C0.with (jA mb Cp D4 (qP L e)++C0.R)) M0 w0 st a (setBlock w2 mb (.map Cp D4)):=by
 obtain ⟨i,hi,hz,Fz,Ny⟩:=info_parts Ll;have hhas:=hs.has;have hmb:w.heap[mb]? = some (.map es cl):=hhas (mb,.map es cl) (by simp [jA])
 have hmlt:=cE hmb;have hblkh:∀ e∈L,w.heap[e.b]? = some (.cells e.arr 44 (0,0)):=fun e he=>hhas e.blk (by simp [jA];exact .inr (.inl ⟨e,he,rfl⟩))
 obtain ⟨n1,n2,n3⟩:=kF w (.cells (vsL x).toArray 44);have hown:(w.alloc (.cells (vsL x).toArray 44)).ownsRow 0 44 6 (sF L k) (qO L k).length ((qO L k).flatten.map (Value.int .i64))∧((sF L k).ownBlock=none∨∃ e0∈L,e0.k=k∧(sF L k).ownBlock=some e0.b)∧(qO L k).length≤1000:=by
  unfold sF qO;cases h:tW L k with
  | none=>exact ⟨bQz,.inl rfl,by simp⟩
  | some e0 =>
   obtain ⟨q1,q2⟩:=wZ h;exact ⟨Ent.owns (hM.ok e0 q1) ((n3 _ (cE (hblkh e0 q1))).trans (hblkh e0 q1)),.inr ⟨e0,q1,q2,rfl⟩,hl e0 q1⟩
 obtain ⟨ho,hbk,hlen⟩:=hown;have Xk:uni 6 (qO L k++[x]):=by
  intro y hy
  rcases jX.1 hy with h | h
  ·unfold qO at h
   cases hq:tW L k with
   | none=>rw [hq] at h;cases h
   | some e0=>rw [hq] at h;exact (hM.ok e0 (wZ hq).1).u y h
  ·simp at h;rw [h];exact Mj
 obtain ⟨v2,w2,hrun,Kj,I9,hnil,hat⟩:=run_append_own_at (P:=P) (w:=w.alloc (.cells (vsL x).toArray 44)) 0 S22 ty 44 i J2 6 48 Xj hi hz Fz Ny rfl (by decide) (sF L k) (qO L k).length _ ho
  ⟨w.heap.size,0,none⟩ 1 1 (vsL x) (by simp [vsL,Mj]) (bJi w x) (fun u hu=>by obtain ⟨z,_,rfl⟩:=Bs.1 hu;rfl) (by unfold maxLen;omega) (by omega) (Nat.zero_le _)
 have Ts:w2.ownsRow 0 44 6 v2 (qO L k++[x]).length ((qO L k++[x]).flatten.map (Value.int .i64)):=by
  rw [iF,aPn,fM,List.flatten_singleton];exact Kj
 obtain ⟨e,rfl,hel,rfl,heo,heh⟩:=bRa hk (by simp) Xk Ts
 have hvb:e.val.ownBlock=some e.b:=rfl;have hwhere:(∃ e0∈L,e0.k=e.k∧e0.b=e.b)∨e.b=w.heap.size+1:=by
  rcases hat with h | h
  ·rcases hbk with h0 | ⟨e0,q1,q2,q3⟩
   ·rw [h0,hvb] at h;cases h
   ·rw [q3,hvb] at h;exact .inl ⟨e0,q1,q2,(Option.some.inj h).symm⟩
  ·rw [hvb] at h
   right
   have:=Option.some.inj h;rw [this];simp
 have hrow:∀ b,b<w.heap.size→(∀ e0∈L,e0.k=e.k→e0.b≠b)→w2.heap[b]? = w.heap[b]? := fun b hb hno=>by
  refine (I9.block b (by omega) (fun he => ?_)).trans (n3 b hb)
  rcases hbk with h0 | ⟨e0,q1,q2,q3⟩
  ·rw [h0] at he;cases he
  ·rw [q3] at he;exact hno e0 q1 q2 (Option.some.inj he).symm
 have hblk:e.b≠mb∧∀ y∈L,y.k≠e.k→y.b≠e.b:=by
  rcases hwhere with ⟨e0,q1,q2,q3⟩ | h
  ·refine ⟨q3 ▸ hM.b_mb q1,fun y hy hyk hb=>hyk ?_⟩
   have:=hM.b_inj hy q1 (hb.trans q3.symm);rw [this];exact q2
  ·refine ⟨by omega,fun y hy _ hb => ?_⟩
   have:=cE (hblkh y hy);omega
 have J5:w2.heap[mb]? = w.heap[mb]? := hrow mb hmlt fun e0 Qd _=>hM.b_mb Qd
 obtain ⟨Cp,D4,hup,G2,hbn⟩:=bXh (P:=P) (w:=w2) ht hkt (J5.trans hmb) hM e heo hblk;refine ⟨e.val,w2,Cp,D4,e,hrun,fun b hb hno=>hrow b hb fun e0 Qd _=>hno e0.blk (by simp [jA];exact .inr ⟨e0,Qd,rfl⟩),J5,⟨by have:=I9.size;omega,hbn,fun p hp => ?_⟩,hup,G2,rfl,hel,?_,?_⟩
 ·rcases cZ.1 hp with rfl | ⟨y,hy,rfl⟩
  ·exact .inl ⟨_,cZ.2 (.inl rfl),rfl⟩
  ·rcases iQ.1 hy with ⟨q1,_⟩ | rfl
   ·exact .inl ⟨_,cZ.2 (.inr ⟨y,q1,rfl⟩),rfl⟩
   ·rcases hwhere with ⟨e0,r1,_,r3⟩ | h
    ·exact .inl ⟨_,cZ.2 (.inr ⟨e0,r1,rfl⟩),r3⟩
    ·exact .inr (by show w.heap.size≤y.b;omega)
 ·intro p hp q hq
  rcases cZ.1 hp with rfl | ⟨y,hy,rfl⟩
  ·exact hd (mb,.map es cl) (by simp [jA]) q hq
  ·rcases iQ.1 hy with ⟨q1,q2⟩ | rfl
   ·exact hd y.blk (cZ.2 (.inr ⟨y,q1,rfl⟩)) q hq
   ·rcases hwhere with ⟨e0,q1,q2,q3⟩ | h
    ·exact fun hpq=>hd e0.blk (cZ.2 (.inr ⟨e0,q1,rfl⟩)) q hq (by rw [← hpq];exact q3)
    ·have:=cE (hhas q (aBw _ hq))
     intro hpq;change y.b=q.1 at hpq
     omega
 ·have hne:∀ p∈C0.R,p.1≠mb∧∀ e0∈L,p.1≠e0.b:=fun p hp=>⟨fun h=>hd (mb,.map es cl) (by simp [jA]) p hp h.symm,fun e0 Qd h=>hd e0.blk (cZ.2 (.inr ⟨e0,Qd,rfl⟩)) p hp h.symm⟩
  have hset:∀ b,b≠mb→(setBlock w2 mb (.map Cp D4)).heap[b]? = w2.heap[b]? := fun b hb=>by
   unfold setBlock;simp only [Array.getElem?_setIfInBounds];rw [if_neg (Ne.symm hb)]
  have hsetm:(setBlock w2 mb (.map Cp D4)).heap[mb]? = some (.map Cp D4):=by
   unfold setBlock;have:mb<w2.heap.size:=cE (J5.trans hmb);simp [this]
  refine hs.beside (fun b=>b=mb∨∃ e0∈L,e0.k=e.k∧e0.b=b) (fun b hb => ?_) I9.os I9.tape I9.output (by have:=I9.size;unfold setBlock;simp only [Array.size_setIfInBounds];omega) (fun b hb hX => ?_) (fun p hp => ?_)
  ·rcases hb with rfl | ⟨e0,q1,q2,rfl⟩
   ·exact ⟨_,oV _ (cZ.2 (.inl rfl))⟩
   ·exact ⟨_,oV _ (cZ.2 (.inr ⟨e0,q1,rfl⟩))⟩
  ·rw [hset b (fun h=>hX (.inl h))]
   exact hrow b hb fun e0 q1 q2 q3=>hX (.inr ⟨e0,q1,q2,q3⟩)
  ·rcases jX.1 hp with hp | hp
   ·rcases cZ.1 hp with rfl | ⟨y,hy,rfl⟩
    ·exact .inr ⟨hsetm,(fun h=>by cases h),.inr ⟨_,oV _ (cZ.2 (.inl rfl))⟩⟩
    ·rcases iQ.1 hy with ⟨q1,q2⟩ | rfl
     ·refine .inl ⟨oV _ (cZ.2 (.inr ⟨y,q1,rfl⟩)),fun hX => ?_⟩
      rcases hX with hX | ⟨e0,r1,r2,r3⟩
      ·exact hM.b_mb q1 hX
      ·have:=hM.b_inj q1 r1 r3.symm
       exact q2 (this ▸ r2)
     ·refine .inr ⟨(hset _ hblk.1).trans heh,(fun h=>by cases h),?_⟩
      rcases hwhere with ⟨e0,r1,r2,r3⟩ | h
      ·exact .inr ⟨.cells e0.arr 44 (0,0),oV _ (cZ.2 (.inr ⟨e0,r1,by unfold Ent.blk;rw [r3]⟩))⟩
      ·exact .inl (by show w.heap.size≤y.b;omega)
   ·refine .inl ⟨aBw _ hp,fun hX => ?_⟩
    rcases hX with hX | ⟨e0,r1,r2,r3⟩
    ·exact (hne p hp).1 hX
    ·exact (hne p hp).2 e0 r1 r3.symm
end
section
open Go.ChangeMaps (setBlock)
variable {P:Program} {C:Cx} {M:Mem} {w:World}

def aHa(P:Program)(C:Cx)(M:Mem)(w:World)(C':Cx)(M':Mem)(W:World):Prop:=(∀ b,C'.F b↔C.F b)∧aT P C' M' W∧Fr C M w C' M' W
def aLz(M M':Mem):Prop:=(∀ (i:Nat) (es:List (Value × PV)) (cl:Nat),M'[i]? = some (some (.mp es cl))→∃ o,M[i]? = some (some o)∧o.live=true)∧aSp M'

theorem aHa.same{M':Mem}{W W':World}{C':Cx}(hn:aLz M M')(Db:aT P C M w)(h:aHa P C M w C' M' W)(hsz:W.heap.size≤W'.heap.size)(ho:W'.os=W.os)(ht:W'.tape=W.tape)(hu:W'.output=W.output)
  (hs:∀ b,b<W.heap.size→(b<w.heap.size∧(∀ (id:Nat) (o:AO),M[id]? = some (some o)→o.live=true→C.ι id=some b→∃ o',M'[id]? = some (some o')∧o'.live=true))∨(mU W b∧∃ (id:Nat) (o:AO),M'[id]? = some (some o)∧o.live=true∧C'.ι id=some b)→W'.heap[b]? = W.heap[b]?):aHa P C M w C' M' W':=by
 obtain ⟨hF,hM,f⟩:=h;have old:∀ (i:Nat) (o:AO),M[i]? = some (some o)→C'.ι i=C.ι i:=fun i o h=>(f.ids i o h).2.1
 have hFz:∀ b,C'.F b→W'.heap[b]? = W.heap[b]? := fun b hb=>hs b (hM.Fs b hb) (.inl ⟨Db.Fs b ((hF b).1 hb),fun id o ho hl he=>absurd ((hF b).1 hb) (Db.nF id o b ho hl he)⟩)
 have hL:Le C' C' M' M' W W':=⟨fun _ o h=>⟨o,h⟩,fun _ _ _ _ _ cs h=>⟨cs,h⟩,fun _ o h o' h' hl=>by rw [h] at h';cases h';exact ⟨hl,rfl,rfl⟩,fun _ h=>h,hFz⟩
 refine ⟨hF,⟨fun i ty n cs hm => ?_,fun i ty cs hm => ?_,fun i es cl hm => ?_,hM.inj,hM.nF,fun b hb=>fY (hM.Fs b hb) hsz,fun i o b ho hl hb=>fY (hM.lt i o b ho hl hb) hsz⟩,
  ⟨ho.trans f.os,ht.trans f.tape,hu.trans f.out,fB f.size hsz,fun b hb hno=>(hs b (fY hb f.size) (.inl ⟨hb,fun id o ho hl he=>absurd he (hno id o ho hl)⟩)).trans (f.keep b hb hno),f.ids,f.row,f.liv,f.new,f.F1,f.F2⟩⟩
 ·rcases hM.row _ _ _ _ hm with h4 | ⟨b,arr,inf,q0,q1,q2,q3,q4,q5,q6,q7,q8⟩
  ·exact .inl h4
  ·exact .inr ⟨b,arr,inf,q0,(hs b (cE q1) (.inr ⟨fW q1,i,_,hm,rfl,q0⟩)).trans q1,q2,q3,q4,q5,q6,fun j hj=>(q7 j hj).mono hL.F hL.fz,q8⟩
 ·obtain ⟨b,arr,q0,q1,q2,q3,q4⟩:=hM.box _ _ _ hm
  exact ⟨b,arr,q0,(hs b (cE q1) (.inr ⟨fW q1,i,_,hm,rfl,q0⟩)).trans q1,q2,fun j hj=>(q3 j hj).mono hL,q4⟩
 ·obtain ⟨b,arr,q0,q1,q2,q3⟩:=hM.mp _ _ _ hm
  obtain ⟨o,Dw,hl⟩:=hn.1 _ _ _ hm;have hb:C.ι i=some b:=by rw [← old i o Dw];exact q0
  refine ⟨b,arr,q0,(hs b (cE q1) (.inl ⟨Db.lt i o b Dw hl hb,fun id o2 Kj Dc he => ?_⟩)).trans q1,q2,fun j hj => ?_⟩
  ·obtain rfl:=Db.inj id i o2 o b Kj Dc Dw hl he hb
   exact ⟨_,hm,rfl⟩
  ·obtain ⟨en,r1,r2,r3,r4⟩:=q3 j hj
   exact ⟨en,r1,r2,r3,r4.mono hL.F hL.fz⟩

theorem aHa.own{M':Mem}{W W':World}{C':Cx}{row:Option Nat}(hn:aLz M M')(Db:aT P C M w)(h:aHa P C M w C' M' W)(hg:W.grownBy W' row)
  (hr:∀ r,row=some r→w.heap.size≤r∧∃ o:Obj,W.heap[r]? = some o∧o.isCells=false):aHa P C M w C' M' W' :=
 h.same hn Db hg.size hg.os hg.tape hg.output fun b hb hd=>hg.block b hb fun e=>by
  obtain ⟨q1,o,q2,q3⟩:=hr b e.symm
  rcases hd with ⟨hd,_⟩ | ⟨hd,_⟩
  ·omega
  ·exact kH q2 q3 hd
end
end KV
end Go.Proofs
section
namespace Go.Proofs
open Go.RowKit Go.Lib
namespace KV
open Tryz
attribute [local go_sem] Oper.semAt_some

def bk(n i:Nat):List Nat:=((List.range n).drop i).reverse
theorem bXe{n i:Nat}(h:i<n):bk n i=bk n (i+1)++[i]:=by
 unfold bk;rw [aKx (by simpa using h),List.reverse_cons]
 simp
theorem cGk(n:Nat):bk n n=[]:=by unfold bk;rw [List.drop_eq_nil_of_le (by simp)];rfl
theorem bXf(n:Nat):bk n 0=(List.range n).reverse:=rfl
theorem aWi{n i:Nat}:(bk n i).length=n-i:=by simp [bk]
theorem bJd{n i:Nat}(h:i≤n):bk n i <+: bk n 0:=by
 unfold bk;rw [List.drop_zero];refine ⟨((List.range n).take i).reverse,?_⟩;rw [← List.reverse_append,aPm]
theorem cKx{n i:Nat}(h:i<n):(bk n (i+1)).length<(bk n 0).length:=by rw [aWi,aWi];omega
end KV
end Go.Proofs
end
section
namespace Go.Proofs
open Go.RowKit Go.Lib Go.Shelf
namespace KV
open Tryz
attribute [local go_sem] Oper.semAt_some
def Hid(p:Prop):Prop:=p
theorem hid{p:Prop}(h:p):Hid p:=h
theorem Hid.out{p:Prop}(h:Hid p):p:=h
def De(x:List Int):Array Value:=(x.map (Value.int .i64)).toArray
set_option maxRecDepth 1000000 in
set_option maxHeartbeats 2000000 in
theorem aWg(dc:Lqq)(hl:dc.length≤1000)(F0:Nat→Prop)(n l b1 o1 b2 o2 cap:Nat)(hn:1≤n)(J Jx:List Nat→World→Prop)
  (hY:∀ pre (k:Nat) (a b c d e f:Int) W,dc[k]? = some [a,b,c,d,e,f]→J pre W→pre.length<(bk dc.length 0).length→YieldAt Fence.wide (n-1) Tp l #[.int .i64 k,.agg #[.int .i64 a,.int .i64 b,.int .i64 c,.int .i64 d,.int .i64 e,.int .i64 f]] W fun e W' =>
   (e = .returned (.bool true)∧J (pre++[k]) W'∧KpG F0 W W')∨(e = .returned (.bool false)∧Jx (pre++[k]) W'))
  (W:World) (hJ:AbidesFrom W.heap.size J) (hF:∀ b,F0 b→b<W.heap.size)
  (hc:∀ W',KpG F0 W W'→∀ k:Nat,k<dc.length→∃ a b c d e f,dc[k]? = some [a,b,c,d,e,f]∧W'.cell? ⟨b2,o2+k*6,none⟩=some (.int .i64 a)∧W'.cell? ⟨b2,o2+k*6+1,none⟩=some (.int .i64 b)∧W'.cell? ⟨b2,o2+k*6+2,none⟩=some (.int .i64 c)∧W'.cell? ⟨b2,o2+k*6+3,none⟩=some (.int .i64 d)∧W'.cell? ⟨b2,o2+k*6+4,none⟩=some (.int .i64 e)∧W'.cell? ⟨b2,o2+k*6+5,none⟩=some (.int .i64 f))
  (hk:∀ W',KpG F0 W W'→W'.cell? ⟨b1,o1,none⟩=some (.slice (some ⟨b2,o2,none⟩) dc.length cap)) (h0:J [] W) :
  CallsIn Fence.wide n Tp 187 #[.func (.yield l) #[] #[],.pointer (some ⟨b1,o1,none⟩)] W fun e W'=>(∃ v,e = .returned v) ∧
   ((∃ ys,ys=bk dc.length 0∧J ys W')∨(∃ pre,pre <+: bk dc.length 0∧Jx pre W')):=by
 have HJ:=hid hJ;have HY:=hid hY;have HC:=hid hc;have HKC:=hid hk;have HF0:=hid hF;have HJ0:=hid h0;have k0:=hk W (KpG.refl _ _);clear hJ hY hc h0 hk hF;refine callsIn_of_wp func187 rfl trivial ?_ rfl;simp only [Tryz.ntmps187,List.size_toArray,nX,List.length_nil,Nat.reduceAdd,Nat.reduceSub,Array.replicate_succ,Array.replicate_zero,List.push_toArray,List.append_toArray,List.nil_append,List.cons_append]
 gi_wp2
 clear k0
 gi_loopw [3] (fun i wr=>∃ k:Nat,k≤dc.length∧i = .int .i64 ((k:Int)-1)∧J (bk dc.length k) wr∧KpG F0 W wr)
  (fun i _=>(intOf i+1).toNat)
 case atStart=>exact ⟨dc.length,dG _,by go_num,by rw [cGk];exact HJ0.out,KpG.refl _ _⟩
 case round =>
  obtain ⟨k,hk,rfl,hJk,hK⟩:=hrel;have HJK:=hid hJk;have HK:=hid hK;have k0:=HKC.out wr hK;have HFR:=hid (fun b (hb:F0 b)=>fY (HF0.out b hb) HK.out.size)
  clear hJk hK
  rcases Nat.eq_zero_or_pos k with rfl | hpos
  ·gi_wp2
   go_end0
   exact ⟨⟨_,rfl⟩,.inl ⟨_,rfl,HJK.out⟩⟩
  ·obtain ⟨k,rfl⟩:∃ j,k=j+1:=⟨k-1,by omega⟩
   have e1:((k+1:Nat):Int)-1=(k:Int):=by omega
   have hlt:(k:Int)<(dc.length:Int):=by omega
   have Xi:(dc.length:Int)≤1000:=by omega
   rw [e1];obtain ⟨a,b,c,d,e,f,Qc,c0,c1,c2,c3,c4,c5⟩:=HC.out wr HK.out k (by omega)
   have HL:=hid (cKx (n:=dc.length) (i:=k) (by omega))
   have HB:=hid (bXe (n:=dc.length) (i:=k) (by omega))
   have HP:=hid (bJd (n:=dc.length) (i:=k) (by omega))
   have hge:(k:Int) ≥ 0:=by omega
   obtain ⟨fn,tmps,assign,body,hy,hR⟩:=HY.out _ k a b c d e f wr Qc HJK.out HL.out;clear Qc
   gi_wp2_with (refine hR.mono ?_;clear hR;rintro e w3 (⟨rfl,Tq,Qb⟩ | ⟨rfl,hx⟩))
   ·go_roundw
    case rel=>exact ⟨k,by omega,by go_num,by rw [HB.out];exact Tq,HK.out.trans Qb⟩
    case measure=>simp [intOf]
   ·refine bodyPost_ret (results_none rfl _ _ _) rfl ?_
    exact ⟨⟨_,rfl⟩,.inr ⟨bk dc.length (k+1)++[k],HB.out ▸ HP.out,hx⟩⟩
set_option maxRecDepth 1000000 in
set_option maxHeartbeats 2000000 in
theorem aWh(n l b1 o1 cap:Nat)(p:Option Addr)(hn:1≤n)(J:World→Prop)(W:World)(hk:W.cell? ⟨b1,o1,none⟩=some (.slice p 0 cap))(h0:J W) :
  CallsIn Fence.wide n Tp 187 #[.func (.yield l) #[] #[],.pointer (some ⟨b1,o1,none⟩)] W fun e W'=>(∃ v,e = .returned v)∧J W':=by
 have HJ0:=hid h0;have k0:=hk;clear h0 hk;refine callsIn_of_wp func187 rfl trivial ?_ rfl;simp only [Tryz.ntmps187,List.size_toArray,nX,List.length_nil,Nat.reduceAdd,Nat.reduceSub,Array.replicate_succ,Array.replicate_zero,List.push_toArray,List.append_toArray,List.nil_append,List.cons_append]
 gi_wp2
 clear k0
 gi_loopw [3] (fun i wr=>i = .int .i64 (-1)∧J wr) (fun i _=>(intOf i+1).toNat)
 case atStart=>exact ⟨by go_num,HJ0.out⟩
 case round =>
  obtain ⟨rfl,hJk⟩:=hrel;have HJK:=hid hJk;clear hJk
  gi_wp2
  go_end0
  exact ⟨⟨_,rfl⟩,HJK.out⟩
end KV
end Go.Proofs
end
namespace Go.Proofs
namespace KV
open Tryz
section
variable {P:Program} {ops:Array Oper} {md:Region.Mode} {Q:Exit→Act→World→Prop} {F:Fence} {n:Nat}

def VS(P:Program)(m:Sem Next):Prop:=∀ w,(∃ v w',m.run P w = .ok (.value v) w')∨(∃ w',m.run P w = .ok .skip w')∨∃ x w',m.run P w = .halt x w'
theorem VS.val(m:Sem Value):VS P (do pure (.value (← m))):=fun w=>by
 cases h:m.run P w with
 | ok v w'=>exact .inl ⟨v,w',by simp [h,Result.andThen]⟩
 | halt x w'=>exact .inr (.inr ⟨x,w',by simp [h,Result.andThen]⟩)
theorem VS.unit(m:Sem Unit):VS P (do m;pure .skip):=fun w=>by
 cases h:m.run P w with
 | ok v w'=>exact .inr (.inl ⟨w',by simp [h,Result.andThen]⟩)
 | halt x w'=>exact .inr (.inr ⟨x,w',by simp [h,Result.andThen]⟩)
theorem VS.bind{α:Type}(m:Sem α)(f:α→Sem Next)(h:∀ x,VS P (f x)):VS P (m >>= f):=fun w=>by
 cases e:m.run P w with
 | ok v w' =>
  rcases h v w' with ⟨u,w2,q⟩ | ⟨w2,q⟩ | ⟨x,w2,q⟩
  ·exact .inl ⟨u,w2,by simp [e,Result.andThen,q]⟩
  ·exact .inr (.inl ⟨w2,by simp [e,Result.andThen,q]⟩)
  ·exact .inr (.inr ⟨x,w2,by simp [e,Result.andThen,q]⟩)
 | halt x w'=>exact .inr (.inr ⟨x,w',by simp [e,Result.andThen]⟩)
theorem VS.pure(v:Value):VS P (Pure.pure (.value v):Sem Next):=fun w => .inl ⟨v,w,rfl⟩
def aBl(o:Oper):Bool:=match o.op with
 | .move _=>true
 | .assign _=>true
 | .indexAddr _ _ _=>true
 | .fieldAddr _ _ _=>true
 | .field _ _ _=>true
 | .load _ _=>true
 | .store _ _ _=>true
 | .lookup _ _ _ _=>true
 | .buildSlice _ _ _=>true
 | .mapUpdate _ _ _ _=>true
 | .nilCheck _=>true
 | .call c=>match c.callee with
  | .builtin .append=>true
  | _=>false
 | _=>false
theorem bXd{o:Oper}(h:aBl o=true)(ρ:Operand→Value):VS P (execOp ρ o):=by
 unfold aBl at h
 unfold execOp;cases ho:o.op <;> rw [ho] at h <;> first | exact absurd h Bool.false_ne_true | exact VS.val _ | exact VS.unit _ | skip
 case move x=>exact fun w => .inl ⟨_,w,rfl⟩
 case assign x=>exact fun w => .inl ⟨_,w,rfl⟩
 case nilCheck x =>
  dsimp only
  split
  ·exact fun w => .inr (.inr ⟨_,_,rfl⟩)
  ·exact fun w => .inr (.inr ⟨_,_,rfl⟩)
  ·exact fun w => .inr (.inr ⟨_,_,rfl⟩)
  ·split
   ·exact fun w => .inr (.inr ⟨_,_,rfl⟩)
   ·refine VS.bind _ _ fun p=>VS.bind _ _ fun q => ?_
    split
    ·exact VS.bind _ _ fun _=>VS.pure _
    ·exact VS.pure _
   ·exact VS.pure _
  ·exact VS.pure _
 case call c =>
  dsimp only at h
  show VS P (resolve ρ c o.type >>= fun d=>invoke d.target d.args)
  split at h
  ·rename_i hc
   unfold resolve;rw [hc];exact VS.val _
  ·cases h
theorem aWf{o:Oper}(h:aBl o=true):∀ c,o.op ≠ .defer c:=fun c hc=>by unfold aBl at h;rw [hc] at h;cases h

theorem aQt(hall:∀ f,F.fn f){i:Nat}{K:Act→World→Prop}{a:Act}{w:World}(hL:¬ LetsOut Q)(hc:∀ o,ops[i]? = some o→aBl o=true)(h:wpOp P ops Q i K a w):wpOpIn F n P ops Q i K a w:=by
 unfold wpOp at h
 unfold wpOpIn;cases ho:ops[i]? with
 | none=>rw [ho] at h;exact h
 | some o =>
  rw [ho] at h
  dsimp only at h ⊢
  split
  ·rename_i hw
   rw [if_pos hw] at h
   rcases h with h | h
   ·unfold Oper.wp at h
    unfold Oper.wpIn;refine ⟨fun f _=>hall f,?_⟩
    rw [Oper.semAt_plain _ _ _ (aWf (hc o ho))]
    rcases bXd (P:=P) (hc o ho) a.eval w with ⟨v,w',e⟩ | ⟨w',e⟩ | ⟨x,w',e⟩
    ·rw [e] at h ⊢;exact h
    ·rw [e] at h ⊢;exact h
    ·rw [e] at h ⊢
     cases x <;> first | exact h | exact h.elim
   ·exact absurd h.2 hL
  ·rename_i hw
   rw [if_neg hw] at h
   exact ⟨fun f _=>hall f,h⟩
theorem yK(hall:∀ f,F.fn f)(hL:¬ LetsOut Q)(hc:∀ (i:Nat) (o:Oper),ops[i]? = some o→aBl o=true):∀ (fuel:Nat) (listed:Array Bool) (a:Act) (w:World),wpAny P md ops Q fuel listed a w→wpAnyIn F n P md ops Q fuel listed a w
 | 0,_,_,_,h=>h
 | fuel+1,listed,a,w,h=>⟨h.1,fun i hi=>wpOpIn_mono (fun a' w' h'=>yK hall hL hc fuel _ a' w' h') (aQt hall hL (hc i) (h.2 i hi))⟩

theorem bJc{S:World→Prop}{id:Nat}{l:List Oper}{a:Act}{w:World}{o1 o2 o3:Oper}(hall:∀ f,F.fn f)(hL:¬ LetsOut Q)(hcalm:l.all aBl=true)(ts:List Nat)(r1 r2 r3:Nat)(hm:P.follows .mixedOrders=true)(hB:aMc l ts r1 r2 r3=true)(h1:l[r1]? = some o1)(h2:l[r2]? = some o2)(h3:l[r3]? = some o3)
  (hQ:∀ c a w,¬ Q (.panic c) a w) (hS:S { w with drawn:=w.drawn+1 }) (vs:List Value) (hl:vs.length=ts.length) (hy:aMb P S ((ts.filterMap fun i=>l[i]?).zip vs) a)
  (h:∀ a',a'=aBm ((ts.filterMap fun i=>l[i]?).zip vs) a→∃ v1 w1 v2 w2 w3,(execOp a'.eval o1).run P { w with drawn:=w.drawn+1 } = .ok (.value v1) w1∧S w1∧(execOp (a'.put o1.dst v1).eval o2).run P w1 = .ok (.value v2) w2∧S w2 ∧
   (execOp ((a'.put o1.dst v1).put o2.dst v2).eval o3).run P w2 = .ok .skip w3∧Q .normal (((a'.put o1.dst v1).put o2.dst v2).put o3.dst undef) w3):(Code.region id l.toArray true).wpIn F n P Q a w:=by
 unfold aMc at hB
 simp only [B7,decide_eq_true_eq] at hB
 obtain ⟨⟨⟨hsel,ht⟩,hsz⟩,hne⟩:=hB;refine wpIn_region_any hm (yK hall hL (fun i o ho=>gJ.1 hcalm o (Bi (by simpa using ho))) _ _ _ _ (aFo (S:=S) (L:=r3) _ _ _ _ ?_))
 rw [← hsz];refine aJg (rs:=[r1,r2,r3]) hsel hQ hS ts vs _ a hl (by rw [hsz];exact ht) (by simpa using hy) (fun Gu hc => ?_)
 obtain ⟨v1,w1,v2,w2,w3,e1,s1,e2,s2,e3,hq⟩:=h _ rfl;simp only [aJf.chain,B7,decide_eq_true_eq] at hc
 obtain ⟨⟨g1,c1⟩,⟨g2,c2⟩,⟨g3,c3⟩,c4⟩:=hc;have k1:l.toArray[r1]? = some o1:=by simpa using h1
 have k2:l.toArray[r2]? = some o2:=by simpa using h2
 have k3:l.toArray[r3]? = some o3:=by simpa using h3
 rw [k1] at g1;rw [k2] at g2;rw [k3] at g3
 simp only [Option.isNone_iff_eq_none] at g1 g2 g3
 have Lk:((ts.filterMap fun i=>l.toArray[i]?))=(ts.filterMap fun i=>l[i]?):=by simp
 rw [Lk];refine wY c1 k1 g1 (.inl e1) (fun _=>s1) ?_
 refine wY c2 k2 g2 (.inl e2) (fun _=>s2) ?_
 refine wY c3 k3 g3 (.inr ⟨e3,rfl⟩) (fun h=>absurd rfl h) ?_
 exact ⟨by simpa using c4,hq⟩
end
section
open Go.ChangeMaps (setBlock)
variable {P:Program} {C:Cx} {M:Mem} {w:World}

theorem bXc{M':Mem}(hM:aT P C M w)(h1:∀ (i:Nat) (o:AO),M'[i]? = some (some o)→M[i]? = some (some o))
  (h2:∀ (i ty:Nat) (cs:List AV),M'[i]? = some (some (.box ty cs))→∀ x∈cs,∀ u,Rep C M w x u→Rep C M' w x u):aT P C M' w:=by
 refine ⟨fun i ty n cs hm=>hM.row _ _ _ _ (h1 _ _ hm),fun i ty cs hm => ?_,fun i es cl hm=>hM.mp _ _ _ (h1 _ _ hm),fun i i' o o' b q1 q2 q3 q4=>hM.inj i i' o o' b (h1 _ _ q1) q2 (h1 _ _ q3) q4,fun i o b q1=>hM.nF i o b (h1 _ _ q1),hM.Fs,fun i o b q1=>hM.lt i o b (h1 _ _ q1)⟩
 obtain ⟨b,arr,q0,q1,q2,q3,q4⟩:=hM.box _ _ _ (h1 _ _ hm);exact ⟨b,arr,q0,q1,q2,fun j hj=>h2 _ _ _ hm _ (fL hj) _ (q3 j hj),q4⟩
theorem aQr{M':Mem}{i off:Nat}{u:Value}(hi:M'[i]? = M[i]?)(h:Rep C M w (.ptr i off) u):Rep C M' w (.ptr i off) u:=by
 cases h with
 | ptr _ _ _ h0 ha h hp=>exact .ptr i off u h0 (by rw [hi];exact ha) (by rw [hi];exact h) hp
theorem aWe{M':Mem}{i:Nat}{u:Value}(hi:M'[i]? = M[i]?)(h:Rep C M w (.mp i) u):Rep C M' w (.mp i) u:=by
 cases h with
 | mp _ _ h0 ha h=>exact .mp i u h0 (by rw [hi];exact ha) (by rw [hi];exact h)
theorem uY{M':Mem}{x:PV}{u:Value}(h:Rep C M w (.p x) u):Rep C M' w (.p x) u:=by
 cases h with
 | p _ _ h=>exact .p _ _ h

theorem aQs{b ty k:Nat}{cs:List PV}{arr:Array Value}(hM:aT P C M w)(hf:aBt M k)(hh:w.heap[b]? = some (.cells arr ty (0,0)))(hnF:¬ C.F b)(hnl:∀ (id:Nat) (o:AO),M[id]? = some (some o)→o.live=true→C.ι id≠some b)
  (hs:arr.size=cs.length) (hrep:∀ j (h:j<cs.length),cM C.F w cs[j] (arr.getD j undef)) (h1:∀ j,j<cs.length→(arr.getD j undef).oneCell'=true) :
  aT P (C.grow k b 1) (bA M k (some (.box ty (cs.map .p)))) w∧Le C (C.grow k b 1) M (bA M k (some (.box ty (cs.map .p)))) w w:=by
 have hne:∀ (j:Nat) (o':AO),M[j]? = some (some o')→j≠k:=fun j o' h e=>hf o' (e ▸ h)
 have hold:∀ (j:Nat) (o':AO),j≠k→(bA M k (some (.box ty (cs.map .p))))[j]? = some (some o')→M[j]? = some (some o'):=fun j o' h=>(aS M k j _ o' (fun e=>h e.symm)).1
 have hfw:∀ (j:Nat) (o':AO),M[j]? = some (some o')→(bA M k (some (.box ty (cs.map .p))))[j]? = some (some o'):=fun j o' h=>(aS M k j _ o' (fun e=>hne j o' h e.symm)).2 h
 have hι:∀ j,j≠k→(C.grow k b 1).ι j=C.ι j:=fun j h=>by simp [Cx.grow,h]
 have hκ:∀ j,j≠k→(C.grow k b 1).κ j=C.κ j:=fun j h=>by simp [Cx.grow,h]
 have hιs:(C.grow k b 1).ι k=some b:=by simp [Cx.grow]
 have hle:Le C (C.grow k b 1) M (bA M k (some (.box ty (cs.map .p)))) w w:=by
  refine ⟨fun j o h=>⟨o,hfw j o h⟩,fun j o h Dh n' Bp hm=>⟨Bp,hold j _ (hne j o h) hm⟩,fun j o h o' hm hl => ?_,fun _ h=>h,fun _ _=>rfl⟩
  have:=hold j _ (hne j o h) hm;rw [h] at this;cases this
  exact ⟨hl,hι j (hne j o h),hκ j (hne j o h)⟩
 have hnew:∀ (o':AO),(bA M k (some (.box ty (cs.map .p))))[k]? = some (some o')→o' = .box ty (cs.map .p):=fun o' h=>by rw [aZ] at h;cases h;rfl
 refine ⟨⟨fun j Dh n' Bp hm => ?_,fun j Dh Bp hm => ?_,fun j es cl hm => ?_,fun j j' o1 o2 b' hm hl Dr D3 Dd Fc => ?_,fun j o' b' hm hl A1 => ?_,hM.Fs,fun j o' b' hm hl A1 => ?_⟩,hle⟩
 ·by_cases e:j=k
  ·subst e;cases hnew _ hm
  ·rw [hι j e,hκ j e]
   rcases hM.row _ _ _ _ (hold j _ e hm) with h4 | ⟨b,arr,inf,q0,q1,q2,q3,q4,q5,q6,q7,q8⟩
   ·exact .inl h4
   ·exact .inr ⟨b,arr,inf,q0,q1,q2,q3,q4,q5,q6,fun j hj=>(q7 j hj).mono hle.F hle.fz,q8⟩
 ·by_cases e:j=k
  ·subst e
   cases hnew _ hm;refine ⟨b,arr,hιs,hh,by simpa using hs,fun i hi => ?_,fun i hi=>h1 i (by simpa using hi)⟩
   rw [nY];exact .p _ _ (hrep i (by simpa using hi))
  ·rw [hι j e]
   obtain ⟨b,arr,q0,q1,q2,q3,q4⟩:=hM.box _ _ _ (hold j _ e hm);exact ⟨b,arr,q0,q1,q2,fun j hj=>(q3 j hj).mono hle,q4⟩
 ·by_cases e:j=k
  ·subst e;cases hnew _ hm
  ·rw [hι j e]
   obtain ⟨b,arr,q0,q1,q2,q3⟩:=hM.mp _ _ _ (hold j _ e hm);refine ⟨b,arr,q0,q1,q2,fun j hj => ?_⟩
   obtain ⟨en,r1,r2,r3,r4⟩:=q3 j hj;exact ⟨en,r1,r2,r3,r4.mono hle.F hle.fz⟩
 ·by_cases e:j=k
  ·by_cases e':j'=k
   ·rw [e,e']
   ·subst e
    rw [hιs] at Dd;cases Dd
    rw [hι j' e'] at Fc
    exact absurd Fc (hnl _ _ (hold j' _ e' Dr) D3)
  ·by_cases e':j'=k
   ·subst e'
    rw [hιs] at Fc;cases Fc
    rw [hι j e] at Dd
    exact absurd Dd (hnl _ _ (hold j _ e hm) hl)
   ·rw [hι j e] at Dd;rw [hι j' e'] at Fc
    exact hM.inj _ _ _ _ _ (hold j _ e hm) hl (hold j' _ e' Dr) D3 Dd Fc
 ·by_cases e:j=k
  ·subst e
   rw [hιs] at A1;cases A1
   exact hnF
  ·rw [hι j e] at A1
   exact hM.nF _ _ _ (hold j _ e hm) hl A1
 ·by_cases e:j=k
  ·subst e
   rw [hιs] at A1;cases A1
   exact cE hh
  ·rw [hι j e] at A1
   exact hM.lt _ _ _ (hold j _ e hm) hl A1
end
end KV
end Go.Proofs
section
namespace Go.Proofs
open Go.RowKit Go.Lib Go.Shelf
namespace KV
open Tryz
abbrev Bk(dc:Lqq):={ k:Nat // k<dc.length }
def nT(dc:Lqq)(k:Nat):List Int:=dc.getD k []
abbrev aQq(dc:Lqq):AV := .fn 187 [] [(.rp [(.sl dc.length (dc.flatten.map aA))] 0)]
theorem cKv{F:Nat→Prop}{w:World}{n:Int}{u:Value}(h:cM F w (aA n) u):u = .int .i64 n:=by unfold aA at h;cases h;rfl
theorem bXb{dc:Lqq}(hu:uni 6 dc){k j:Nat}{x:List Int}(hx:dc[k]? = some x)(hj:j<6):dc.flatten[k*6+j]? = some (x.getD j 0):=by
 have hk:k<dc.length:=(B3.1 hx).1
 induction dc generalizing k with
 | nil=>simp at hk
 | cons y r ih =>
  have hy:y.length=6:=hu y (gL ..);rw [vC];cases k with
  | zero =>
   simp at hx;subst hx
   rw [Nat.zero_mul,gU,zL (by omega),Bv,Av (by omega)];rfl
  | succ k =>
   rw [yD (by omega),hy,show (k+1)*6+j-6=k*6+j by omega]
   exact ih (fun z hz=>hu z (Cj _ hz)) (by simpa using hx) (by simpa using hk)
theorem cGj{F:Nat→Prop}{w:World}{n:Nat}{cs:List PV}{v:Value}(h:cM F w (.sl n cs) v):∃ (p:Option Addr) (cap:Nat) (us:Nat→Value),v = .slice p n cap∧(∀ i,i<cs.length→∃ b o,p=some ⟨b,o,none⟩∧F b∧w.cell? ⟨b,o+i,none⟩=some (us i))∧∀ i (h:i<cs.length),cM F w cs[i] (us i):=by
 cases h with
 | sl _ _ p cap us g1 g2 g3 g4 g5=>exact ⟨p,cap,us,rfl,g3,g4⟩
theorem bJb(dc:Lqq)(hu:uni 6 dc)(hl:dc.length≤1000):cEs Tp (aQq dc) (fun x:Bk dc => #[Value.int .i64 (x.1:Nat),.agg (De (nT dc x.1))]) 187 dc.length (fun ys=>ys.map (fun x=>x.1)=bk dc.length 0):=fun C M w u Pq hFs=>by
 cases Pq with
 | fn _ _ _ us vs h1 h2 h3 h4 =>
  obtain rfl:us = #[]:=by simpa using h1
  have q0:=h4 0 (by simp)
  simp only [List.getElem_cons_zero] at q0
  obtain ⟨x0,rfl⟩:∃ x0,vs = #[x0]:=by
   have:vs.toList.length=1:=by simpa using h2
   match hv:vs.toList,this with
   | [x0],_=>exact ⟨x0,by rw [← hv]⟩
  change Rep C M w (.rp [.sl dc.length (dc.flatten.map aA)] 0) x0 at q0
  cases q0 with
  | rp _ _ b1 o1 u1 e1 e2 e3 =>
   have r0:=e2 0 (by simp)
   change cM C.F w (.sl dc.length (dc.flatten.map aA)) (u1 0) at r0
   have c0:=e1 0 (by simp)
   obtain ⟨p,cap,us2,hv,g3,g4⟩:=cGj r0;rw [hv] at c0
   clear r0 hv
   ·have hlf:(dc.flatten.map aA).length=dc.length*6:=by rw [Cb,oW hu]
    refine ⟨_,fun pre=>True,rfl,fun l J Jx W hW hJ _ hY h0 => ?_⟩
    have hsame:∀ W',KpG C.F W W'→∀ b,C.F b→W'.heap[b]? = w.heap[b]? := fun W' hk b hb=>(hk.same b hb).trans (hW.block b (hFs b hb))
    obtain ⟨b2,o2,hp⟩:∃ b2 o2,dc.length=0∨p=some ⟨b2,o2,none⟩:=by
     by_cases hz:dc.length=0
     ·exact ⟨0,0,.inl hz⟩
     ·obtain ⟨b,o,h,_⟩:=g3 0 (by omega)
      exact ⟨b,o,.inr h⟩
    have hcell:∀ W',KpG C.F W W'→∀ k:Nat,k<dc.length→∃ a b c d e f,dc[k]? = some [a,b,c,d,e,f]∧W'.cell? ⟨b2,o2+k*6,none⟩=some (.int .i64 a)∧W'.cell? ⟨b2,o2+k*6+1,none⟩=some (.int .i64 b)∧W'.cell? ⟨b2,o2+k*6+2,none⟩=some (.int .i64 c)∧W'.cell? ⟨b2,o2+k*6+3,none⟩=some (.int .i64 d)∧W'.cell? ⟨b2,o2+k*6+4,none⟩=some (.int .i64 e)∧W'.cell? ⟨b2,o2+k*6+5,none⟩=some (.int .i64 f):=fun W' hk k hkn=>by
     obtain ⟨a,b,c,d,e,f,hx⟩:=S0 hu (i:=k) (by omega)
     have one:∀ j,j<6→W'.cell? ⟨b2,o2+(k*6+j),none⟩=some (.int .i64 ([a,b,c,d,e,f].getD j 0)):=fun j hj=>by
      have hi:k*6+j<(dc.flatten.map aA).length:=by omega
      obtain ⟨b',o',q1,q2,q3⟩:=g3 (k*6+j) hi
      rcases hp with hp | hp
      ·omega
      ·rw [hp] at q1
       cases q1;rw [eT (hsame W' hk b2 q2),q3];have:=g4 (k*6+j) hi;have he:(dc.flatten.map aA)[k*6+j]=aA ([a,b,c,d,e,f].getD j 0):=by
        have h5:=bXb hu hx hj;rw [nY]
        congr 1
        obtain ⟨_,h6⟩:=B3.1 h5;exact h6
       rw [he] at this
       rw [cKv this]
     exact ⟨a,b,c,d,e,f,hx,one 0 (by omega),one 1 (by omega),one 2 (by omega),one 3 (by omega),one 4 (by omega),one 5 (by omega)⟩
    by_cases hz:dc.length=0
    ·-- nothing to yield: any address will do
     have h2:bk dc.length 0=[]:=by unfold bk;rw [hz];rfl
     rw [hz] at c0
     refine (aWh 2 l b1 o1 cap p (by omega) (J []) W ((eT (hsame W (KpG.refl _ _) b1 c0.1) _).trans c0.2) h0).mono ?_
     rintro e W' ⟨h5,h6⟩;exact ⟨h5,.inl ⟨[],by rw [h2];rfl,h6⟩⟩
    ·have hp:p=some ⟨b2,o2,none⟩:=hp.resolve_left hz
     subst hp;have:=aWg dc hl C.F 2 l b1 o1 b2 o2 cap (by omega) (fun ys W=>∃ zs:List (Bk dc),zs.map (fun x=>x.1)=ys∧J zs W) (fun ys W=>∃ zs:List (Bk dc),zs.map (fun x=>x.1)=ys∧Jx zs W)
      (fun pre k a b c d e f W1 hx hj hlt=>by
       obtain ⟨zs,rfl,hj⟩:=hj;have hk:k<dc.length:=(B3.1 hx).1;obtain ⟨fn,tmps,assign,body,hy,hR⟩:=hY zs ⟨k,hk⟩ W1 hj (by simpa [aWi] using hlt)
       have ev:De (nT dc k) = #[.int .i64 a,.int .i64 b,.int .i64 c,.int .i64 d,.int .i64 e,.int .i64 f]:=by
        unfold nT;rw [Bv,hx];rfl
       dsimp only at hy
       rw [ev] at hy
       refine ⟨fn,tmps,assign,body,hy,hR.mono ?_⟩;rintro e w3 (⟨rfl,Tq,Qb⟩ | ⟨rfl,Xh⟩)
       ·exact .inl ⟨rfl,⟨zs++[⟨k,hk⟩],by rw [fM];rfl,Tq⟩,Qb⟩
       ·exact .inr ⟨rfl,⟨zs++[⟨k,hk⟩],by rw [fM];rfl,Xh⟩⟩)
      W (fun ys A B row hs hg hr=>by obtain ⟨zs,h1,h2⟩:=hs;exact ⟨zs,h1,hJ _ _ _ _ h2 hg hr⟩) (fun b hb=>fY (hFs b hb) hW.size)
      hcell
      (fun W' hk=>(eT (hsame W' hk b1 c0.1) _).trans c0.2)
      ⟨[],rfl,h0⟩
     refine this.mono ?_;rintro e W' ⟨h5,h6⟩;refine ⟨h5,?_⟩
     rcases h6 with ⟨ys,rfl,zs,h7,h8⟩ | ⟨pre,_,zs,h7,h8⟩
     ·exact .inl ⟨zs,h7,h8⟩
     ·exact .inr ⟨zs,trivial,h8⟩
end KV
end Go.Proofs
end
section
namespace Go.Proofs
open Go.RowKit
namespace KV
open Tryz
variable {P:Program} {T:TT} {E:Env} {C C0:Cx} {M M0:Mem} {w w0:World}
def fF(P:Program)(k:Nat)(c:Code)(st:St)(e:Ex)(Am:St):Prop:=∀ (C0:Cx) (M0:Mem) (w0:World) (a:Act) (w:World),M0.length≤k→Sim P C0 M0 w0 st a w→∀ (ro:Option Nat) (n:Nat),c.wpIn (Fen ro) n P (fun e' a' w'=>e'=e.toExit∧Sim P C0 M0 w0 Am a' w') a w
theorem fF.cast{k:Nat}{c:Code}{st st1 st2:St}{e:Ex}(h:fF P k c st e st1)(q:st1=st2):fF P k c st e st2:=q ▸ h
theorem bRb(hT:∀ t i,T t=some i→cN P t=some i)(hE:mR P E)(hm:P.follows .mixedOrders=true){id:Nat}{ops:Array Oper}{d:Bool}{st Am:St}{s s':AS}(h:aNw P T E ops d st s=some (Am,s'))(g:bC s'){k:Nat}:fF P k (.region id ops d) st .normal Am:=by
 intro C0 M0 w0 a w _ hs ro n;cases d with
 | false =>
  refine wpIn_region ?_;have:=wC hT hE ops.toList 0 (fun j=>by simp) h g C0 M0 w0 a w hs ro n (fun e' a' w'=>e'=Ex.normal.toExit∧Sim P C0 M0 w0 Am a' w') (fun a' w' h'=>⟨rfl,h'⟩)
  simpa using this
 | true =>
  obtain ⟨_,s1,h1,k1⟩:=aD h;obtain ⟨e1,rfl⟩:=aF h1;obtain ⟨r,s2,h2,k2⟩:=aD k1;obtain ⟨_,s3,h3,k3⟩:=aD k2;obtain ⟨e3,rfl⟩:=aF h3;obtain ⟨rfl,rfl⟩:=aK k3;obtain ⟨hB,_⟩:=bU e1;obtain ⟨hA,_⟩:=bU e3;obtain ⟨os,hfts,hlex⟩:=sM ops.toList _ (fts:=r.1) (fin:=r.2) h2 g
  replace hB:=zC hB
  unfold Region.lexB at hB
  rw [B7] at hB
  have hlen:os.length=ops.toList.length:=by
   have:∀ {l:List Oper} {id:Nat} {st:St} {os:List xK} {fin:St},aNx P T E ops.toList id l st os fin→os.length=l.length:=by
    intro l
    induction l with
    | nil=>intro id st os fin h;cases h;rfl
    | cons o l ih=>intro id st os fin h;cases h with | cons _ _ _ _ q os _ h hr=>simp [ih hr]
   exact this hlex
  have key:qD P T E ops.toList st.m.length (fun k=>os.getD k (.any,[],none)) r.2 ops.toList.length (Array.replicate ops.size false) st:=by
   refine qD.lex ops.toList 0 _ st os (fun j=>by simp) (fun j q hj=>by simp [Bv,hj]) (fun j hj=>absurd hj (aTs _)) (fun j oj hj hl => ?_) (fun i j _ hij hj => ?_) (by simpa using hB.2) (by simpa [ido] using hlex)
   ·exfalso
    rcases Nat.lt_or_ge j ops.size with h' | h'
    ·simp [h'] at hl
    ·simp [Nat.not_lt.2 h'] at hl
   have Du:j<os.length:=by
    rw [hlen];obtain ⟨o,ho⟩:=Option.isSome_iff_exists.1 hj;exact (B3.1 ho).1
   have:=oD r.1 0 hA i j (aDd os[i]) (aDd os[j]) hij (by rw [hfts,fR,Av (by omega)];rfl) (by rw [hfts,fR,Av Du];rfl)
   rw [gU,gU] at this
   simp only [Bv,Av Du,Av (show i<os.length by omega),Option.getD_some,Array.toArray_toList]
   exact this
  refine wpIn_region_any hm ?_;have:=qD.sound hT hE (C0:=C0) (M0:=M0) (w0:=w0) (ro:=ro) (n:=n) (Q:=fun e' a' w'=>e'=Ex.normal.toExit∧Sim P C0 M0 w0 r.2 a' w') (fun a' w' h'=>⟨rfl,h'⟩) _ _ _ a _ key (hs.drawn (w.drawn+1))
  simpa using this


noncomputable def bRc(c:Code)(st:St):Ask (Ex × St):=match c with
 | .region _ ops d=>do
  let Am ← aNw Tp tT EO ops d st
  pure (.normal,Am)
 | _=>fail
theorem fF.fin{k:Nat}{c:Code}{st Am:St}{e:Ex}{g:Gh}{o:List OI}{l:List Prop}(h:aBz k g (bRc c st (asg o))=some (e,Am,l,[]))(gd:bC (out l)):fF Tp k c st e Am:=by
 unfold aBz at h
 split at h
 ·rename_i e1 st1 s hr
  split at h
  ·rename_i st2 hg
   simp only [Option.some.injEq,Prod.mk.injEq] at h
   obtain ⟨rfl,rfl,rfl,hs⟩:=h;unfold bRc at hr
   split at hr
   ·rename_i id ops d
    obtain ⟨Vf,s1,h1,k1⟩:=aD hr;obtain ⟨he,rfl⟩:=aK k1;cases he;intro C0 M0 w0 a w hk hsm ro n;exact wpIn_mono (bRb (k:=k) aIl aIk mixed h1 (fun p hp=>gd p hp) C0 M0 w0 a w hk hsm ro n) (fun _ _ _ hq=>⟨hq.1,eV hk hg hq.2⟩)
   ·exact (aX hr).elim
  ·cases h
 ·cases h
theorem fF.fi{k:Nat}{c:Code}{st Am:St}{e:Ex}(g:Gh)(o:List OI){l:List Prop}(gd:bC (out l))(h:aBz k g (bRc c st (asg o))=some (e,Am,l,[]):=by kernel_rfl):fF Tp k c st e Am:=fF.fin h gd
end KV
end Go.Proofs
end
namespace Go.Proofs
namespace KV
open Tryz
section
variable {dl x0 x1 x2 x3 x4 x5:Int}{cl mb:Nat}

theorem bWy{v1 v2:Value}{es:List (Value × PV)}(h0:cP .i64 es (.int .i64 x0))(h1:(dS es (.int .i64 x0))=true):fF Tp 5 (sub (cd Tryz.f82) [1,1,1,1,0,1,0,1,0,0]) ⟨fr 57 [(6,(.ptr 0 0)),(8,(.ptr 4 0))],[some (.box 130 [(.ptr 1 0)]),some (.box 176 [(pI dl),(.p (.v v1)),(.p (.v v2)),(.mp 2),(.p (.v (.map (some mb))))]),some (.mp es cl),some .dead,some (.box 44 [(pI x0),(pI x1),(pI x2),(pI x3),(pI x4),(pI x5)])]⟩ .normal ⟨fr 57 [(6,(.ptr 0 0)),(8,(.ptr 4 0))],[some (.box 130 [(.ptr 1 0)]),some (.box 176 [(pI dl),(.p (.v v1)),(.p (.v v2)),(.mp 2),(.p (.v (.map (some mb))))]),some (.mp (qZ es (.int .i64 x0) (dcE x0 x1 x2 x3 x4 x5)) cl),some .dead,some (.box 44 [(pI x0),(pI x1),(pI x2),(pI x3),(pI x4),(pI x5)])]⟩:=fF.fi ⟨[0,1,2,3,4,5,7,9,10,11,12,13,14,15,16,17,18,19,20,21,22,23,24,25,26,27,28,29,30,31,32,33,34,35,36,37,38,39,40,41,42,43,44,45,46,47,48,49,50,51,52,53,54,55,56],[],[],[]⟩ [bT] (gc h1 (gc h0 gn))
theorem bWz{v1 v2:Value}{es:List (Value × PV)}(h0:cP .i64 es (.int .i64 x0))(h1:(dS es (.int .i64 x0))=false):fF Tp 5 (sub (cd Tryz.f82) [1,1,1,1,0,1,0,1,0,0]) ⟨fr 57 [(6,(.ptr 0 0)),(8,(.ptr 4 0))],[some (.box 130 [(.ptr 1 0)]),some (.box 176 [(pI dl),(.p (.v v1)),(.p (.v v2)),(.mp 2),(.p (.v (.map (some mb))))]),some (.mp es cl),some .dead,some (.box 44 [(pI x0),(pI x1),(pI x2),(pI x3),(pI x4),(pI x5)])]⟩ .normal ⟨fr 57 [(6,(.ptr 0 0)),(8,(.ptr 4 0))],[some (.box 130 [(.ptr 1 0)]),some (.box 176 [(pI dl),(.p (.v v1)),(.p (.v v2)),(.mp 2),(.p (.v (.map (some mb))))]),some (.mp (es++[((.int .i64 x0),(dcE x0 x1 x2 x3 x4 x5))]) (cl+1)),some .dead,some (.box 44 [(pI x0),(pI x1),(pI x2),(pI x3),(pI x4),(pI x5)])]⟩:=fF.fi ⟨[0,1,2,3,4,5,7,9,10,11,12,13,14,15,16,17,18,19,20,21,22,23,24,25,26,27,28,29,30,31,32,33,34,35,36,37,38,39,40,41,42,43,44,45,46,47,48,49,50,51,52,53,54,55,56],[],[],[]⟩ [bF] (gc h1 (gc h0 gn))
theorem bXa{v1 v2:Value}{es:List (Value × PV)}:fF Tp 5 (sub (cd Tryz.f82) [1,1,1,1,0,1,0,1,0,1,0]) ⟨fr 57 [(6,(.ptr 0 0)),(8,(.ptr 4 0))],[some (.box 130 [(.ptr 1 0)]),some (.box 176 [(pI dl),(.p (.v v1)),(.p (.v v2)),(.mp 2),(.p (.v (.map (some mb))))]),some (.mp es cl),some .dead,some (.box 44 [(pI x0),(pI x1),(pI x2),(pI x3),(pI x4),(pI x5)])]⟩ .normal ⟨fr 57 [(6,(.ptr 0 0)),(8,(.ptr 4 0)),(39,(pB (decide (x5 > 0))))],[some (.box 130 [(.ptr 1 0)]),some (.box 176 [(pI dl),(.p (.v v1)),(.p (.v v2)),(.mp 2),(.p (.v (.map (some mb))))]),some (.mp es cl),some .dead,some (.box 44 [(pI x0),(pI x1),(pI x2),(pI x3),(pI x4),(pI x5)])]⟩:=fF.fi ⟨[0,1,2,3,4,5,7,9,10,11,12,13,14,15,16,17,18,19,20,21,22,23,24,25,26,27,28,29,30,31,32,33,34,35,36,37,38,40,41,42,43,44,45,46,47,48,49,50,51,52,53,54,55,56],[],[],[]⟩ [] gn
end
end KV
end Go.Proofs
section
namespace Go.Proofs
open Go.RowKit
namespace KV
open Tryz
open Go.ChangeMaps (setBlock)
open Go.Maps Go.MapKept

section
variable {P:Program} {o:Oper} {a:Act} {W W':World}
theorem bQx{x:Operand}{p:Addr}(ho:o.op = .nilCheck x)(hv:a.eval x = .pointer (some p)):(execOp a.eval o).run P W = .ok (.value (.pointer (some p))) W:=by
 unfold execOp;rw [ho];simp [hv]
theorem yI{t:TypeId}{x:Operand}{f:Nat}{v r:Value}(ho:o.op = .fieldAddr t x f)(hx:a.eval x=v)(hr:(Instr.fieldAt t v f).run P W = .ok r W):(execOp a.eval o).run P W = .ok (.value r) W:=by
 unfold execOp;rw [ho];simp [hx,hr,Result.andThen]
theorem yJ{t:TypeId}{fs:Array Field}{f:Nat}{fl:Field}{j:TI}(hd:P.underlying t=some (.struct fs))(hf:fs[f]? = some fl)(hj:cN P fl.type=some j)(h0:j.size≠0)(b off:Nat) :
  (Instr.fieldAt t (.pointer (some ⟨b,off,none⟩)) f).run P W = .ok (.pointer (some ⟨b,off+fl.offset,none⟩)) W:=by
 unfold Instr.fieldAt;rw [Sem.run_bind,run_underlying hd,Result.andThen_ok];simp only [hf];rw [Sem.run_bind];show ((pure (⟨b,off,none⟩:Addr):Sem Addr).run P W).andThen _=_;rw [Sem.run_pure,Result.andThen_ok,Sem.run_bind,sY hj h0,Result.andThen_ok];rfl
theorem bJa{t:Nat}{i:TI}(hi:cN P t=some i)(ha:i.agg=true){b:Nat}{l:List Value}{ty:TypeId}{fr:Nat × Nat}(hl:l.length=i.size)(h:W.heap[b]? = some (.cells l.toArray ty fr)):(Instr.loadAt t (.pointer (some ⟨b,0,none⟩))).run P W = .ok (.agg l.toArray) W:=by
 have:=mG (P:=P) (w:=W) hi ha (b:=b) (o:=0) (f:=fun j=>l.getD j undef) (fun j hj=>by
  rw [gU,cA h (by simpa using (by omega:j<l.length))]
  simp [Bv,Av (show j<l.length by omega),B4])
 have e:((List.range i.size).map fun j=>l.getD j undef).toArray=l.toArray:=by
  rw [← hl]
  congr 1
  apply List.ext_getElem
  ·simp
  ·intro j h1 h2
   simp [Bv,Av h2]
 rw [e] at this
 unfold Instr.loadAt Instr.sureAddr;simpa using this
end
theorem P4{x:List Int}(hx:x.length=6):Instr.fill (fun i=>some (i*6,6)) ((Array.range (1*6)).map (J2.cells[· % J2.cells.size]!)) [(0,.agg (vsL x).toArray)]=some (vsL x).toArray:=by
 obtain ⟨a,b,c,d,e,f,rfl⟩:=A6 hx
 kernel_rfl
theorem tiq{P:Program}{t:Nat}{b:Bool}{n:Nat}(h:(cN P t).map (fun i=>(i.agg,i.size))=some (b,n)):∃ i,cN P t=some i∧i.agg=b∧i.size=n:=by
 cases h2:cN P t with
 | none=>rw [h2] at h;simp at h
 | some i=>rw [h2] at h;simp at h;exact ⟨i,rfl,h.1,h.2⟩
theorem P5:(cN Tp 130).map (fun i=>(i.agg,i.size))=some (false,1):=by kernel_rfl
theorem P6:(cN Tp 174).map (fun i=>(i.agg,i.size))=some (false,1):=by kernel_rfl
theorem Wr:(cN Tp 3).map (fun i=>(i.agg,i.size))=some (false,1):=by kernel_rfl
theorem Tf:(cN Tp 44).map (fun i=>(i.agg,i.size))=some (true,6):=by kernel_rfl
theorem Gp:(Tryz.prog.info? 44).map (fun i=>(i.zero,i.size,i.bytes))=some (some J2,6,48):=by kernel_rfl

structure bWw (mb:Nat) (es:Array MapEntry) (cl:Nat) (L:List Ent) (k:Int) (x:List Int) (W W':World) (Cp:Array MapEntry) (D4:Nat) (e:Ent):Prop where
 ok:mW mb Cp (qP L e)
 ky:e.k=k
 li:e.l=qO L k++[x]
 born:(∀ y∈es.toList,y.born<cl)→∀ y∈Cp.toList,y.born<D4
 has:∀ p∈jA mb Cp D4 (qP L e),W'.heap[p.1]? = some p.2∧((∃ p0∈jA mb es cl L,p0.1=p.1)∨W.heap.size≤p.1)
 size:W.heap.size≤W'.heap.size
 os:W'.os=W.os
 tape:W'.tape=W.tape
 out:W'.output=W.output
 keep:∀ b,b<W.heap.size→(∀ q∈jA mb es cl L,q.1≠b)→W'.heap[b]? = W.heap[b]?

theorem bWx:∃ l:List Oper,sub (cd Tryz.f82) [1,1,1,1,0,1,0,1,0,1,1,0] = .region 9 l.toArray true∧aMc l [0,1,2,3,4,5,6,7,8,9,10,11,12,13] 14 15 16=true∧l.all aBl=true∧l.map (fun o=>(o.op,o.dst))=[(.load 130 (.tmp 6),some 40),(.nilCheck (.tmp 40),some 41),(.fieldAddr 176 (.tmp 41) 2,some 42),(.load 174 (.tmp 42),some 43),(.fieldAddr 44 (.tmp 8) 5,some 44),(.load 3 (.tmp 44),some 45),(.load 130 (.tmp 6),some 46),(.nilCheck (.tmp 46),some 47),(.fieldAddr 176 (.tmp 47) 2,some 48),(.load 174 (.tmp 48),some 49),(.fieldAddr 44 (.tmp 8) 5,some 50),(.load 3 (.tmp 50),some 51),(.lookup 174 (.tmp 49) (.tmp 51) false,some 52),(.load 44 (.tmp 8),some 53),(.buildSlice 24 1 #[(0,.tmp 53)],some 54),(.call { callee := .builtin .append,args := #[.tmp 52,.tmp 54],argTypes := #[24,24] },some 55),(.mapUpdate 174 (.tmp 43) (.tmp 45) (.tmp 55),none)] :=
 ⟨match sub (cd Tryz.f82) [1,1,1,1,0,1,0,1,0,1,1,0] with | .region _ ops _=>ops.toList | _=>[],by kernel_rfl,by kernel_rfl,by kernel_rfl,by kernel_rfl⟩
set_option maxHeartbeats 4000000 in
theorem Tc{F:Fence}{n:Nat}(hall:∀ f,F.fn f){a:Act}{W:World}{b6 bd b8 mb cl:Nat}{es:Array MapEntry}{L:List Ent}{x:List Int}(Mj:x.length=6){a6 ad:Array Value}{t6 td:TypeId}
  (hsz:a.tmps.size=57) (v6:a.tmps.getD 6 undef = .pointer (some ⟨b6,0,none⟩)) (v8:a.tmps.getD 8 undef = .pointer (some ⟨b8,0,none⟩))
  (h6:W.heap[b6]? = some (.cells a6 t6 (0,0))) (q6:0<a6.size∧a6.getD 0 undef = .pointer (some ⟨bd,0,none⟩)) (hd:W.heap[bd]? = some (.cells ad td (0,0))) (qd:4<ad.size∧ad.getD 4 undef = .map (some mb)) (h8:W.heap[b8]? = some (.cells (vsL x).toArray 44 (0,0)))
  (hM:mW mb es L) (hR:∀ p∈jA mb es cl L,W.heap[p.1]? = some p.2) (hl:∀ e∈L,e.l.length≤1000) (hne:∀ p∈jA mb es cl L,p.1≠b6∧p.1≠bd∧p.1≠b8) (hk:(Lit.int .i64 (dAb x)).wf=true) :
  (sub (cd Tryz.f82) [1,1,1,1,0,1,0,1,0,1,1,0]).wpIn F n Tp (fun e a' W'=>e = .normal∧∃ Cp D4 e,bWw mb es cl L (dAb x) x W W' Cp D4 e) a W:=by
 obtain ⟨l,hc,hB,hcalm,hops⟩:=bWx;rw [hc];obtain ⟨o0,l0,rfl,h0,hops⟩:=tE.1 hops;obtain ⟨o1,l1,rfl,h1,hops⟩:=tE.1 hops;obtain ⟨o2,l2,rfl,h2,hops⟩:=tE.1 hops;obtain ⟨o3,l3,rfl,h3,hops⟩:=tE.1 hops;obtain ⟨o4,l4,rfl,h4,hops⟩:=tE.1 hops;obtain ⟨o5,l5,rfl,h5,hops⟩:=tE.1 hops;obtain ⟨o6,l6,rfl,Re,hops⟩:=tE.1 hops;obtain ⟨o7,l7,rfl,h7,hops⟩:=tE.1 hops;obtain ⟨o8,l8,rfl,Rf,hops⟩:=tE.1 hops;obtain ⟨o9,l9,rfl,h9,hops⟩:=tE.1 hops;obtain ⟨o10,l10,rfl,A5,hops⟩:=tE.1 hops;obtain ⟨o11,l11,rfl,Bd,hops⟩:=tE.1 hops;obtain ⟨o12,l12,rfl,Bh,hops⟩:=tE.1 hops;obtain ⟨o13,l13,rfl,B9,hops⟩:=tE.1 hops;obtain ⟨Ws,l14,rfl,Di,hops⟩:=tE.1 hops;obtain ⟨Vd,l15,rfl,G4,hops⟩:=tE.1 hops;obtain ⟨Wt,l16,rfl,Hz,hops⟩:=tE.1 hops;obtain rfl:=List.map_eq_nil_iff.1 hops;obtain ⟨q0,d0⟩:=Prod.mk.inj h0;obtain ⟨q1,d1⟩:=Prod.mk.inj h1;obtain ⟨q2,d2⟩:=Prod.mk.inj h2;obtain ⟨q3,d3⟩:=Prod.mk.inj h3;obtain ⟨q4,d4⟩:=Prod.mk.inj h4;obtain ⟨q5,d5⟩:=Prod.mk.inj h5;obtain ⟨Wu,d6⟩:=Prod.mk.inj Re;obtain ⟨q7,d7⟩:=Prod.mk.inj h7;obtain ⟨q8,d8⟩:=Prod.mk.inj Rf;obtain ⟨q9,d9⟩:=Prod.mk.inj h9;obtain ⟨Wv,Gq⟩:=Prod.mk.inj A5;obtain ⟨Ww,Gr⟩:=Prod.mk.inj Bd;obtain ⟨Wx,Gs⟩:=Prod.mk.inj Bh;obtain ⟨Wy,P7⟩:=Prod.mk.inj B9;obtain ⟨Wz,P8⟩:=Prod.mk.inj Di;obtain ⟨W5,Tg⟩:=Prod.mk.inj G4;obtain ⟨W6,d16⟩:=Prod.mk.inj Hz;clear h0 h1 h2 h3 h4 h5 Re h7 Rf h9 A5 Bd Bh B9 Di G4 Hz;have V6:a.eval (.tmp 6) = .pointer (some ⟨b6,0,none⟩):=v6;have V8:a.eval (.tmp 8) = .pointer (some ⟨b8,0,none⟩):=v8;obtain ⟨W8,Tj,Tk,_⟩:=tiq P5;obtain ⟨W9,P9,Tl,Tm⟩:=tiq P6;obtain ⟨i3,t3,a3,s3⟩:=tiq Wr;obtain ⟨Wl,Xa,Xb,Xc⟩:=tiq Tf;have fd:∀ U:World,(Instr.fieldAt 176 (.pointer (some ⟨bd,0,none⟩)) 2).run Tp U = .ok (.pointer (some ⟨bd,4,none⟩)) U:=fun U =>
  (yJ (P:=Tp) (W:=U) Tryz.underlying176 (f:=2) rfl (by exact P9) (by rw [Tm];decide) bd 0)
 have f8:∀ U:World,(Instr.fieldAt 44 (.pointer (some ⟨b8,0,none⟩)) 5).run Tp U = .ok (.pointer (some ⟨b8,5,none⟩)) U:=fun U =>
  (yJ (P:=Tp) (W:=U) Tryz.underlying44 (f:=5) rfl (by exact t3) (by rw [s3];decide) b8 0)
 obtain ⟨S,hSdef⟩:∃ S:World→Prop,S=fun U=>U.heap[b6]? = W.heap[b6]? ∧ U.heap[bd]? = W.heap[bd]? ∧ U.heap[b8]? = W.heap[b8]? ∧ U.heap[mb]? = W.heap[mb]? := ⟨_,rfl⟩
 have hmb:W.heap[mb]? = some (.map es cl):=hR (mb,.map es cl) (by simp [jA])
 have r6:∀ U,S U→(Instr.loadAt 130 (.pointer (some ⟨b6,0,none⟩))).run Tp U = .ok (.pointer (some ⟨bd,0,none⟩)) U:=fun U hU=>by
  rw [hSdef] at hU
  refine zZ Tj Tk ?_;rw [eT hU.1,cA h6 q6.1];have:=q6.2;simp only [B4,rL q6.1,Option.getD_some] at this ⊢
  rw [this]
 have rd:∀ U,S U→(Instr.loadAt 174 (.pointer (some ⟨bd,4,none⟩))).run Tp U = .ok (.map (some mb)) U:=fun U hU=>by
  rw [hSdef] at hU
  refine zZ P9 Tl ?_;rw [eT hU.2.1,cA hd qd.1];have:=qd.2;simp only [B4,rL qd.1,Option.getD_some] at this ⊢
  rw [this]
 have x5:(vsL x)[5]? = some (.int .i64 (dAb x)):=by
  unfold vsL;rw [fR,Av (by omega)]
  simp [dAb,Bv,Av (show 5<x.length by omega)]
 have r5:∀ U,S U→(Instr.loadAt 3 (.pointer (some ⟨b8,5,none⟩))).run Tp U = .ok (.int .i64 (dAb x)) U:=fun U hU=>by
  rw [hSdef] at hU
  refine zZ t3 a3 ?_;have Tn:5<(vsL x).length:=by simp [vsL,Mj]
  rw [eT hU.2.2.1,cA h8 (j:=5) (by simpa using Tn)]
  simp only [Av Tn,Option.some.injEq] at x5
  simp [B4,Av Tn,x5]
 have r8:∀ U,S U→(Instr.loadAt 44 (.pointer (some ⟨b8,0,none⟩))).run Tp U = .ok (.agg (vsL x).toArray) U:=fun U hU=>by
  rw [hSdef] at hU
  exact bJa Xa Xb (by simp [vsL,Mj,Xc]) (hU.2.2.1.trans h8)
 have rz:∀ U:World,(zeroValue 24).run Tp U = .ok (.slice none 0 0) U:=fun U=>rfl
 have rl:∀ U,S U→(Instr.lookup 174 (.map (some mb)) (.int .i64 (dAb x)) false).run Tp U = .ok (sF L (dAb x)) U:=fun U hU=>by
  rw [hSdef] at hU
  exact bQy Tryz.underlying174 Tryz.underlying3 (rz U) (hU.2.2.2.trans hmb) hM hk
 obtain ⟨W1,Jd⟩:∃ W1:World,W1={ W with drawn:=W.drawn+1 }:=⟨_,rfl⟩
 have J4:W1.heap=W.heap:=by rw [Jd]
 have hs:Sim Tp ((⟨fun _=>none,fun _=>0,fun _=>False,[]⟩:Cx).with (jA mb es cl L++[])) [] { W1 with heap := #[] } ⟨List.replicate 57 .any,[]⟩ { tmps:=a.tmps,defers:=[] } W1:=by
  refine ⟨⟨fun _=>none,fun _=>0,fun _=>False,[]⟩,⟨by simpa using hsz,fun j hj=>by rw [List.getElem_replicate];exact .any _⟩,⟨fun _ _ _ _ h=>by simp at h,fun _ _ _ h=>by simp at h,fun _ _ _ h=>by simp at h,fun _ _ _ _ _ h=>by simp at h,fun _ _ _ h=>by simp at h,fun _ h=>h.elim,fun _ _ _ h=>by simp at h⟩,
   ⟨rfl,rfl,rfl,Nat.zero_le _,fun b hb=>by simp at hb,fun _ _ h=>by simp at h,fun _ _ h=>by simp at h,fun _ _ h=>by simp at h,fun _ _ _ h=>by simp at h,fun _ h=>h,fun _ h=>h.elim⟩,?_⟩
  refine ⟨⟨[],rfl,.nil,fun D h=>by cases h⟩,fun p hp => ?_,.no (fun _ _ h=>by simp at h)⟩
  have Ja:p∈jA mb es cl L:=by have h2:p∈jA mb es cl L++[]:=hp;rwa [List.append_nil] at h2
  refine ⟨by rw [J4];exact hR p Ja,Nat.zero_le _,?_,fun h=>h,fun _ _ h=>by simp at h⟩
  rcases cZ.1 Ja with rfl | ⟨y,_,rfl⟩ <;> (intro h;cases h)
 obtain ⟨v2,w2,Cp,D4,e,hrun,hkeep,J5,⟨hsize,hborn,hold⟩,hup,G2,hek,hel,_,hsim⟩:=bXg (P:=Tp) (C0:=⟨fun _=>none,fun _=>0,fun _=>False,[]⟩) (kt:=3) (S22:=24) (ty:=Vd.type) (k:=dAb x) (x:=x) Mj Tryz.underlying174 Tryz.underlying3 Tryz.underlying24 Gp hs (fun p _ q hq=>by cases hq) hM hk hl
 have F8:S w2:=by
  rw [hSdef];have hlt:∀ b o,W.heap[b]? = some o→b<W1.heap.size:=fun b o h=>by rw [J4];exact cE h
  refine ⟨(hkeep b6 (hlt _ _ h6) fun q hq=>(hne q hq).1).trans (by rw [J4]),(hkeep bd (hlt _ _ hd) fun q hq=>(hne q hq).2.1).trans (by rw [J4]),(hkeep b8 (hlt _ _ h8) fun q hq=>(hne q hq).2.2).trans (by rw [J4]),J5.trans (by rw [J4])⟩
 have J6:S { W with drawn:=W.drawn+1 }:=by rw [hSdef];exact ⟨rfl,rfl,rfl,rfl⟩
 refine bJc (P:=Tp) (o1:=Ws) (o2:=Vd) (o3:=Wt) (S:=S) hall (fun ⟨_,_,h,_⟩=>by cases h) hcalm [0,1,2,3,4,5,6,7,8,9,10,11,12,13] 14 15 16 mixed hB rfl rfl rfl (fun c a w h=>by cases h.1) J6
  [.pointer (some ⟨bd,0,none⟩),.pointer (some ⟨bd,0,none⟩),.pointer (some ⟨bd,4,none⟩),.map (some mb),.pointer (some ⟨b8,5,none⟩),.int .i64 (dAb x),.pointer (some ⟨bd,0,none⟩),.pointer (some ⟨bd,0,none⟩),.pointer (some ⟨bd,4,none⟩),.map (some mb),.pointer (some ⟨b8,5,none⟩),.int .i64 (dAb x),sF L (dAb x),.agg (vsL x).toArray] rfl ?_ ?_
 ·refine ⟨fun U hU=>rV q0 V6 (r6 U hU),fun U hU=>bQx q1 (by simp [bW,bO,dL,hsz,V6,V8,d0,d1,d2,d3,d4,d5,d6,d7,d8,d9,Gq,Gr,Gs]),fun U hU=>yI q2 (by simp [bW,bO,dL,hsz,V6,V8,d0,d1,d2,d3,d4,d5,d6,d7,d8,d9,Gq,Gr,Gs]) (fd U),
   fun U hU=>rV q3 (by simp [bW,bO,dL,hsz,V6,V8,d0,d1,d2,d3,d4,d5,d6,d7,d8,d9,Gq,Gr,Gs]) (rd U hU),fun U hU=>yI q4 (by simp [bW,bO,dL,hsz,V6,V8,d0,d1,d2,d3,d4,d5,d6,d7,d8,d9,Gq,Gr,Gs]) (f8 U),fun U hU=>rV q5 (by simp [bW,bO,dL,hsz,V6,V8,d0,d1,d2,d3,d4,d5,d6,d7,d8,d9,Gq,Gr,Gs]) (r5 U hU),
   fun U hU=>rV Wu (by simp [bW,bO,dL,hsz,V6,V8,d0,d1,d2,d3,d4,d5,d6,d7,d8,d9,Gq,Gr,Gs]) (r6 U hU),fun U hU=>bQx q7 (by simp [bW,bO,dL,hsz,V6,V8,d0,d1,d2,d3,d4,d5,d6,d7,d8,d9,Gq,Gr,Gs]),fun U hU=>yI q8 (by simp [bW,bO,dL,hsz,V6,V8,d0,d1,d2,d3,d4,d5,d6,d7,d8,d9,Gq,Gr,Gs]) (fd U),
   fun U hU=>rV q9 (by simp [bW,bO,dL,hsz,V6,V8,d0,d1,d2,d3,d4,d5,d6,d7,d8,d9,Gq,Gr,Gs]) (rd U hU),fun U hU=>yI Wv (by simp [bW,bO,dL,hsz,V6,V8,d0,d1,d2,d3,d4,d5,d6,d7,d8,d9,Gq,Gr,Gs]) (f8 U),fun U hU=>rV Ww (by simp [bW,bO,dL,hsz,V6,V8,d0,d1,d2,d3,d4,d5,d6,d7,d8,d9,Gq,Gr,Gs]) (r5 U hU),
   fun U hU=>bJe Wx (by simp [bW,bO,dL,hsz,V6,V8,d0,d1,d2,d3,d4,d5,d6,d7,d8,d9,Gq,Gr,Gs]) (by simp [bW,bO,dL,hsz,V6,V8,d0,d1,d2,d3,d4,d5,d6,d7,d8,d9,Gq,Gr,Gs]) (rl U hU),
   fun U hU=>rV Wy (by simp [bW,bO,dL,hsz,V6,V8,d0,d1,d2,d3,d4,d5,d6,d7,d8,d9,Gq,Gr,Gs]) (r8 U hU),trivial⟩
 ·intro a' Mi
  have Xd:a'.eval (.tmp 43) = .map (some mb):=by rw [Mi];simp [aBm,bW,bO,dL,hsz,V6,V8,d0,d1,d2,d3,d4,d5,d6,d7,d8,d9,Gq,Gr,Gs,P7]
  have Qa:a'.eval (.tmp 45) = .int .i64 (dAb x):=by rw [Mi];simp [aBm,bW,bO,dL,hsz,V6,V8,d0,d1,d2,d3,d4,d5,d6,d7,d8,d9,Gq,Gr,Gs,P7]
  have Xe:a'.eval (.tmp 52)=sF L (dAb x):=by rw [Mi];simp [aBm,bW,bO,dL,hsz,V6,V8,d0,d1,d2,d3,d4,d5,d6,d7,d8,d9,Gq,Gr,Gs,P7]
  have Xf:a'.eval (.tmp 53) = .agg (vsL x).toArray:=by rw [Mi];simp [aBm,bW,bO,dL,hsz,V6,V8,d0,d1,d2,d3,d4,d5,d6,d7,d8,d9,Gq,Gr,Gs,P7]
  have Xg:a'.tmps.size=57:=by rw [Mi];simp [aBm,dL,hsz,d0,d1,d2,d3,d4,d5,d6,d7,d8,d9,Gq,Gr,Gs,P7]
  obtain ⟨inf,hi,hz,Fz,Ny⟩:=info_parts Gp;have hvl:(vsL x).length=6:=by simp [vsL,Mj]
  have hbld:∀ U:World,(Instr.buildSlice 24 1 #[(0,.agg (vsL x).toArray)]).run Tp U = .ok (.slice (some ⟨U.heap.size,0,none⟩) 1 1) (U.alloc (.cells (vsL x).toArray 44)):=fun U =>
   aEd (P:=Tp) 24 44 inf 1 #[(0,.agg (vsL x).toArray)] (vsL x).toArray J2 Tryz.underlying24 hi hz (by rw [Fz];decide) (by rw [Fz];exact P4 Mj)
  have To:({ W with drawn:=W.drawn+1 }:World)=W1:=Jd.symm
  rw [To] at J6 ⊢
  refine ⟨_,_,v2,w2,setBlock w2 mb (.map Cp D4),bJf Wz Xf (hbld _),?_,bJg W5 (by rw [P8,bW rfl];exact Xe) (by rw [P8,bO (by omega)]) hrun,F8,bJh W6 (by rw [P8,Tg,bW rfl,bW rfl];exact Xd) (by rw [P8,Tg,bW rfl,bW rfl];exact Qa) (by rw [P8,Tg,bO (by rw [dL];omega)]) hup,?_⟩
  ·obtain ⟨n1,n2,n3⟩:=kF W1 (.cells (vsL x).toArray 44)
   rw [hSdef] at J6 ⊢
   have hlt:∀ b o,W.heap[b]? = some o→b<W1.heap.size:=fun b o h=>by rw [J4];exact cE h
   exact ⟨(n3 b6 (hlt _ _ h6)).trans J6.1,(n3 bd (hlt _ _ hd)).trans J6.2.1,(n3 b8 (hlt _ _ h8)).trans J6.2.2.1,(n3 mb (hlt _ _ hmb)).trans J6.2.2.2⟩
  ·refine ⟨rfl,Cp,D4,e,⟨G2,hek,hel,hborn,fun p hp => ?_,?_,?_,?_,?_,fun b hb hno => ?_⟩⟩
   ·refine ⟨hsim.has p (oV _ hp),?_⟩
    rcases hold p hp with h | h
    ·exact .inl h
    ·right;rw [J4] at h;exact h
   ·unfold setBlock;simp only [Array.size_setIfInBounds];rw [J4] at hsize;exact hsize
   ·obtain ⟨C,_,_,hF,_⟩:=hsim
    exact hF.os.trans (by rw [Jd])
   ·obtain ⟨C,_,_,hF,_⟩:=hsim
    exact hF.tape.trans (by rw [Jd])
   ·obtain ⟨C,_,_,hF,_⟩:=hsim
    exact hF.out.trans (by rw [Jd])
   ·have hbm:b≠mb:=fun h=>hno (mb,.map es cl) (by simp [jA]) h.symm
    have:(setBlock w2 mb (.map Cp D4)).heap[b]? = w2.heap[b]? := by
     unfold setBlock;simp only [Array.getElem?_setIfInBounds];rw [if_neg (Ne.symm hbm)]
    rw [this,hkeep b (by rw [J4];exact hb) hno,J4]
end KV
end Go.Proofs
end
section
namespace Go.Proofs
open Go.RowKit
namespace KV
open Tryz
open Go.ChangeMaps (setBlock)

mutual
def ffP:PV→Bool
 | .v _=>true
 | .agg cs=>bIz cs
 | _=>false
def bIz:List PV→Bool
 | []=>true
 | x::r=>ffP x && bIz r
end
theorem bAc:∀ {l:List PV},bIz l=true→∀ (i:Nat) (h:i<l.length),ffP l[i]=true
 | [],_,i,h=>by simp at h
 | x::r,hl,i,h=>by
  rw [bIz,B7] at hl
  cases i with
  | zero=>exact hl.1
  | succ i=>exact bAc hl.2 i (by simpa using h)
theorem aQn{α:Type}(g:α→PV)(h:∀ x,ffP (g x)=true):∀ l:List α,bIz (l.map g)=true
 | []=>rfl
 | x::r=>by rw [fZ,bIz,h,aQn g h r];rfl
theorem cM.anyF{F F':Nat→Prop}{w w':World}{x:PV}{u:Value}(h:cM F w x u)(hm:ffP x=true):cM F' w' x u:=by
 induction h with
 | v x=>exact .v x
 | agg cs vs h0 h1 _ ih =>
  rw [ffP] at hm
  exact .agg cs vs h0 h1 fun i hi=>ih i hi (bAc hm i hi)
 | sl=>simp [ffP] at hm
 | mp=>simp [ffP] at hm
 | rp=>simp [ffP] at hm

def vI(x:List Int):PV := .agg (x.map aA)
def lQ(es:List (Value × PV))(x:List Int):List (Value × PV):=if dS es (.int .i64 (dN x)) then qZ es (.int .i64 (dN x)) (vI x) else es++[(.int .i64 (dN x),vI x)]
def atF(q:Lqq):List (Value × PV):=q.foldl lQ []
theorem aQo(q:Lqq)(x:List Int):atF (q++[x])=lQ (atF q) x:=by unfold atF;rw [aBy];rfl
structure zX (es:List (Value × PV)):Prop where
 ky:∀ e∈es,aOv .i64 e.1=true
 nd:(es.map fun e=>jO e.1).Nodup
 nm:∀ e∈es,ffP e.2=true
theorem aFm{kv:Value}{x:PV}:∀ (es:List (Value × PV)),((qZ es kv x).map fun e=>jO e.1)=es.map fun e=>jO e.1
 | []=>rfl
 | e::r=>by
  unfold qZ
  split
  ·rename_i h
   rw [fZ,fZ,h]
  ·rw [fZ,fZ,aFm r]
theorem aFn{kv:Value}{x:PV}{e:Value × PV}:∀ {es:List (Value × PV)},e∈qZ es kv x→e∈es∨e=(kv,x)
 | [],h=>by unfold qZ at h;cases h
 | a::r,h=>by
  unfold qZ at h
  split at h
  ·rcases fU.1 h with h | h
   ·exact .inr h
   ·exact .inl (Cj _ h)
  ·rcases fU.1 h with h | h
   ·exact .inl (h ▸ gL ..)
   ·rcases aFn h with h | h
    ·exact .inl (Cj _ h)
    ·exact .inr h
theorem bAd(x:List Int):ffP (vI x)=true:=by unfold vI;rw [ffP];exact aQn _ (fun _=>rfl) _
theorem zX.step{es:List (Value × PV)}(h:zX es){x:List Int}(hx : -1000000≤dN x∧dN x≤1000000):zX (lQ es x):=by
 unfold lQ;cases hb:dS es (.int .i64 (dN x)) with
 | true =>
  rw [if_pos rfl];refine ⟨fun e he => ?_,by rw [aFm];exact h.nd,fun e he => ?_⟩
  ·rcases aFn he with h1 | rfl
   ·exact h.ky e h1
   ·exact pF hx
  ·rcases aFn he with h1 | rfl
   ·exact h.nm e h1
   ·exact bAd x
 | false =>
  rw [if_neg (by simp)]
  refine ⟨fun e he => ?_,?_,fun e he => ?_⟩
  ·rcases jX.1 he with h1 | h1
   ·exact h.ky e h1
   ·rw [List.mem_singleton.1 h1];exact pF hx
  ·rw [fM,List.nodup_append]
   refine ⟨h.nd,by simp,fun a ha b A1 hab => ?_⟩
   simp at A1
   subst A1;obtain ⟨e,he,rfl⟩:=Bs.1 ha;have:=(List.any_eq_false.1 (show es.any _=false from hb)) e he
   exact this (decide_eq_true hab)
  ·rcases jX.1 he with h1 | h1
   ·exact h.nm e h1
   ·rw [List.mem_singleton.1 h1];exact bAd x
theorem bQu{q:Lqq}(hq:∀ x∈q,-1000000≤dN x∧dN x≤1000000):zX (atF q):=by
 have key:∀ (q:Lqq) (es:List (Value × PV)),(∀ x∈q,-1000000≤dN x∧dN x≤1000000)→zX es→zX (q.foldl lQ es):=by
  intro q
  induction q with
  | nil=>intro es _ h;exact h
  | cons x q ih=>intro es hq h;exact ih _ (fun y hy=>hq y (Cj _ hy)) (h.step (hq x (gL ..)))
 exact key q [] hq ⟨fun e h=>(by cases h),by simp,fun e h=>(by cases h)⟩
theorem zX.keys{es:List (Value × PV)}(h:zX es){k:Int}(hk : -1000000≤k∧k≤1000000):cP .i64 es (.int .i64 k):=⟨h.ky,pF hk,h.nd⟩
theorem bQv{kv:Value}{x:PV}(es:List (Value × PV)):(qZ es kv x).length=es.length:=by
 have:=congrArg List.length (aFm (kv:=kv) (x:=x) es);simpa using this

abbrev dkB(dl:Int)(s1 s2:PV)(a b:AV):AO := .box 176 [.p (aA dl),.p s1,.p s2,a,b]
abbrev mV(dl:Int)(sk dc:Lqq):Mem:=[some (.box 130 [.ptr 1 0]),some (dkB dl (.sl sk.length (sk.flatten.map aA)) (.sl dc.length (dc.flatten.map aA)) (.mp 2) (.mp 3)),some (.mp [] 0),some (.mp [] 0)]
abbrev zY(dl:Int)(v1 v2:Value)(mb:Nat)(es:List (Value × PV)):Mem:=[some (.box 130 [.ptr 1 0]),some (dkB dl (.v v1) (.v v2) (.mp 2) (.p (.v (.map (some mb))))),some (.mp es es.length),some .dead]
abbrev iP(dl:Int)(v1 v2:Value)(mb:Nat)(es:List (Value × PV))(x:List Int):Mem:=[some (.box 130 [.ptr 1 0]),some (dkB dl (.v v1) (.v v2) (.mp 2) (.p (.v (.map (some mb))))),some (.mp es es.length),some .dead,some (.box 44 ((x.map aA).map .p))]
theorem at4{α:Type}{a b c d x:α}{i:Nat}(h:[a,b,c,d][i]? = some x):(i=0∧x=a)∨(i=1∧x=b)∨(i=2∧x=c)∨(i=3∧x=d):=by
 match i with
 | 0=>simp at h;exact .inl ⟨rfl,h.symm⟩
 | 1=>simp at h;exact .inr (.inl ⟨rfl,h.symm⟩)
 | 2=>simp at h;exact .inr (.inr (.inl ⟨rfl,h.symm⟩))
 | 3=>simp at h;exact .inr (.inr (.inr ⟨rfl,h.symm⟩))
 | i+4=>simp at h
theorem Nh{α:Type}{a b c d e x:α}{i:Nat}(h:[a,b,c,d,e][i]? = some x):(i=0∧x=a)∨(i=1∧x=b)∨(i=2∧x=c)∨(i=3∧x=d)∨(i=4∧x=e):=by
 match i with
 | 0=>simp at h;exact .inl ⟨rfl,h.symm⟩
 | 1=>simp at h;exact .inr (.inl ⟨rfl,h.symm⟩)
 | 2=>simp at h;exact .inr (.inr (.inl ⟨rfl,h.symm⟩))
 | 3=>simp at h;exact .inr (.inr (.inr (.inl ⟨rfl,h.symm⟩)))
 | 4=>simp at h;exact .inr (.inr (.inr (.inr ⟨rfl,h.symm⟩)))
 | i+5=>simp at h
section
variable {dl:Int} {sk dc:Lqq} {v1 v2:Value} {mb:Nat} {es:List (Value × PV)} {x:List Int} {C C' C3:Cx} {w W W3 W4:World}

theorem uX{i:Nat}{o:AO}(h:(zY dl v1 v2 mb es)[i]? = some (some o))(hl:o.live=true):i=0∨i=1∨i=2:=by
 rcases at4 h with ⟨rfl,_⟩ | ⟨rfl,_⟩ | ⟨rfl,_⟩ | ⟨rfl,e⟩
 ·exact .inl rfl
 ·exact .inr (.inl rfl)
 ·exact .inr (.inr rfl)
 ·cases e;cases hl
theorem eZ(i:Nat)(h:i<4):∃ o,(mV dl sk dc)[i]? = some (some o)∧o.live=true:=by
 match i,h with
 | 0,_=>exact ⟨_,rfl,rfl⟩
 | 1,_=>exact ⟨_,rfl,rfl⟩
 | 2,_=>exact ⟨_,rfl,rfl⟩
 | 3,_=>exact ⟨_,rfl,rfl⟩
theorem bQw:aLz (mV dl sk dc) (zY dl v1 v2 mb es):=⟨fun i es cl h=>(by
 rcases at4 h with ⟨rfl,e⟩ | ⟨rfl,e⟩ | ⟨rfl,e⟩ | ⟨rfl,e⟩
 ·cases e
 ·cases e
 ·exact ⟨_,rfl,rfl⟩
 ·cases e),fun i o h=>by
 rcases at4 h with ⟨rfl,e⟩ | ⟨rfl,e⟩ | ⟨rfl,e⟩ | ⟨rfl,e⟩ <;> cases e <;> rfl⟩

structure aQp (dl:Int) (sk dc:Lqq) (v1 v2:Value) (C:Cx) (w:World) (mb:Nat) (q:Lqq) (W:World) (C':Cx) (es:Array MapEntry) (cl:Nat) (L:List Ent):Prop where
 inv:aHa Tp C (mV dl sk dc) w C' (zY dl v1 v2 mb (atF q)) W
 ok:mW mb es L
 ls:L.map (fun e=>(e.k,e.l))=q.foldl jZ []
 born:∀ y∈es.toList,y.born<cl
 has:∀ p∈jA mb es cl L,W.heap[p.1]? = some p.2∧¬ C'.F p.1∧(p.1=mb∨w.heap.size≤p.1)

theorem aQp.own{q:Lqq}{W':World}{ea:Array MapEntry}{cl:Nat}{L:List Ent}{row:Option Nat}(Db:aT Tp C (mV dl sk dc) w)(hmb:C.ι 3=some mb)(h:aQp dl sk dc v1 v2 C w mb q W C' ea cl L)(hg:W.grownBy W' row)
  (hr:∀ r,row=some r→w.heap.size≤r∧∃ o:Obj,W.heap[r]? = some o∧o.isCells=false):aQp dl sk dc v1 v2 C w mb q W' C' ea cl L:=by
 refine ⟨aHa.own bQw Db h.inv hg hr,h.ok,h.ls,h.born,fun p hp => ?_⟩
 obtain ⟨h1,h2,h3⟩:=h.has p hp;refine ⟨(hg.block p.1 (cE h1) fun e => ?_).trans h1,h2,h3⟩
 obtain ⟨q1,o,q2,q3⟩:=hr _ e.symm
 rcases cZ.1 hp with rfl | ⟨y,_,rfl⟩
 ·have:=Db.lt 3 _ mb rfl rfl hmb
  dsimp only at q1
  omega
 ·rw [q2] at h1
  cases h1;cases q3

theorem bAe{b:Nat}{X:Nat→Prop}{Cp:List (Value × PV)}(Db:aT Tp C (mV dl sk dc) w)(hmb:C.ι 3=some mb)(hI:aHa Tp C (mV dl sk dc) w C' (zY dl v1 v2 mb es) W)(hb:w.heap.size≤b)(hbs:mU W b)(hes:zX Cp)
  (Ia:aT Tp C3 (iP dl v1 v2 mb Cp x) W3) (f:Fr ((C'.grow 4 b 1).with []) (iP dl v1 v2 mb es x) W C3 (iP dl v1 v2 mb Cp x) W3)
  (hsz:W3.heap.size≤W4.heap.size) (ho:W4.os=W3.os) (ht:W4.tape=W3.tape) (hu:W4.output=W3.output)
  (hX:∀ c,X c→¬ C.F c∧(c=mb∨w.heap.size≤c)∧c<W.heap.size∧c≠b∧(mU W c∨c<w.heap.size)) (hk:∀ c,c<W3.heap.size→¬ X c→W4.heap[c]? = W3.heap[c]?) :
  ∃ C4,aHa Tp C (mV dl sk dc) w C4 (zY dl v1 v2 mb Cp) W4∧KeepsFrom w.heap.size W W4∧KpG C.F W W4:=by
 obtain ⟨hFI,hM,fI⟩:=hI;have gι:∀ i,i<4→(C'.grow 4 b 1).ι i=C'.ι i:=fun i hi=>by
  have:i≠4:=by omega
  simp [Cx.grow,this]
 have ιC:∀ i,i<4→C'.ι i=C.ι i:=fun i hi=>by
  obtain ⟨o,h1,_⟩:=eZ (dl:=dl) (sk:=sk) (dc:=dc) i hi;exact (fI.ids i o h1).2.1
 have κC:∀ i,i<4→C'.κ i=C.κ i:=fun i hi=>by
  obtain ⟨o,h1,_⟩:=eZ (dl:=dl) (sk:=sk) (dc:=dc) i hi;exact (fI.ids i o h1).2.2
 have ι3:∀ i,i<5→C3.ι i=(C'.grow 4 b 1).ι i∧C3.κ i=(C'.grow 4 b 1).κ i:=fun i hi=>by
  have:∃ o,(iP dl v1 v2 mb es x)[i]? = some (some o):=by
   match i,hi with
   | 0,_=>exact ⟨_,rfl⟩
   | 1,_=>exact ⟨_,rfl⟩
   | 2,_=>exact ⟨_,rfl⟩
   | 3,_=>exact ⟨_,rfl⟩
   | 4,_=>exact ⟨_,rfl⟩
  obtain ⟨o,h⟩:=this;exact ⟨(f.ids i o h).2.1,(f.ids i o h).2.2⟩
 have ι4:(C'.grow 4 b 1).ι 4=some b:=by simp [Cx.grow]
 have J3:∀ (i:Nat) (o:AO) (c:Nat) (Rh:List (Value × PV)),(iP dl v1 v2 mb Rh x)[i]? = some (some o)→o.live=true→(C'.grow 4 b 1).ι i=some c→(∃ i,i<3∧C.ι i=some c)∨c=b:=fun i o c Rh h hl he=>by
  rcases Nh h with ⟨rfl,_⟩ | ⟨rfl,_⟩ | ⟨rfl,_⟩ | ⟨rfl,e⟩ | ⟨rfl,_⟩
  ·rw [gι 0 (by omega),ιC 0 (by omega)] at he;exact .inl ⟨0,by omega,he⟩
  ·rw [gι 1 (by omega),ιC 1 (by omega)] at he;exact .inl ⟨1,by omega,he⟩
  ·rw [gι 2 (by omega),ιC 2 (by omega)] at he;exact .inl ⟨2,by omega,he⟩
  ·cases e;cases hl
  ·rw [ι4] at he;exact .inr (Option.some.inj he).symm
 have Nb:∀ i c,i<3→C.ι i=some c→c<w.heap.size∧c≠mb:=fun i c hi hc=>by
  obtain ⟨o,h1,h2⟩:=eZ (dl:=dl) (sk:=sk) (dc:=dc) i (by omega)
  refine ⟨Db.lt i o c h1 h2 hc,fun e => ?_⟩
  subst e;have:=Db.inj i 3 o _ c h1 h2 rfl rfl hc hmb;omega
 have Xn3:∀ c,X c→∀ i,i<3→C.ι i≠some c:=fun c hc i hi he=>by
  obtain ⟨h1,h2⟩:=Nb i c hi he
  rcases (hX c hc).2.1 with h3 | h3
  ·exact h2 h3
  ·omega
 have far:∀ c,c<W.heap.size→c≠b→(∀ i,i<3→C.ι i≠some c)→¬ X c→W4.heap[c]? = W.heap[c]? := fun c hc hcb hn hx=>by
  refine (hk c (fY hc f.size) hx).trans (f.keep c hc fun i o h hl he => ?_)
  rcases J3 i o c _ h hl he with ⟨j,hj,h2⟩ | h2
  ·exact hn j hj h2
  ·exact hcb h2
 have XF3:∀ c,X c→¬ C3.F c:=fun c hc hf=>by
  obtain ⟨h1,h2,h3,h4,_⟩:=hX c hc
  rcases f.F2 c hf with h | h | ⟨i,o,q1,q2,q3⟩
  ·exact h1 ((hFI c).1 h)
  ·omega
  ·rcases J3 i o c _ q1 q2 q3 with ⟨j,hj,h5⟩ | h5
   ·exact Xn3 c hc j hj h5
   ·exact h4 h5
 obtain ⟨P3,_⟩:=aFp Ia hsz (fun c hc=>hk c (Ia.Fs c hc) fun hx=>XF3 c hx hc) (fun i o c h hl hc=>hk c (Ia.lt i o c h hl hc) fun hx=>by
  have Wo:i<5:=(B3.1 h).1;rw [(ι3 i Wo).1] at hc
  rcases J3 i o c _ h hl hc with ⟨j,hj,h5⟩ | h5
  ·exact Xn3 c hx j hj h5
  ·exact (hX c hx).2.2.2.1 h5)
 have Lh:aT Tp C3 (zY dl v1 v2 mb Cp) W4:=bXc P3 (fun i o h=>by
   have hi:i<4:=(B3.1 h).1
   match i,hi with
   | 0,_=>exact h
   | 1,_=>exact h
   | 2,_=>exact h
   | 3,_=>exact h) (fun i ty cs h y hy u hu=>by
   rcases at4 h with ⟨rfl,e⟩ | ⟨rfl,e⟩ | ⟨rfl,e⟩ | ⟨rfl,e⟩
   ·cases e
    rw [List.mem_singleton.1 hy] at hu ⊢
    exact aQr (M:=iP dl v1 v2 mb Cp x) rfl hu
   ·cases e
    simp only [fU,List.not_mem_nil,or_false] at hy
    rcases hy with rfl | rfl | rfl | rfl | rfl
    ·exact uY hu
    ·exact uY hu
    ·exact uY hu
    ·exact aWe (M:=iP dl v1 v2 mb Cp x) rfl hu
    ·exact uY hu
   ·cases e
   ·cases e)
 have Wp:∀ i (c:Nat),i<4→C3.ι i=some c→C.ι i=some c:=fun i c hi hc=>by rw [(ι3 i (by omega)).1,gι i hi,ιC i hi] at hc;exact hc
 have Wq:aT Tp ⟨C3.ι,C3.κ,C.F,[]⟩ (zY dl v1 v2 mb Cp) W4:=by
  refine ⟨fun i ty n cs h => ?_,fun i ty cs h => ?_,fun i Rh cl h => ?_,Lh.inj,fun i o c h hl hc => ?_,fun c hc=>fY (Db.Fs c hc) (fB fI.size (fB f.size hsz)),Lh.lt⟩
  ·rcases at4 h with ⟨rfl,e⟩ | ⟨rfl,e⟩ | ⟨rfl,e⟩ | ⟨rfl,e⟩ <;> cases e
  ·obtain ⟨b',arr,q0,q1,q2,q3,q4⟩:=Lh.box _ _ _ h
   refine ⟨b',arr,q0,q1,q2,fun j hj => ?_,q4⟩
   have hq:=q3 j hj;have hp:∀ (y:PV) (u:Value),ffP y=true→Rep C3 (zY dl v1 v2 mb Cp) W4 (.p y) u→Rep ⟨C3.ι,C3.κ,C.F,[]⟩ (zY dl v1 v2 mb Cp) W4 (.p y) u:=fun y u hy hu=>by
    cases hu with
    | p _ _ h=>exact .p _ _ (h.anyF hy)
   rcases at4 h with ⟨rfl,e⟩ | ⟨rfl,e⟩ | ⟨rfl,e⟩ | ⟨rfl,e⟩
   ·cases e
    have:j=0:=by simp at hj;exact hj
    subst this;simp only [List.getElem_cons_zero] at hq ⊢
    cases hq with
    | ptr _ _ _ h0 ha h hp=>exact .ptr _ _ _ h0 ha h hp
   ·cases e
    match j,hj with
    | 0,_=>exact hp _ _ rfl hq
    | 1,_=>exact hp _ _ rfl hq
    | 2,_=>exact hp _ _ rfl hq
    | 3,_ =>
     simp only [List.getElem_cons_succ,List.getElem_cons_zero] at hq ⊢
     cases hq with
     | mp _ _ h0 ha h=>exact .mp _ _ h0 ha h
    | 4,_=>exact hp _ _ rfl hq
   ·cases e
   ·cases e
  ·obtain ⟨b',arr,q0,q1,q2,q3⟩:=Lh.mp _ _ _ h
   refine ⟨b',arr,q0,q1,q2,fun j hj => ?_⟩
   obtain ⟨en,r1,r2,r3,r4⟩:=q3 j hj;have hff:ffP Rh[j].2=true:=by
    rcases at4 h with ⟨rfl,e⟩ | ⟨rfl,e⟩ | ⟨rfl,e⟩ | ⟨rfl,e⟩
    ·cases e
    ·cases e
    ·cases e;exact hes.nm _ (fL hj)
    ·cases e
   exact ⟨en,r1,r2,r3,r4.anyF hff⟩
  ·have hi:=uX h hl
   obtain ⟨o2,h1,h2⟩:=eZ (dl:=dl) (sk:=sk) (dc:=dc) i (by omega)
   exact Db.nF i o2 c h1 h2 (Wp i c (by omega) hc)
 refine ⟨⟨C3.ι,C3.κ,C.F,[]⟩,⟨fun c=>Iff.rfl,Wq,⟨ho.trans (f.os.trans fI.os),ht.trans (f.tape.trans fI.tape),hu.trans (f.out.trans fI.out),fB fI.size (fB f.size hsz),fun c hc hno => ?_,fun i o h => ?_,fun i o h ty n cs hm => ?_,fun i o h o' hm hl => ?_,fun i o c hm hl hc => ?_,fun c hc=>hc,fun c hc => .inl hc⟩⟩,⟨fB f.size hsz,fun c o hc Pw hnc => ?_⟩,⟨fB f.size hsz,fun c hc => ?_⟩⟩
 ·have Nz:∀ i,i<3→C.ι i≠some c:=fun i hi=>by
   obtain ⟨o,h1,h2⟩:=eZ (dl:=dl) (sk:=sk) (dc:=dc) i (by omega)
   exact hno i o h1 h2
  have hcm:c≠mb:=fun e=>hno 3 _ rfl rfl (e ▸ hmb)
  refine (far c (fY hc fI.size) (by omega) Nz fun hx => ?_).trans (fI.keep c hc hno)
  rcases (hX c hx).2.1 with h | h
  ·exact hcm h
  ·omega
 ·have hi:i<4:=(B3.1 h).1
  refine ⟨?_,by show C3.ι i=C.ι i;rw [(ι3 i (by omega)).1,gι i hi,ιC i hi],by
   show C3.κ i=C.κ i;rw [(ι3 i (by omega)).2,← κC i hi]
   have:i≠4:=by omega
   simp [Cx.grow,this]⟩
  match i,hi with
  | 0,_=>exact ⟨_,rfl⟩
  | 1,_=>exact ⟨_,rfl⟩
  | 2,_=>exact ⟨_,rfl⟩
  | 3,_=>exact ⟨_,rfl⟩
 ·rcases at4 hm with ⟨rfl,e⟩ | ⟨rfl,e⟩ | ⟨rfl,e⟩ | ⟨rfl,e⟩ <;> cases e
 ·have hi:i<4:=(B3.1 h).1
  obtain ⟨o2,h1,h2⟩:=eZ (dl:=dl) (sk:=sk) (dc:=dc) i hi;rw [h] at h1;cases h1;exact h2
 ·have hi:=uX hm hl
  have Te:i<4:=by omega
  obtain ⟨o2,h1,h2⟩:=eZ (dl:=dl) (sk:=sk) (dc:=dc) i Te;exact .inr ⟨i,o2,h1,h2,by rw [← ιC i Te,← gι i Te,← (ι3 i (by omega)).1];exact hc⟩
 ·refine (far c (cE Pw) (fun e => ?_) (fun i hi he => ?_) fun hx => ?_).trans Pw
  ·subst e
   obtain ⟨o2,e1,e2⟩:=hbs;rw [Pw] at e1;cases e1;rw [hnc] at e2;cases e2
  ·have:=(Nb i c hi he).1
   omega
  ·rcases (hX c hx).2.2.2.2 with ⟨o2,h1,h2⟩ | h
   ·rw [Pw] at h1;cases h1;rw [hnc] at h2;cases h2
   ·omega
 ·refine far c (fY (Db.Fs c hc) fI.size) (fun e => ?_) (fun i hi he => ?_) fun hx=>(hX c hx).1 hc
  ·have:=Db.Fs c hc;omega
  ·obtain ⟨o,h1,h2⟩:=eZ (dl:=dl) (sk:=sk) (dc:=dc) i (by omega)
   exact Db.nF i o c h1 h2 he hc
end
end KV
end Go.Proofs
end
section
namespace Go.Proofs
open Go.RowKit
namespace KV
open Tryz
open Go.ChangeMaps (setBlock)

def vH(e:Ent):Int × Lqq:=(e.k,e.l)
theorem cGh(L:List Ent)(e:Ent):(qP L e).map vH=aGx (L.map vH) e.k e.l:=by
 by_cases h:∃ y∈L,y.k=e.k
 ·obtain ⟨y,hy,he⟩:=h
  rw [tX hy he];unfold aGx;rw [if_pos (List.any_eq_true.2 ⟨vH y,Bs.2 ⟨y,hy,rfl⟩,by simpa [vH] using he⟩),vD,vD]
  refine aBx fun z _ => ?_
  by_cases hk:z.k=e.k
  ·simp [vH,hk]
  ·simp [vH,hk]
 ·have h':∀ y∈L,y.k≠e.k:=fun y hy he=>h ⟨y,hy,he⟩
  rw [yM h'];unfold aGx;rw [if_neg (fun ha=>by
   obtain ⟨z,hz,he⟩:=List.any_eq_true.1 ha;obtain ⟨y,hy,rfl⟩:=Bs.1 hz;exact h' y hy (by simpa [vH] using he))]
  simp [vH]
theorem bWv(L:List Ent)(k:Int):qO L k=aBj (L.map vH) k:=by
 unfold qO tW aBj
 induction L with
 | nil=>rfl
 | cons y r ih =>
  rw [fZ,List.find?_cons,List.find?_cons]
  by_cases hk:y.k=k
  ·simp [vH,hk]
  ·have h1:(y.k == k)=false:=by simpa using hk
   have h2:((vH y).1 == k)=false:=h1;rw [h1,h2];exact ih

structure bQs (x:List Int):Prop where
 len:x.length=6
 n:1≤dN x∧dN x≤9999
 ab:0≤dAb x∧dAb x≤9998
theorem cGi{q:Lqq}(hq:∀ y∈q,bQs y):∀ e∈q.foldl jZ [],e.2.length≤q.length:=fun e he=>by
 have:=zS q [] [] ⟨by simp,fun e h=>(by cases h),fun x h=>(by cases h)⟩ (fun x hx=>(hq x hx).ab.1)
 rw [List.nil_append] at this
 rw [(this.mem e he).2.2];exact mI _ _

theorem Py{dl:Int}{v1 v2:Value}{mb:Nat}{es:List (Value × PV)}{x:List Int}(hx:bQs x)(hes:zX es):fF Tp 5 (sub (cd Tryz.f82) [1,1,1,1,0,1,0,1,0,0]) ⟨fr 57 [(6,(.ptr 0 0)),(8,(.ptr 4 0))],iP dl v1 v2 mb es x⟩ .normal ⟨fr 57 [(6,(.ptr 0 0)),(8,(.ptr 4 0))],iP dl v1 v2 mb (lQ es x) x⟩:=by
 obtain ⟨a,b,c,d,e,f,rfl⟩:=A6 hx.len;have hk : -1000000≤dN [a,b,c,d,e,f]∧dN [a,b,c,d,e,f]≤1000000:=by have:=hx.n;omega
 have hK:=hes.keys hk;unfold lQ;cases hb:dS es (.int .i64 (dN [a,b,c,d,e,f])) with
 | true =>
  rw [if_pos rfl];exact (bWy hK hb).cast (by unfold iP;rw [bQv];rfl)
 | false =>
  rw [if_neg (by simp)]
  exact (bWz hK hb).cast (by unfold iP;rw [iF];rfl)
theorem Pz{dl:Int}{v1 v2:Value}{mb:Nat}{es:List (Value × PV)}{x:List Int}(hx:x.length=6):fF Tp 5 (sub (cd Tryz.f82) [1,1,1,1,0,1,0,1,0,1,0]) ⟨fr 57 [(6,(.ptr 0 0)),(8,(.ptr 4 0))],iP dl v1 v2 mb es x⟩ .normal ⟨fr 57 [(6,(.ptr 0 0)),(8,(.ptr 4 0)),(39,(.p (blP (decide (dAb x > (0:Int))))))],iP dl v1 v2 mb es x⟩:=by
 obtain ⟨a,b,c,d,e,f,rfl⟩:=A6 hx;exact bXa
theorem bIy:sub (cd Tryz.f82) [1,1,1,1,0,1,0,1] = .block 1 (.seq (sub (cd Tryz.f82) [1,1,1,1,0,1,0,1,0,0]) (.seq (sub (cd Tryz.f82) [1,1,1,1,0,1,0,1,0,1,0]) (.cond (.tmp 39) (sub (cd Tryz.f82) [1,1,1,1,0,1,0,1,0,1,1,0]) .skip))):=by kernel_rfl

section
variable {dl:Int} {sk dc:Lqq} {v1 v2:Value} {mb:Nat} {C C':Cx} {w W:World}
set_option maxHeartbeats 1000000 in
theorem bQt{l n b:Nat}{q:Lqq}{x:List Int}{ea:Array MapEntry}{cl:Nat}{L:List Ent}{a:Act}(hx:bQs x)(hq:∀ y∈q,bQs y)(hql:q.length≤1000)(Db:aT Tp C (mV dl sk dc) w)(hmb:C.ι 3=some mb)(hI:aQp dl sk dc v1 v2 C w mb q W C' ea cl L)
  (hsz:a.tmps.size=57) (hdf:a.defers=[]) (h6:Rep C (mV dl sk dc) w (.ptr 0 0) (a.tmps.getD 6 undef)) (h8:a.tmps.getD 8 undef = .pointer (some ⟨b,0,none⟩)) (hbw:w.heap.size≤b) (hbx:W.heap[b]? = some (.cells (vsL x).toArray 44 (0,0)))
  (hbn:∀ es cl,W.heap[mb]? = some (.map es cl)→∀ y∈es.toList,y.val.ownBlock≠some b) :
  (sub (cd Tryz.f82) [1,1,1,1,0,1,0,1]).wpIn (Fen (some l)) n Tp (fun e _ W4=>e = .normal∧KeepsFrom w.heap.size W W4∧KpG C.F W W4∧∃ C4 Pp D4 L',aQp dl sk dc v1 v2 C w mb (q++[x]) W4 C4 Pp D4 L') a W:=by
 obtain ⟨inv,hok,hls,hborn,hhas⟩:=hI;obtain ⟨hFI,hM,fI⟩:=inv;have hAt:zX (atF q):=bQu fun y hy=>by have:=(hq y hy).n;omega
 have hmbh:=(hhas (mb,.map ea cl) (by simp [jA])).1
 have hmblt:mb<w.heap.size:=Db.lt 3 _ mb rfl rfl hmb;have ιC:∀ i,i<4→C'.ι i=C.ι i:=fun i hi=>by
  obtain ⟨o,h1,_⟩:=eZ (dl:=dl) (sk:=sk) (dc:=dc) i hi;exact (fI.ids i o h1).2.1
 have Nb:∀ i c,i<3→C.ι i=some c→c<w.heap.size∧c≠mb:=fun i c hi hc=>by
  obtain ⟨o,h1,h2⟩:=eZ (dl:=dl) (sk:=sk) (dc:=dc) i (by omega)
  refine ⟨Db.lt i o c h1 h2 hc,fun e => ?_⟩
  subst e;have:=Db.inj i 3 o _ c h1 h2 rfl rfl hc hmb;omega
 have hbF:¬ C'.F b:=fun h=>by have:=Db.Fs b ((hFI b).1 h);omega
 obtain ⟨Lh,Va⟩:=aQs (b:=b) (ty:=44) (k:=4) (cs:=x.map aA) (arr:=(vsL x).toArray) hM (fun o h=>by have:=(B3.1 h).1;simp at this) hbx hbF (fun i o h hl he=>by
   have hi:=uX h hl;rw [ιC i (by omega)] at he
   have:=(Nb i b (by omega) he).1
   omega) (by simp [vsL]) (fun j hj=>by
   have Ct:j<x.length:=by simpa using hj
   rw [nY];have:(vsL x).toArray.getD j undef = .int .i64 x[j]:=by simp [vsL,B4,Ct]
   rw [this];exact .v _) (fun j hj=>by
   have Ct:j<x.length:=by simpa using hj
   have:(vsL x).toArray.getD j undef = .int .i64 x[j]:=by simp [vsL,B4,Ct]
   rw [this];rfl)
 have hset:bA (zY dl v1 v2 mb (atF q)) 4 (some (.box 44 ((x.map aA).map .p)))=iP dl v1 v2 mb (atF q) x:=rfl;rw [hset] at Lh Va
 have Re:Rep (C'.grow 4 b 1) (iP dl v1 v2 mb (atF q) x) W (.ptr 0 0) (a.tmps.getD 6 undef):=(h6.mono (Db.le fI)).mono Va;have hSl:eI (C'.grow 4 b 1) (iP dl v1 v2 mb (atF q) x) W (fr 57 [(6,(.ptr 0 0)),(8,(.ptr 4 0))]) a.tmps:=by
  have s0:eI (C'.grow 4 b 1) (iP dl v1 v2 mb (atF q) x) W (List.replicate 57 .any) a.tmps:=⟨by simpa using hsz,fun j hj=>by rw [List.getElem_replicate];exact .any _⟩
  have set1:∀ (t:List AV) (i:Nat) (y:AV),eI (C'.grow 4 b 1) (iP dl v1 v2 mb (atF q) x) W t a.tmps→Rep (C'.grow 4 b 1) (iP dl v1 v2 mb (atF q) x) W y (a.tmps.getD i undef)→eI (C'.grow 4 b 1) (iP dl v1 v2 mb (atF q) x) W (t.set i y) a.tmps:=fun t i y ht hy=>by
   refine ⟨by simpa using ht.size,fun j hj => ?_⟩
   rw [zN]
   split
   ·rename_i e;subst e;exact hy
   ·exact ht.rep j (by simpa using hj)
  have Rf:Rep (C'.grow 4 b 1) (iP dl v1 v2 mb (atF q) x) W (.ptr 4 0) (a.tmps.getD 8 undef):=by
   rw [h8];exact .ptr 4 0 _ rfl ⟨_,rfl⟩ (fun o ho hl=>⟨b,rfl,by simp [Cx.grow]⟩) ⟨b,rfl⟩
  exact set1 _ 8 _ (set1 _ 6 _ s0 Re) Rf
 have hs:Sim Tp ((C'.grow 4 b 1).with []) (iP dl v1 v2 mb (atF q) x) W ⟨fr 57 [(6,(.ptr 0 0)),(8,(.ptr 4 0))],iP dl v1 v2 mb (atF q) x⟩ a W :=
  ⟨C'.grow 4 b 1,hSl,Lh,(Fr.refl _ _ _).based [],by rw [hdf];exact .nil rfl (fun i o h=>by rcases Nh h with ⟨rfl,e⟩ | ⟨rfl,e⟩ | ⟨rfl,e⟩ | ⟨rfl,e⟩ | ⟨rfl,e⟩ <;> cases e <;> rfl)⟩
 rw [bIy];refine wpIn_block (wpIn_seq (wpIn_mono (Py (dl:=dl) (v1:=v1) (v2:=v2) (mb:=mb) hx hAt _ _ _ _ _ (by simp) hs (some l) n) ?_))
 rintro e a7 W7 ⟨rfl,S8⟩;refine wpIn_seq (wpIn_mono (Pz (dl:=dl) (v1:=v1) (v2:=v2) (mb:=mb) hx.len _ _ _ _ _ (by simp) S8 (some l) n) ?_)
 rintro e a8 W3 ⟨rfl,S9⟩;have v39:a8.eval (.tmp 39) = .bool (decide (dAb x > 0)):=S9.slot rfl;have Ta:a8.tmps.size=57:=S9.size;obtain ⟨C3,Kr,Ia,f3,_⟩:=S9;have hblkL:∀ p∈jA mb ea cl L,p.1≠b∧p.1<W.heap.size∧(∀ i,i<3→C.ι i≠some p.1):=fun p hp=>by
  obtain ⟨q1,q2,q3⟩:=hhas p hp;refine ⟨?_,cE q1,fun i hi he => ?_⟩
  ·rcases cZ.1 hp with rfl | ⟨y,hy,rfl⟩
   ·intro e;simp only at e;omega
   ·intro e
    obtain ⟨z,hz,_,z2⟩:=hok.e2 y hy;exact hbn ea cl hmbh z hz (by rw [z2,← e];rfl)
  ·obtain ⟨h1,h2⟩:=Nb i _ hi he
   rcases q3 with h | h
   ·exact h2 h
   ·omega
 have gι:∀ i,i<4→(C'.grow 4 b 1).ι i=C'.ι i:=fun i hi=>by
  have:i≠4:=by omega
  simp [Cx.grow,this]
 have Vb:∀ p∈jA mb ea cl L,W3.heap[p.1]? = some p.2:=fun p hp=>by
  obtain ⟨h1,h2,h3⟩:=hblkL p hp;refine (f3.keep p.1 h2 fun i o h hl he => ?_).trans (hhas p hp).1
  change (C'.grow 4 b 1).ι i=some p.1 at he
  rcases Nh h with ⟨rfl,_⟩ | ⟨rfl,_⟩ | ⟨rfl,_⟩ | ⟨rfl,e⟩ | ⟨rfl,_⟩
  ·rw [gι 0 (by omega),ιC 0 (by omega)] at he;exact h3 0 (by omega) he
  ·rw [gι 1 (by omega),ιC 1 (by omega)] at he;exact h3 1 (by omega) he
  ·rw [gι 2 (by omega),ιC 2 (by omega)] at he;exact h3 2 (by omega) he
  ·cases e;cases hl
  ·simp [Cx.grow] at he;exact h1 he.symm
 have P0:zX (lQ (atF q) x):=hAt.step (by have:=hx.n;omega)
 have hSol:mU W b:=fW hbx;refine wpIn_cond_split v39 (fun ht => ?_) fun hf => ?_
 ·-- it is about another one
  have hpos:0<dAb x:=of_decide_eq_true ht;obtain ⟨b6,a6,r0,r1,r2,r3,_⟩:=Ia.box 0 _ _ rfl;have r3:=r3 0 (by simp)
  simp only [List.getElem_cons_zero] at r3
  have u6:∃ bd,a6.getD 0 undef = .pointer (some ⟨bd,0,none⟩)∧C3.ι 1=some bd:=by
   generalize a6.getD 0 undef=u at r3
   cases r3 with
   | ptr _ _ _ h0 ha h hp=>exact h _ rfl rfl
  obtain ⟨bd,ud,ιd⟩:=u6;obtain ⟨bd',ad,s0,s1,s2,s3,_⟩:=Ia.box 1 _ _ rfl;rw [ιd] at s0;cases s0
  have s3:=s3 4 (by simp)
  simp only [List.getElem_cons_succ,List.getElem_cons_zero] at s3
  have udm:ad.getD 4 undef = .map (some mb):=by
   generalize ad.getD 4 undef=u at s3
   cases s3 with
   | p _ _ h=>cases h;rfl
  obtain ⟨b8,Tb,t0,t1,t2,t3,_⟩:=Ia.box 4 _ _ rfl;have ι4:C3.ι 4=some b:=by rw [(f3.ids 4 _ rfl).2.1];simp [Cx.with,Cx.grow]
  rw [ι4] at t0;cases t0
  have Wn:Tb=(vsL x).toArray:=by
   apply Array.ext
   ·rw [t2];simp [vsL]
   ·intro j h1 h2
    have hj:j<x.length:=by rw [t2] at h1;simpa using h1
    have:=t3 j (by simpa using hj)
    rw [nY,nY] at this
    have hu:Tb.getD j undef = .int .i64 x[j]:=by
     generalize Tb.getD j undef=u at this
     cases this with
     | p _ _ h=>cases h;rfl
    simp only [B4,rL h1,Option.getD_some] at hu
    rw [hu];simp [vsL]
  subst Wn;have w6:a8.tmps.getD 6 undef = .pointer (some ⟨b6,0,none⟩):=by
   have:=Kr.at (i:=6) (x := .ptr 0 0) rfl
   generalize a8.tmps.getD 6 undef=u at this
   cases this with
   | ptr _ _ _ h0 ha h hp =>
    obtain ⟨b',h1,h2⟩:=h _ rfl rfl;rw [r0] at h2;cases h2
    exact h1
  have w8:a8.tmps.getD 8 undef = .pointer (some ⟨b,0,none⟩):=by
   have:=Kr.at (i:=8) (x := .ptr 4 0) rfl
   generalize a8.tmps.getD 8 undef=u at this
   cases this with
   | ptr _ _ _ h0 ha h hp =>
    obtain ⟨b',h1,h2⟩:=h _ rfl rfl;rw [ι4] at h2;cases h2
    exact h1
  have hLl:∀ e∈L,e.l.length≤1000:=fun e he=>by
   have:vH e∈q.foldl jZ []:=by rw [← hls];exact Bs.2 ⟨e,he,rfl⟩
   have:=cGi hq _ this;simp only [vH] at this
   omega
  have ι0:C.ι 0=some b6:=by
   have:=(f3.ids 0 _ rfl).2.1;rw [r0] at this
   rw [← ιC 0 (by omega),← gι 0 (by omega)]
   exact this.symm
  have ι1:C.ι 1=some bd:=by
   have:=(f3.ids 1 _ rfl).2.1;rw [ιd] at this
   rw [← ιC 1 (by omega),← gι 1 (by omega)]
   exact this.symm
  refine wpIn_mono (Tc (F:=Fen (some l)) (n:=n) (fun _=>trivial) hx.len Ta w6 w8 r1 ⟨by rw [r2];simp,ud⟩ s1 ⟨by rw [s2];simp,udm⟩ t1 hok Vb hLl (fun p hp => ?_) ?_) ?_
  ·obtain ⟨h1,_,h3⟩:=hblkL p hp
   exact ⟨fun e=>h3 0 (by omega) (e ▸ ι0),fun e=>h3 1 (by omega) (e ▸ ι1),h1⟩
  ·have:aOv .i64 (.int .i64 (dAb x))=true:=pF (by have:=hx.ab;omega)
   simp only [aOv,B7] at this
   exact this.2
  ·rintro e a9 W4 ⟨rfl,Pp,D4,e,A⟩
   obtain ⟨C4,P1,P2,Td⟩:=bAe (x:=x) (X:=fun c=>∃ p∈jA mb ea cl L,p.1=c) (Cp:=lQ (atF q) x) Db hmb ⟨hFI,hM,fI⟩ hbw hSol P0 Ia f3 A.size A.os A.tape A.out (fun c hc=>by
    obtain ⟨p,hp,rfl⟩:=hc;obtain ⟨h1,h2,h3⟩:=hblkL p hp;obtain ⟨g1,g2,g3⟩:=hhas p hp;refine ⟨fun h=>g2 ((hFI _).2 h),g3,h2,h1,?_⟩
    rcases cZ.1 hp with rfl | ⟨y,_,rfl⟩
    ·exact .inr hmblt
    ·exact .inl (fW g1)) (fun c hc hn=>A.keep c hc fun p hp e=>hn ⟨p,hp,e⟩)
   refine ⟨rfl,P2,Td,C4,Pp,D4,qP L e,by rw [aQo];exact P1,A.ok,?_,A.born hborn,fun p hp => ?_⟩
   ·show (qP L e).map vH=_
    rw [cGh,A.ky,A.li,bWv,aBy];change aGx (L.map vH) _ _=jZ (q.foldl jZ []) x;have:L.map vH=q.foldl jZ []:=hls;rw [this];unfold jZ;rw [if_pos hpos]
   ·obtain ⟨h1,h2⟩:=A.has p hp
    refine ⟨h1,fun h => ?_,?_⟩
    ·have hF:=(P1.1 _).1 h
     rcases h2 with ⟨p0,Gm,h3⟩ | h3
     ·rw [← h3] at hF
      exact (hhas p0 Gm).2.1 ((hFI _).2 hF)
     ·have:=Db.Fs _ hF
      have:=fI.size;have:=f3.size;omega
    ·rcases h2 with ⟨p0,Gm,h3⟩ | h3
     ·rw [← h3];exact (hhas p0 Gm).2.2
     ·right
      have:=fI.size;have:=f3.size;omega
 ·-- it is about none
  have hpos:¬ 0<dAb x:=of_decide_eq_false hf;obtain ⟨C4,P1,P2,Td⟩:=bAe (x:=x) (X:=fun _=>False) (W4:=W3) (Cp:=lQ (atF q) x) Db hmb ⟨hFI,hM,fI⟩ hbw hSol P0 Ia f3 (dG _) rfl rfl rfl (fun c hc=>hc.elim) (fun c _ _=>rfl)
  refine wpIn_skip ⟨rfl,P2,Td,C4,ea,cl,L,by rw [aQo];exact P1,hok,?_,hborn,fun p hp=>⟨Vb p hp,fun h=>(hhas p hp).2.1 ((hFI _).2 ((P1.1 _).1 h)),(hhas p hp).2.2⟩⟩
  rw [aBy,hls];change _=jZ (q.foldl jZ []) x;unfold jZ;rw [if_neg hpos]
end
end KV
end Go.Proofs
end
section
namespace Go.Proofs
open Go.RowKit
namespace KV
open Tryz
open Go.ChangeMaps (setBlock)

def abE(dc:Lqq):List (Value × PV):=(abM dc).map fun e=>(.int .i64 e.1,.sl e.2.length (e.2.flatten.map aA))
abbrev aBk(dl:Int)(sk dc:Lqq):Mem:=[some (.box 130 [.ptr 1 0]),some (dkB dl (.sl sk.length (sk.flatten.map aA)) (.sl dc.length (dc.flatten.map aA)) (.mp 2) (.p (.mp (abE dc)))),some (.mp (atF dc.reverse) (atF dc.reverse).length),some .dead]
theorem bAb : sub (cd Tryz.f82) [1, 1, 1, 1, 0, 1, 0] = .rangeFunc (.tmp 27) #[28, 29] (.region 6 #[{ dst := some 8, op := .alloc 44, type := 0, pos := "jury.go:198", after := #[], guard := none }, { dst := none, op := .store 44 (.tmp 8) (.tmp 29), type := 0, pos := "jury.go:198", after := #[{ on := 0, ground := .data }, { on := 0, ground := .phase }], guard := none }] false) (sub (cd Tryz.f82) [1, 1, 1, 1, 0, 1, 0, 1]) := by kernel_rfl
theorem aWc{dc:Lqq}(h:bN dc):∀ x∈dc,bQs x:=fun x hx=>⟨h.ud x hx,(iB.1 (h.rng x hx)).1,nJ h x hx⟩
theorem aFl{dc:Lqq}(x:Bk dc):nT dc x.1∈dc:=by
 unfold nT;rw [Bv,Av x.2];exact fL x.2
theorem bQr{dc:Lqq}{xs:List (Bk dc)}(h:xs.map (fun x=>x.1)=bk dc.length 0):xs.map (fun x=>nT dc x.1)=dc.reverse:=by
 have:xs.map (fun x=>nT dc x.1)=(xs.map (fun x=>x.1)).map (nT dc):=by rw [vD];rfl
 rw [this,h,bXf,List.map_reverse]
 congr 1
 apply List.ext_getElem
 ·simp
 ·intro i h1 h2
  simp [nT,Bv,Av h2]

theorem aWd{F:Nat→Prop}{W:World}{mb cl:Nat}{ea:Array MapEntry}{L:List Ent}{dc:Lqq}(hok:mW mb ea L)(hls:L.map (fun e=>(e.k,e.l))=abM dc)(hborn:∀ y∈ea.toList,y.born<cl)
  (hhas:∀ p∈jA mb ea cl L,W.heap[p.1]? = some p.2∧F p.1):cM F W (.mp (abE dc)) (.map (some mb)):=by
 have hlen:ea.size=L.length:=by
  have:=congrArg List.length hok.ord;simpa using this
 have habE:abE dc=L.map fun e=>(.int .i64 e.k,.sl e.l.length (e.l.flatten.map aA)):=by
  unfold abE;rw [← hls,vD];rfl
 obtain ⟨h0,Na⟩:=hhas (mb,.map ea cl) (by simp [jA])
 refine cM.mp (abE dc) mb cl ea (fun j=>(L.map Ent.val).getD j undef) Na h0 (by rw [habE];simpa using hlen) (fun j hj => ?_) (fun j hj => ?_)
 ·have hjL:j<L.length:=by rw [habE] at hj;simpa using hj
  have hje:j<ea.size:=by omega
  have ho:(ea.toList.map fun x=>(x.key,x.val))[j]? = (L.map fun e=>(Value.int .i64 e.k,e.val))[j]? := by rw [hok.ord]
  rw [fR,fR,Av hjL,Av (by simpa using hje)] at ho
  simp only [Option.map_some,Option.some.injEq,Prod.mk.injEq] at ho
  refine ⟨ea[j],rL hje,?_,hborn _ (by simp),?_⟩
  ·simp only [habE,nY]
   simpa using ho.1
  ·rw [Bv,fR,Av hjL]
   simpa using ho.2
 ·have hjL:j<L.length:=by rw [habE] at hj;simpa using hj
  have hm:L[j]∈L:=fL hjL;have e1:(abE dc)[j].2 = .sl L[j].l.length (L[j].l.flatten.map aA):=by simp only [habE,nY]
  have e2:(L.map Ent.val).getD j undef=L[j].val:=by rw [Bv,fR,Av hjL];rfl
  rw [e1,e2];generalize L[j]=e at hm
  have he:=hok.ok e hm;obtain ⟨g1,g2⟩:=hhas e.blk (cZ.2 (.inr ⟨e,hm,rfl⟩));change W.heap[e.b]? = some (.cells e.arr 44 (0,0)) at g1
  have hfl:(e.l.flatten.map aA).length=e.l.length*6:=by rw [Cb,oW he.u]
  have hcell:∀ i,i<(e.l.flatten.map aA).length→∃ z,e.l.flatten[i]? = some z∧e.arr[i]? = some (.int .i64 z):=fun i hi=>by
   have Cs:i<e.l.flatten.length:=by rw [Cb] at hi;exact hi
   refine ⟨e.l.flatten[i],Av Cs,?_⟩;have h1:(e.arr.toList.take (e.l.length*6))[i]? = (e.l.flatten.map (Value.int .i64))[i]? := by rw [he.at_]
   rw [bUe (by omega),fR,Av Cs] at h1
   simpa using h1
  refine .sl _ _ _ _ (fun i=>e.arr.getD i undef) he.le he.cap (fun i hi => ?_) (fun i hi => ?_) (fun i hi => ?_)
  ·obtain ⟨z,_,h2⟩:=hcell i hi
   refine ⟨e.b,0,rfl,g2,?_⟩;obtain ⟨h3,h4⟩:=nA.1 h2;rw [gU,cA g1 h3]
  ·obtain ⟨z,h1,h2⟩:=hcell i hi
   have:e.arr.getD i undef = .int .i64 z:=by rw [B4,h2];rfl
   rw [this,nY];obtain ⟨h3,h4⟩:=B3.1 h1;rw [h4];exact .v _
  ·obtain ⟨z,h1,h2⟩:=hcell i hi
   have:e.arr.getD i undef = .int .i64 z:=by rw [B4,h2];rfl
   rw [this];rfl
end KV
end Go.Proofs
end
section
namespace Go.Proofs
open Go.RowKit
namespace KV
open Tryz
open Go.ChangeMaps (setBlock)
section
variable {dl:Int} {sk dc:Lqq} {v1 v2:Value} {mb:Nat} {C C':Cx} {w W:World}

theorem bIw{M9:Array MapEntry}(hM:aT Tp C (mV dl sk dc) w)(hmb:C.ι 3=some mb)(hmh:w.heap[mb]? = some (.map #[] 0))
  {bd:Nat} {ad:Array Value} {td:TypeId} (i1:C.ι 1=some bd) (hd:w.heap[bd]? = some (.cells ad td (0,0))) (q1:ad.getD 1 undef=v1) (q2:ad.getD 2 undef=v2):aQp dl sk dc v1 v2 C w mb [] w C #[] 0 []:=by
 have Na:∀ (i:Nat) (o:AO),(zY dl v1 v2 mb [])[i]? = some (some o)→o.live=true→∃ o',(mV dl sk dc)[i]? = some (some o')∧o'.live=true:=fun i o h hl=>by
  have hi:=uX h hl;exact eZ i (by omega)
 refine ⟨⟨fun _=>Iff.rfl,⟨fun i ty n cs h => ?_,fun i ty cs h => ?_,fun i es cl h => ?_,fun i i' o o' b h1 l1 h2 l2 e1 e2 => ?_,fun i o b h hl hb => ?_,hM.Fs,fun i o b h hl hb => ?_⟩,
  ⟨rfl,rfl,rfl,dG _,fun _ _ _=>rfl,fun i o h=>⟨?_,rfl,rfl⟩,fun i o h ty n cs hx => ?_,fun i o h o' hx hl => ?_,fun i o b h hl hb => ?_,fun _ h=>h,fun _ h => .inl h⟩⟩,mW.nil mb,rfl,fun y h=>by simp at h,fun p hp => ?_⟩
 ·rcases at4 h with ⟨rfl,e⟩ | ⟨rfl,e⟩ | ⟨rfl,e⟩ | ⟨rfl,e⟩ <;> cases e
 ·rcases at4 h with ⟨rfl,e⟩ | ⟨rfl,e⟩ | ⟨rfl,e⟩ | ⟨rfl,e⟩
  ·cases e
   obtain ⟨b,arr,r0,r1,r2,r3,r4⟩:=hM.box 0 _ _ rfl;refine ⟨b,arr,r0,r1,r2,fun j hj => ?_,r4⟩
   have:=r3 j hj;have S5:j=0:=by simp at hj;exact hj
   subst S5;simp only [List.getElem_cons_zero] at this ⊢
   cases this with
   | ptr _ _ _ h0 ha h hp =>
    refine .ptr _ _ _ h0 ⟨_,rfl⟩ (fun o ho hl => ?_) hp
    exact h _ rfl rfl
  ·cases e
   obtain ⟨b,arr,r0,r1,r2,r3,r4⟩:=hM.box 1 _ _ rfl;rw [i1] at r0;cases r0
   rw [hd] at r1;cases r1
   refine ⟨bd,ad,i1,hd,r2,fun j hj => ?_,r4⟩
   match j,hj with
   | 0,_ =>
    have:=r3 0 (by simp)
    cases this with
    | p _ _ h=>exact .p _ _ h
   | 1,_=>exact .p _ _ (by rw [q1];exact .v _)
   | 2,_=>exact .p _ _ (by rw [q2];exact .v _)
   | 3,_ =>
    have:=r3 3 (by simp)
    simp only [List.getElem_cons_succ,List.getElem_cons_zero] at this ⊢
    cases this with
    | mp _ _ h0 ha h =>
     refine .mp _ _ h0 ⟨_,rfl⟩ fun o ho hl => ?_
     exact h _ rfl rfl
   | 4,_ =>
    have:=r3 4 (by simp)
    simp only [List.getElem_cons_succ,List.getElem_cons_zero] at this ⊢
    generalize ad.getD 4 undef=u at this
    cases this with
    | mp _ _ h0 ha h =>
     obtain ⟨b,h1,h2⟩:=h _ rfl rfl;rw [hmb] at h2;cases h2
     rw [h1];exact .p _ _ (.v _)
  ·cases e
  ·cases e
 ·rcases at4 h with ⟨rfl,e⟩ | ⟨rfl,e⟩ | ⟨rfl,e⟩ | ⟨rfl,e⟩
  ·cases e
  ·cases e
  ·cases e;exact hM.mp 2 _ _ rfl
  ·cases e
 ·obtain ⟨p,q1,q2⟩:=Na _ _ h1 l1
  obtain ⟨p',Ku,Kv⟩:=Na _ _ h2 l2;exact hM.inj i i' p p' b q1 q2 Ku Kv e1 e2
 ·obtain ⟨p,q1,q2⟩:=Na _ _ h hl
  exact hM.nF i p b q1 q2 hb
 ·obtain ⟨p,q1,q2⟩:=Na _ _ h hl
  exact hM.lt i p b q1 q2 hb
 ·have hi:i<4:=(B3.1 h).1
  match i,hi with
  | 0,_=>exact ⟨_,rfl⟩
  | 1,_=>exact ⟨_,rfl⟩
  | 2,_=>exact ⟨_,rfl⟩
  | 3,_=>exact ⟨_,rfl⟩
 ·rcases at4 hx with ⟨rfl,e⟩ | ⟨rfl,e⟩ | ⟨rfl,e⟩ | ⟨rfl,e⟩ <;> cases e
 ·have hi:i<4:=(B3.1 h).1
  obtain ⟨p,q1,q2⟩:=eZ (dl:=dl) (sk:=sk) (dc:=dc) i hi;rw [h] at q1;cases q1;exact q2
 ·obtain ⟨p,q1,q2⟩:=Na _ _ h hl
  exact .inr ⟨i,p,q1,q2,hb⟩
 ·have:p=(mb,.map #[] 0):=by simpa [jA] using hp
  subst this;exact ⟨hmh,fun h=>hM.nF 3 _ mb rfl rfl hmb h,.inl rfl⟩

theorem bIx{ea:Array MapEntry}{cl:Nat}{L:List Ent}(Db:aT Tp C (mV dl sk dc) w)(hmb:C.ι 3=some mb)(r1:cM C.F w (.sl sk.length (sk.flatten.map aA)) v1)(r2:cM C.F w (.sl dc.length (dc.flatten.map aA)) v2)
  (hI:aQp dl sk dc v1 v2 C w mb dc.reverse W C' ea cl L) :
  ∃ C5,aT Tp C5 (aBk dl sk dc) W∧Fr C (mV dl sk dc) w C5 (aBk dl sk dc) W∧∀ D,W.heap[D]? = some (.deferred (some []))→w.heap.size≤D→¬ C5.F D:=by
 obtain ⟨⟨hFI,hM,fI⟩,hok,hls,hborn,hhas⟩:=hI;obtain ⟨F5,Lf⟩:∃ F5:Nat→Prop,F5=fun c=>C'.F c∨∃ p∈jA mb ea cl L,p.1=c:=⟨_,rfl⟩
 have toF:∀ c,C.F c→F5 c:=fun c hc=>by rw [Lf];exact .inl ((hFI c).2 hc)
 have S6:∀ c,C'.F c→F5 c:=fun c hc=>by rw [Lf];exact .inl hc
 have same:∀ c,C.F c→W.heap[c]? = w.heap[c]? := fun c hc=>fI.keep c (Db.Fs c hc) fun i o h hl he=>Db.nF i o c h hl he hc
 have ιC:∀ i,i<4→C'.ι i=C.ι i:=fun i hi=>by
  obtain ⟨o,h1,_⟩:=eZ (dl:=dl) (sk:=sk) (dc:=dc) i hi;exact (fI.ids i o h1).2.1
 have Hq:∀ {i:Nat} {o:AO},(aBk dl sk dc)[i]? = some (some o)→o.live=true→(i=0∨i=1∨i=2)∧∃ o',(zY dl v1 v2 mb (atF dc.reverse))[i]? = some (some o')∧o'.live=true:=fun {i o} h hl=>by
  rcases at4 h with ⟨rfl,e⟩ | ⟨rfl,e⟩ | ⟨rfl,e⟩ | ⟨rfl,e⟩
  ·exact ⟨.inl rfl,_,rfl,rfl⟩
  ·exact ⟨.inr (.inl rfl),_,rfl,rfl⟩
  ·exact ⟨.inr (.inr rfl),_,rfl,rfl⟩
  ·cases e;cases hl
 have Nb:∀ i c,i<3→C.ι i=some c→c<w.heap.size∧c≠mb:=fun i c hi hc=>by
  obtain ⟨o,h1,h2⟩:=eZ (dl:=dl) (sk:=sk) (dc:=dc) i (by omega)
  refine ⟨Db.lt i o c h1 h2 hc,fun e => ?_⟩
  subst e;have:=Db.inj i 3 o _ c h1 h2 rfl rfl hc hmb;omega
 refine ⟨⟨C'.ι,C'.κ,F5,[]⟩,⟨fun i ty n cs h => ?_,fun i ty cs h => ?_,fun i es cl h => ?_,fun i i' o o' b h1 l1 h2 l2 e1 e2 => ?_,fun i o b h hl hb hf => ?_,fun c hc => ?_,fun i o b h hl hb => ?_⟩,
  ⟨fI.os,fI.tape,fI.out,fI.size,fI.keep,fun i o h=>⟨?_,(fI.ids i o h).2⟩,fun i o h ty n cs hx => ?_,fun i o h o' hx hl => ?_,fun i o b h hl hb => ?_,toF,fun c hc => ?_⟩,fun D hD hDs hf => ?_⟩
 ·rcases at4 h with ⟨rfl,e⟩ | ⟨rfl,e⟩ | ⟨rfl,e⟩ | ⟨rfl,e⟩ <;> cases e
 ·rcases at4 h with ⟨rfl,e⟩ | ⟨rfl,e⟩ | ⟨rfl,e⟩ | ⟨rfl,e⟩
  ·cases e
   obtain ⟨b,arr,r0,r1,r2,r3,r4⟩:=hM.box 0 _ _ rfl;refine ⟨b,arr,r0,r1,r2,fun j hj => ?_,r4⟩
   have:=r3 j hj;have S5:j=0:=by simp at hj;exact hj
   subst S5;simp only [List.getElem_cons_zero] at this ⊢
   cases this with
   | ptr _ _ _ h0 ha h hp =>
    refine .ptr _ _ _ h0 ⟨_,rfl⟩ (fun o ho hl => ?_) hp
    exact h _ rfl rfl
  ·cases e
   obtain ⟨b,arr,s0,s1,s2,s3,s4⟩:=hM.box 1 _ _ rfl;have opq:∀ (j:Nat) (v:Value),Rep C' (zY dl v1 v2 mb (atF dc.reverse)) W (.p (.v v)) (arr.getD j undef)→arr.getD j undef=v:=fun j v h=>by
    generalize arr.getD j undef=u at h
    cases h with
    | p _ _ h=>cases h;rfl
   refine ⟨b,arr,s0,s1,s2,fun j hj => ?_,s4⟩
   match j,hj with
   | 0,_ =>
    have:=s3 0 (by simp)
    cases this with
    | p _ _ h=>exact .p _ _ (h.anyF rfl)
   | 1,_ =>
    show Rep _ _ W (.p (.sl sk.length (sk.flatten.map aA))) (arr.getD 1 undef);rw [opq 1 v1 (s3 1 (by simp))]
    exact .p _ _ (r1.mono toF same)
   | 2,_ =>
    show Rep _ _ W (.p (.sl dc.length (dc.flatten.map aA))) (arr.getD 2 undef);rw [opq 2 v2 (s3 2 (by simp))]
    exact .p _ _ (r2.mono toF same)
   | 3,_ =>
    have:=s3 3 (by simp)
    simp only [List.getElem_cons_succ,List.getElem_cons_zero] at this ⊢
    cases this with
    | mp _ _ h0 ha h =>
     refine .mp _ _ h0 ⟨_,rfl⟩ fun o ho hl => ?_
     exact h _ rfl rfl
   | 4,_ =>
    show Rep _ _ W (.p (.mp (abE dc))) (arr.getD 4 undef);rw [opq 4 (.map (some mb)) (s3 4 (by simp))]
    exact .p _ _ (aWd hok hls hborn fun p hp=>⟨(hhas p hp).1,by rw [Lf];exact .inr ⟨p,hp,rfl⟩⟩)
  ·cases e
  ·cases e
 ·rcases at4 h with ⟨rfl,e⟩ | ⟨rfl,e⟩ | ⟨rfl,e⟩ | ⟨rfl,e⟩
  ·cases e
  ·cases e
  ·cases e
   obtain ⟨b,arr,s0,s1,s2,s3⟩:=hM.mp 2 _ _ rfl;refine ⟨b,arr,s0,s1,s2,fun j hj => ?_⟩
   obtain ⟨en,t1,t2,t3,t4⟩:=s3 j hj;exact ⟨en,t1,t2,t3,t4.mono S6 (fun _ _=>rfl)⟩
  ·cases e
 ·obtain ⟨_,p,q1,q2⟩:=Hq h1 l1
  obtain ⟨_,p',Ku,Kv⟩:=Hq h2 l2;exact hM.inj i i' p p' b q1 q2 Ku Kv e1 e2
 ·obtain ⟨hi,p,q1,q2⟩:=Hq h hl
  rw [Lf] at hf
  rcases hf with hf | ⟨p0,Gm,hpb⟩
  ·exact hM.nF i p b q1 q2 hb hf
  ·have A1:C.ι i=some b:=by rw [← ιC i (by omega)];exact hb
   obtain ⟨g1,g2⟩:=Nb i b (by omega) A1
   rcases (hhas p0 Gm).2.2 with h5 | h5 <;> omega
 ·rw [Lf] at hc
  rcases hc with hc | ⟨p0,Gm,rfl⟩
  ·exact hM.Fs c hc
  ·exact cE (hhas p0 Gm).1
 ·obtain ⟨_,p,q1,q2⟩:=Hq h hl
  exact hM.lt i p b q1 q2 hb
 ·have hi:i<4:=(B3.1 h).1
  match i,hi with
  | 0,_=>exact ⟨_,rfl⟩
  | 1,_=>exact ⟨_,rfl⟩
  | 2,_=>exact ⟨_,rfl⟩
  | 3,_=>exact ⟨_,rfl⟩
 ·rcases at4 hx with ⟨rfl,e⟩ | ⟨rfl,e⟩ | ⟨rfl,e⟩ | ⟨rfl,e⟩ <;> cases e
 ·have hi:i<4:=(B3.1 h).1
  obtain ⟨p,q1,q2⟩:=eZ (dl:=dl) (sk:=sk) (dc:=dc) i hi;rw [h] at q1;cases q1;exact q2
 ·obtain ⟨_,p,q1,q2⟩:=Hq h hl
  exact fI.new i p b q1 q2 hb
 ·rw [Lf] at hc
  rcases hc with hc | ⟨p0,Gm,rfl⟩
  ·exact .inl ((hFI c).1 hc)
  ·rcases (hhas p0 Gm).2.2 with h5 | h5
   ·exact .inr (.inr ⟨3,_,rfl,rfl,by rw [h5];exact hmb⟩)
   ·exact .inr (.inl h5)
 ·rw [Lf] at hf
  rcases hf with hf | ⟨p0,Gm,rfl⟩
  ·have:=Db.Fs D ((hFI D).1 hf);omega
  ·have h6:=(hhas p0 Gm).1
   rw [hD] at h6
   rcases cZ.1 Gm with rfl | ⟨y,_,rfl⟩ <;> cases h6
end
theorem Lg:∃ i,Tryz.prog.info? 44=some i∧i.zero=some J2∧i.size=6:=by
 obtain ⟨i,h1,h2,h3,_⟩:=info_parts Gp;exact ⟨i,h1,h2,h3⟩
theorem aQm(W:World):(Instr.alloc 44 true (.tuple #[])).run Tp W = .ok (.pointer (some ⟨W.heap.size,0,none⟩)) (W.alloc (.cells J2.cells 44)):=rfl
set_option maxHeartbeats 1000000 in
theorem bQq(dl:Int)(sk dc:Lqq)(hd:bN dc):aC Tp 0 (sub (cd Tryz.f82) [1,1,1,1,0,1,0]) ⟨fr 57 [(6,(.ptr 0 0)),(27,aQq dc)],mV dl sk dc⟩ .normal ⟨fr 57 [(6,(.ptr 0 0))],aBk dl sk dc⟩:=by
 intro C0 M0 w0 a w hk hs ro hro n;have Nc:ro=none:=hro.resolve_right (by rw [bAb];simp [nrf])
 subst Nc;rw [bAb];refine aFb (n:=3) ?_;obtain ⟨C,hSl,hM,hF,hD⟩:=hs;obtain ⟨mb,M9,hmb,hmh,hz,_⟩:=hM.mp 3 _ _ rfl;obtain rfl:M9 = #[]:=Array.eq_empty_of_size_eq_zero (by simpa using hz)
 obtain ⟨bd,ad,i1,hdh,Ir,Hv,Pw⟩:=hM.box 1 _ _ rfl;have r1:cM C.F w (.sl sk.length (sk.flatten.map aA)) (ad.getD 1 undef):=by
  have:=Hv 1 (by simp)
  cases this with
  | p _ _ h=>exact h
 have r2:cM C.F w (.sl dc.length (dc.flatten.map aA)) (ad.getD 2 undef):=by
  have:=Hv 2 (by simp)
  cases this with
  | p _ _ h=>exact h
 have hmblt:mb<w.heap.size:=hM.lt 3 _ mb rfl rfl hmb;have hsz:a.tmps.size=57:=hSl.size;have h6:=hSl.at (i:=6) (x := .ptr 0 0) rfl
 obtain ⟨lb,Sp,hu,hseq⟩:=bJb dc hd.ud hd.len C (mV dl sk dc) w _ (hSl.at (i:=27) (x:=aQq dc) rfl) hM.Fs
 have actT:∀ (x:Bk dc) (b:Nat),((({ tmps:=(a.tmps.setIfInBounds 28 (.int .i64 (x.1:Nat))).setIfInBounds 29 (.agg (De (nT dc x.1))),defers:=[] }:Act).put (some 8) (.pointer (some ⟨b,0,none⟩))).tmps.size=57) ∧
   (({ tmps:=(a.tmps.setIfInBounds 28 (.int .i64 (x.1:Nat))).setIfInBounds 29 (.agg (De (nT dc x.1))),defers:=[] }:Act).put (some 8) (.pointer (some ⟨b,0,none⟩))).tmps.getD 6 undef=a.tmps.getD 6 undef ∧
   (({ tmps:=(a.tmps.setIfInBounds 28 (.int .i64 (x.1:Nat))).setIfInBounds 29 (.agg (De (nT dc x.1))),defers:=[] }:Act).put (some 8) (.pointer (some ⟨b,0,none⟩))).tmps.getD 8 undef = .pointer (some ⟨b,0,none⟩):=fun x b=>by
  refine ⟨by simp [Act.put,hsz],?_,?_⟩
  ·simp [Act.put,B4]
  ·simp [Act.put,B4,hsz]
 refine wpIn_rangeFunc_ownH (F:=Fen none) (n:=3) rfl (by omega) (gf:=187) (lb:=lb) hu trivial (fun args w=>rfl) hseq (fun h k=>h.trans k)
  (fun W l o o' hl h1 h2 h3=>⟨by simp,fun b hb=>(grownBy_putObj' W l o').block b (fY (hM.Fs b hb) (fB hl (Nat.le_of_lt (nA.1 h1).1))) (fun e=>by cases e;have:=hM.Fs _ hb;omega)⟩)
  (Below.refl _ _) (fun _=>rfl)
  (fun pre W=>∃ C' ea cl L,aQp dl sk dc (ad.getD 1 undef) (ad.getD 2 undef) C w mb (pre.map fun x=>nT dc x.1) W C' ea cl L) (fun _ _ _=>False)
  (fun pre X Y row hs hg hr=>by obtain ⟨C',ea,cl,L,h⟩:=hs;exact ⟨C',ea,cl,L,h.own hM hmb hg hr⟩) (fun _ _ _ _ _ hs _ _=>hs)
  ⟨C,#[],0,[],bIw (M9 := #[]) hM hmb hmh i1 hdh rfl rfl⟩
  (fun x a' W=>∃ b,a'=(({ tmps:=(a.tmps.setIfInBounds 28 (.int .i64 (x.1:Nat))).setIfInBounds 29 (.agg (De (nT dc x.1))),defers:=[] }:Act).put (some 8) (.pointer (some ⟨b,0,none⟩)))∧w.heap.size≤b∧W.heap[b]? = some (.cells (vsL (nT dc x.1)).toArray 44 (0,0))∧∀ es cl,W.heap[mb]? = some (.map es cl)→∀ y∈es.toList,y.val.ownBlock≠some b)
  (fun x a' _ X Y row hs hg hr => ?hAx) ?assign ?body ?done ?stop
 case hAx =>
  obtain ⟨b,h1,h2,h3,h4⟩:=hs;have hno:∀ c,c<X.heap.size→(c<w.heap.size∨mU X c)→Y.heap[c]? = X.heap[c]? := fun c hc hd=>hg.block c hc (fun e=>by
   obtain ⟨q1,o,q2,q3⟩:=hr c e.symm
   rcases hd with hd | hd
   ·omega
   ·exact kH q2 q3 hd)
  refine ⟨b,h1,h2,(hno b (cE h3) (.inr (fW h3))).trans h3,fun es cl h => ?_⟩
  by_cases hlt:mb<X.heap.size
  ·rw [hno mb hlt (.inl hmblt)] at h
   exact h4 es cl h
  ·exact absurd (fY (cE h3) (dG _)) (by omega)
 case assign =>
  intro l pre x W K hI hK;rw [Ps];obtain ⟨C',ea,cl,L,hI⟩:=hI;have hx:=aWc hd _ (aFl x);have hev:De (nT dc x.1)=(vsL (nT dc x.1)).toArray:=rfl;refine wpIn_region_lit (wpListIn_plain rfl fun K' S7 => ?_)
  unfold Oper.wpIn;refine ⟨fun f _=>trivial,?_⟩
  rw [Oper.semAt_plain _ _ _ (by intro c Hy;cases Hy)]
  have e1 : ∀ ρ : Operand → Value, (execOp ρ { dst := some 8, op := .alloc 44, type := 0, pos := "jury.go:198", after := #[], guard := none }).run Tp W = .ok (.value (.pointer (some ⟨W.heap.size, 0, none⟩))) (W.alloc (.cells J2.cells 44)) := fun ρ => by
   unfold execOp;dsimp only;rw [Sem.run_bind,aQm,Result.andThen_ok,Sem.run_pure]
  rw [e1];refine S7 _ _ (wpListIn_plain rfl fun K2 Px => ?_)
  unfold Oper.wpIn;refine ⟨fun f _=>trivial,?_⟩
  rw [Oper.semAt_plain _ _ _ (by intro c Hy;cases Hy)]
  obtain ⟨Wl,hi,Od,Fz⟩:=Lg;have e8:(({ tmps:=(a.tmps.setIfInBounds 28 (.int .i64 (x.1:Nat))).setIfInBounds 29 (.agg (De (nT dc x.1))),defers:=[] }:Act).put (some 8) (.pointer (some ⟨W.heap.size,0,none⟩))).eval (.tmp 8) = .pointer (some ⟨W.heap.size,0,none⟩):=(actT x W.heap.size).2.2;have Wm:(({ tmps:=(a.tmps.setIfInBounds 28 (.int .i64 (x.1:Nat))).setIfInBounds 29 (.agg (De (nT dc x.1))),defers:=[] }:Act).put (some 8) (.pointer (some ⟨W.heap.size,0,none⟩))).eval (.tmp 29) = .agg (De (nT dc x.1)):=by
   simp [Act.eval,Act.put,B4,hsz]
  have e2:=run_storeAt_new (P:=Tp) W 44 J2.cells (De (nT dc x.1)) (by rw [hi];simp [Fz,hev,vsL,hx.len]) (by simp [hev,vsL,hx.len];rfl) (by
   rw [Array.all_eq_true];intro i h;simp [hev,vsL];rfl)
  have e3 : ∀ ρ : Operand → Value, ρ (.tmp 8) = .pointer (some ⟨W.heap.size, 0, none⟩) → ρ (.tmp 29) = .agg (De (nT dc x.1)) → (execOp ρ { dst := none, op := .store 44 (.tmp 8) (.tmp 29), type := 0, pos := "jury.go:198", after := #[{ on := 0, ground := .data }, { on := 0, ground := .phase }], guard := none }).run Tp (W.alloc (.cells J2.cells 44)) = .ok .skip (W.alloc (.cells (De (nT dc x.1)) 44)) := fun ρ h1 h2 => by
   unfold execOp;dsimp only;rw [h1,h2,Sem.run_bind,e2,Result.andThen_ok,Sem.run_pure]
  rw [e3 _ e8 Wm];refine Px _ _ (wpListIn_nil (hK _ _ ?_ ?_ ?_ ?_))
  ·exact ⟨by simp,fun k o _ hk _=>((kF W _).2.2 k (cE hk)).trans hk⟩
  ·exact ⟨by simp,fun b hb=>(kF W _).2.2 b (fY (hM.Fs b hb) hI.inv.2.2.size)⟩
  ·exact ⟨C',ea,cl,L,hI.own hM hmb (World.grownBy_alloc W _ none) (fun r e=>by cases e)⟩
  ·refine ⟨W.heap.size,rfl,hI.inv.2.2.size,(kF W _).2.1,fun Un Uo h y hy hyb => ?_⟩
   have U9:=(hI.has (mb,.map ea cl) (by simp [jA])).1
   rw [(kF W _).2.2 mb (cE U9),U9] at h
   cases h;obtain ⟨e,he,_,hv⟩:=hI.ok.e1 y hy;rw [hv] at hyb
   have Fc:e.b=W.heap.size:=by
    have:Ent.val e = .slice (some ⟨e.b,0,none⟩) e.l.length e.cap:=rfl;rw [this] at hyb
    exact Option.some.inj hyb
   have:=cE (hI.has e.blk (cZ.2 (.inr ⟨e,he,rfl⟩))).1;simp only [Ent.blk] at this
   omega
 case body =>
  rintro l pre x a' W hl _ ⟨C',ea,cl,L,hI⟩ ⟨b,rfl,Dd,Fc,R7⟩ hlt;obtain ⟨t1,t2,t3⟩:=actT x b;refine wpIn_mono (bQt (l:=l) (n:=1) (aWc hd _ (aFl x)) (fun y hy=>by
   obtain ⟨z,_,rfl⟩:=Bs.1 hy;exact aWc hd _ (aFl z)) (by rw [Cb];have:=hd.len;omega) hM hmb hI t1 rfl (by rw [t2];exact h6) t3 Dd Fc R7) ?_
  rintro e a2 W4 ⟨rfl,hK,hG,h⟩;exact ⟨hK,hG,by simpa [fM] using h⟩
 case done =>
  intro D xs W Kt hSx hI hDm;obtain ⟨C',ea,cl,L,hI⟩:=hI;rw [bQr hSx] at hI
  obtain ⟨C5,Lh,f5,Lf⟩:=bIx hM hmb r1 r2 hI;have hnp:aSp (aBk dl sk dc):=fun i o h=>by rcases at4 h with ⟨rfl,e⟩ | ⟨rfl,e⟩ | ⟨rfl,e⟩ | ⟨rfl,e⟩ <;> cases e <;> rfl
  refine ⟨rfl,C5,?_,Lh,hF.trans f5,?_⟩
  ·have s0:eI C5 (aBk dl sk dc) W (List.replicate 57 .any) a.tmps:=⟨by simpa using hsz,fun j hj=>by rw [List.getElem_replicate];exact .any _⟩
   refine ⟨hsz.trans rfl,fun j hj => ?_⟩
   have hfr:fr 57 [(6,.ptr 0 0)]=(List.replicate 57 AV.any).set 6 (.ptr 0 0):=rfl;simp only [hfr] at hj ⊢
   rw [zN]
   split
   ·rename_i e;subst e;exact h6.mono (hM.le f5)
   ·exact s0.rep j (by simpa using hj)
  ·obtain ⟨⟨l,e1,e2,e3⟩,hR⟩:=hD.fr hM (fun i to ti sz L h=>by have:=hnp _ _ h;cases this) f5
   obtain ⟨⟨l',Lk,_,Nf⟩,_⟩:=hD;have hll:l=l':=by
    have:=e1.symm.trans Lk;exact (List.map_inj_right (fun x y h=>by simpa [mark] using h)).1 this
   refine ⟨⟨D::l,by rw [e1];rfl,List.nodup_cons.2 ⟨fun hin => ?_,e2⟩,fun D' Ng => ?_⟩,hR⟩
   ·rw [hll] at hin
    have:=(nA.1 (Nf D hin).1).1;omega
   ·rcases fU.1 Ng with rfl | hin
    ·exact ⟨hDm,fB hF.size Kt,Lf _ hDm Kt⟩
    ·exact e3 D' hin
 case stop =>
  intro D c pre W _ _ h _;exact h.elim
end KV
end Go.Proofs
end
namespace Go.Proofs
namespace KV
open Tryz
section
variable {base:Nat}
variable {dl:Int}{sk dc:Lqq}

theorem cKu(dc:Lqq){base:Nat}:FV Tp 147 [.p (fS dc)] base (aQq dc) []:=cKw
theorem dW(h:bR dl sk dc):bN (aB dc):=by
 have hm:∀ x,x∈aB dc↔x∈dc:=fun x=>(dY dc).mem_iff
 refine ⟨nI h.ud,by rw [eG];have:=h.len2;omega,fun x hx=>h.hdc x ((hm x).1 hx),?_,fun x hx=>h.ord x ((hm x).1 hx)⟩
 have hn:(aQ (aB dc) 0).Nodup:=((dY dc).map _).nodup_iff.2 h.nd;have hs:=iU dc;unfold aQ at hn
 rw [List.Nodup,List.pairwise_map] at hn
 exact (hs.and hn).imp fun ⟨h1,h2⟩=>by
  show _<_;unfold dN;omega
theorem bWt(h0:bR dl sk dc)(h1:bN (aB dc)):FV Tp 82 [(.p (.agg (bB dl sk dc)))] base (.tup [(.rp [(aA dl),(.sl ((aB sk).length) ((aB sk).flatten.map aA)),(.sl ((aB dc).length) ((aB dc).flatten.map aA)),(.mp (atF (aB dc).reverse)),(.mp (abE (aB dc)))] 0),(pI 0)]) []:=have k1:=fk 1 (cCs dl sk dc h0) rfl;have k2:=fk 6 (cKu (aB dc)) rfl;FV.fi func82 [k1.o,bF,k2.o,.k 1 (gI [0,6,7,20,28,29] [5,4,2,3]) .normal ⟨fr 57 [(6,(.ptr 0 0))],aBk dl (aB sk) (aB dc)⟩,.g 1 ⟨[],[0],[2,1],[]⟩] (gt (aC Tp 0 (sub (cd Tryz.f82) [1,1,1,1,0,1,0]) ⟨fr 57 [(6,(.ptr 0 0)),(27,aQq (aB dc))],mV dl (aB sk) (aB dc)⟩ .normal ⟨fr 57 [(6,(.ptr 0 0))],aBk dl (aB sk) (aB dc)⟩) (bQq dl (aB sk) (aB dc) h1) (gc k2 (gt (((0:Int) != 0)=false) (by first | decide | simp) (gc k1 gn))))
theorem bWu{r0:Int}(h0:uni 2 sk)(h1:uni 6 dc)(h2:(jQ dl sk dc)≠0)(A4:r0=(jQ dl sk dc)):FV Tp 82 [(.p (.agg (bB dl sk dc)))] base (.tup [(.p (.v (.pointer none))),(pI r0)]) []:=by
 subst A4;have k1:=fk 1 (bUy dl sk dc h0 h1 h2) rfl;exact FV.fi func82 [k1.o,bT] (gc (jF h2) (gc k1 gn))
abbrev aY(dl:Int)(sk dc:Lqq):List PV:=[aA dl,.sl sk.length (sk.flatten.map aA),.sl dc.length (dc.flatten.map aA),.mp (atF dc.reverse),.mp (abE dc)]
theorem fE(dl:Int)(sk dc:Lqq)(h:bR dl sk dc){base:Nat}:FV Tp 82 [.p (.agg (bB dl sk dc))] base (.tup [.rp (aY dl (aB sk) (aB dc)) 0,.p (aA 0)]) []:=bWt h (dW h)
theorem aFk(dl:Int)(sk dc:Lqq)(us:uni 2 sk)(ud:uni 6 dc)(h:jQ dl sk dc≠0){base:Nat}:FV Tp 82 [.p (.agg (bB dl sk dc))] base (.tup [.p (.v (.pointer none)),.p (aA (jQ dl sk dc))]) []:=bWu us ud h rfl
end
section
section
variable {P:Program} {k:Nat} {b:Code} {β:Type}
theorem aE.ex{e:Ex}(S:Nat→β→St)(R:β→St)(Inv:Nat→β→Prop)(he:e ≠ .normal)(n:Nat)
  (hs:∀ (i:Nat) (acc:β),i<n→Inv i acc→∃ B8,Inv (i+1) B8∧aC P k b (S i acc) .normal (S (i+1) B8))
  (hx:∀ acc,Inv n acc→aC P k b (S n acc) e (R acc)) {acc:β} (h0:Inv 0 acc):∃ B8,Inv n B8∧aE P k b (S 0 acc) e (R B8):=by
 have key:∀ (d i:Nat) (acc:β),i+d=n→Inv i acc→∃ B8,Inv n B8∧aE P k b (S i acc) e (R B8):=by
  intro d
  induction d with
  | zero =>
   intro i acc hi h;obtain rfl:i=n:=by omega
   exact ⟨acc,h,.exit (hx acc h) he⟩
  | succ d ih =>
   intro i acc hi h;obtain ⟨J1,h1,c1⟩:=hs i acc (by omega) h
   obtain ⟨S4,h2,c2⟩:=ih (i+1) J1 (by omega) h1
   exact ⟨S4,h2,.step c1 c2⟩
 exact key n 0 acc (by omega) h0
theorem aE.exF{e1 e2:Ex}(S:Nat→β→St)(R1:Nat→β→St)(R2:β→St)(Inv:β→Prop)(h1:e1 ≠ .normal)(h2:e2 ≠ .normal)(p:Nat→Bool)(n:Nat)
  (hs:∀ (i:Nat) (acc:β),i<n→Inv acc→p i=false→∃ B8,Inv B8∧aC P k b (S i acc) .normal (S (i+1) B8))
  (hq:∀ (i:Nat) (acc:β),i<n→Inv acc→p i=true→∃ B8,Inv B8∧aC P k b (S i acc) e1 (R1 i B8))
  (hx:∀ acc,Inv acc→aC P k b (S n acc) e2 (R2 acc)) {acc:β} (h0:Inv acc) :
  (∃ i B8,i<n∧p i=true∧(∀ j,j<i→p j=false)∧Inv B8∧aE P k b (S 0 acc) e1 (R1 i B8))∨((∀ j,j<n→p j=false)∧∃ B8,Inv B8∧aE P k b (S 0 acc) e2 (R2 B8)):=by
 have key:∀ (d i:Nat) (acc:β),i+d=n→Inv acc→(∀ j,j<i→p j=false)→(∃ i' B8,i'<n∧p i'=true∧(∀ j,j<i'→p j=false)∧Inv B8∧aE P k b (S i acc) e1 (R1 i' B8))∨((∀ j,j<n→p j=false)∧∃ B8,Inv B8∧aE P k b (S i acc) e2 (R2 B8)):=by
  intro d
  induction d with
  | zero =>
   intro i acc hi h hj;obtain rfl:i=n:=by omega
   exact .inr ⟨hj,acc,h,.exit (hx acc h) h2⟩
  | succ d ih =>
   intro i acc hi h hj;cases hp:p i with
   | true =>
    obtain ⟨J1,q1,c1⟩:=hq i acc (by omega) h hp
    exact .inl ⟨i,J1,by omega,hp,hj,q1,.exit c1 h1⟩
   | false =>
    obtain ⟨J1,q1,c1⟩:=hs i acc (by omega) h hp
    rcases ih (i+1) J1 (by omega) q1 (fun j Du=>by
     rcases Nat.lt_or_ge j i with h3 | h3
     ·exact hj j h3
     ·obtain rfl:j=i:=by omega
      exact hp) with ⟨i',B8,r1,r2,r3,r4,r5⟩ | ⟨r1,B8,r2,r3⟩
    ·exact .inl ⟨i',B8,r1,r2,r3,r4,.step c1 r5⟩
    ·exact .inr ⟨r1,B8,r2,.step c1 r3⟩
 exact key n 0 acc (by omega) h0 (fun j hj=>absurd hj (aTs _))
end
def aR(T:Lqb):List (Value × PV):=T.map fun p=>(.int .i64 p.1,blP p.2)
theorem bIv(T:Lqb)(n:Int)(b:Bool):aR (T++[(n,b)])=aR T++[(.int .i64 n,blP b)]:=by simp [aR]
structure cS (dl:Int) (oc:List Int) (dc:Lqq) (T:Lqb):Prop where
 nd:(T.map (·.1)).Nodup
 ok:∀ p∈T,∃ x∈dc,dN x=p.1∧dJ dl oc dc x=p.2
section
variable {dl:Int} {oc:List Int} {dc:Lqq} {T:Lqb}
theorem cS.nil:cS dl oc dc []:=⟨by simp,fun p hp=>by cases hp⟩
theorem eQ(h:bN dc){x:List Int}(hx:x∈dc):1≤dN x∧dN x≤9999:=(iB.1 (h.rng x hx)).1
theorem aCo(h:bN dc){x y:List Int}(hx:x∈dc)(hy:y∈dc)(e:dN x=dN y):x=y:=by
 obtain ⟨i,hi,rfl⟩:=List.mem_iff_getElem.1 hx;obtain ⟨j,hj,rfl⟩:=List.mem_iff_getElem.1 hy;have hu:=List.pairwise_iff_getElem.1 h.up
 rcases Nat.lt_trichotomy i j with q | q | q
 ·have:=hu i j hi hj q;omega
 ·subst q;rfl
 ·have:=hu j i hj hi q;omega
theorem cS.keys(h:cS dl oc dc T)(hd:bN dc){n:Int}(hn:1≤n∧n≤9999):cP .i64 (aR T) (.int .i64 n):=by
 refine ⟨fun e he => ?_,pF (by omega),?_⟩
 ·obtain ⟨p,hp,rfl⟩:=Bs.1 he
  obtain ⟨x,hx,e1,_⟩:=h.ok p hp;have:=eQ hd hx;exact pF (by omega)
 ·have:(aR T).map (fun e=>jO e.1)=T.map (·.1):=by
   unfold aR;rw [vD];rfl
  rw [this];exact h.nd
theorem bAa{n:Int}:dS (aR T) (.int .i64 n)=T.any fun p=>p.1 == n:=by
 unfold dS aR;rw [List.any_map]
 congr 1
theorem bQp{n:Int}:gB (aR T) (.int .i64 n)=(T.find? fun p=>p.1 == n).map fun p=>blP p.2:=by
 unfold gB aR
 induction T with
 | nil=>rfl
 | cons p T ih =>
  rw [fZ,List.find?_cons,List.find?_cons];have e:(decide (jO ((Value.int IntKind.i64 p.1,blP p.2):Value × PV).1=jO (Value.int IntKind.i64 n)))=(p.1 == n):=by
   show decide (p.1=n)=(p.1 == n);rw [Bool.eq_iff_iff];simp
  rw [e];cases p.1 == n with
  | true=>rfl
  | false=>exact ih
theorem cS.look(h:cS dl oc dc T)(hd:bN dc){x:List Int}(hx:x∈dc)(hh:dS (aR T) (.int .i64 (dN x))=true):gB (aR T) (.int .i64 (dN x))=some (blP (dJ dl oc dc x)):=by
 rw [bAa] at hh
 rw [bQp];cases hf:T.find? fun p=>p.1 == dN x with
 | none =>
  obtain ⟨p,h1,h2⟩:=List.any_eq_true.1 hh;exact absurd h2 (aEm.1 hf p h1)
 | some p =>
  have h1:=sH hf;have h2:p.1=dN x:=by simpa using aPp hf
  obtain ⟨y,hy,e1,e2⟩:=h.ok p h1;rw [aCo hd hy hx (e1.trans h2)] at e2
  rw [e2];rfl
theorem cS.again(h:cS dl oc dc T)(hd:bN dc){x:List Int}(hx:x∈dc):qZ (aR T) (.int .i64 (dN x)) (blP (dJ dl oc dc x))=aR T:=by
 have:∀ T':Lqb,(∀ p∈T',∃ x∈dc,dN x=p.1∧dJ dl oc dc x=p.2)→qZ (aR T') (.int .i64 (dN x)) (blP (dJ dl oc dc x))=aR T':=by
  intro T'
  induction T' with
  | nil=>intro _;rfl
  | cons p T' ih =>
   intro hp;show (if p.1=dN x then ((.int .i64 (dN x),blP (dJ dl oc dc x))::aR T':List (Value × PV)) else (.int .i64 p.1,blP p.2)::qZ (aR T') (.int .i64 (dN x)) (blP (dJ dl oc dc x)))=(.int .i64 p.1,blP p.2)::aR T'
   by_cases e:p.1=dN x
   ·rw [if_pos e]
    obtain ⟨y,hy,e1,e2⟩:=hp p (gL ..);rw [aCo hd hy hx (e1.trans e)] at e2
    rw [e,e2]
   ·rw [if_neg e,ih fun q hq=>hp q (Cj _ hq)]
 exact this T h.ok
theorem cS.put(h:cS dl oc dc T){x:List Int}(hx:x∈dc)(hh:dS (aR T) (.int .i64 (dN x))=false):cS dl oc dc (T++[(dN x,dJ dl oc dc x)]):=by
 rw [bAa] at hh
 refine ⟨?_,fun p hp => ?_⟩
 ·rw [fM,List.nodup_append]
  refine ⟨h.nd,by simp,fun a ha b hb e => ?_⟩
  simp only [fZ,List.map_nil,List.mem_singleton] at hb
  obtain ⟨p,hp,rfl⟩:=Bs.1 ha;have:=List.any_eq_false.1 hh p hp;rw [e,hb] at this
  simp at this
 ·rcases jX.1 hp with hp | hp
  ·exact h.ok p hp
  ·rw [List.mem_singleton.1 hp]
   exact ⟨x,hx,rfl,rfl⟩
end
end
end KV
end Go.Proofs
