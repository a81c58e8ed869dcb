/- Parts of the proof of JResults: laws of walks, contracts of functions, plain models. No condition. -/
import Derived.Maps.Keyed
import Derived.Maps.AppendAt
import Derived.OrdersHeld
import Derived.Great.BuildSlice
import Derived.Lib.Small
import Derived.Below
import Derived.RangeFuncNested
import Derived.RangeFuncLeaves
import Derived.Shelf.Abstract
import Derived.OwnWalkIn
import Derived.TacticsInMore
import Derived.LoopNIn
import Derived.LoopIn
import Derived.OrdersIn
import Derived.Deep.WholeRow
import Derived.Test.YtgejpbmanhlkcaaGreatPJResultsB
set_option linter.unusedVariables false
set_option linter.unusedSimpArgs false
set_option maxRecDepth 100000
namespace Go.Proofs
namespace KV
section
variable {y100 y101 y102 y103 y104 y105 y106 y107 y108 y109 y110 y111:Int}{a b l:Lqq}{i i' i'0 base:Nat}

noncomputable abbrev aJk:Code:=sub (cd Tryz.f99) [1,1,0,1,0,0]
noncomputable abbrev aJl:Code:=sub (cd Tryz.f100) [1,1,0,1,0,0]
theorem cBx{n:Nat}{x:PV}{r:List PV}{r0n:Nat}{r0c:List PV}(h0:(x::r).length=n*6∧0+n≤1000000)(er0n:r0n=(0+n))(er0c:r0c=(x::r)):FV Tp 138 [(.p (.sl n (x::r)))] base (.own base) [(base,(.row 44 r0n r0c))]:=by
 subst er0n er0c;exact FV.fi Tryz.func138 [] (gc h0 gn)
theorem bGz{k:Nat}(hk:0<k){x:List Int}{l:Lqq}(hu:uni k (x::l)):∃ y r,(x::l).flatten.map aA=y::r:=by
 have h:x.length=k:=hu x (jJ ..);cases x with
 | nil=>simp at h;omega
 | cons a x=>exact ⟨aA a,_,rfl⟩
theorem nN{k:Nat}{l:Lqq}(hu:uni k l):(l.flatten.map aA).length=l.length*k:=by rw [kQ8,oW hu]
theorem bOk(l:Lqq)(hu:uni 6 l)(hl:l.length≤1000){base:Nat}:FV Tp 138 [.p (fS l)] base (.own base) [(base,.row 44 l.length (l.flatten.map aA))]:=by
 have h1:=nN hu;cases l with
 | nil=>exact bHg
 | cons x l =>
  have key:∀ c:List PV,c.length=(x::l).length*6→(∃ y r,c=y::r)→FV Tp 138 [.p (.sl (x::l).length c)] base (.own base) [(base,.row 44 (x::l).length c)]:=fun c hc ⟨y,r,e⟩=>by
   subst e;exact cBx ⟨hc,by omega⟩ (by omega) rfl
  exact key _ h1 (bGz (by omega) hu)
theorem cBy(h0:(l.flatten.map aA).length=l.length*2∧l.length≤1000000):FV Tp 89 [(.p (fS l))] base (.own base) [(base,(.row 31 l.length (l.flatten.map aA)))]:=by
 exact FV.fi Tryz.func89 [] (gc h0 gn)
theorem cBz(l:Lqq)(hu:uni 2 l)(hl:l.length≤1000){base:Nat}:FV Tp 89 [.p (fS l)] base (.own base) [(base,.row 31 l.length (l.flatten.map aA))]:=cBy ⟨nN hu,by omega⟩
theorem cCa(h0:(l.flatten.map aA).length=l.length*6∧l.length≤1000000):FV Tp 90 [(.p (fS l))] base (.own base) [(base,(.row 44 l.length (l.flatten.map aA)))]:=by
 exact FV.fi Tryz.func90 [] (gc h0 gn)
theorem cCb(l:Lqq)(hu:uni 6 l)(hl:l.length≤1000){base:Nat}:FV Tp 90 [.p (fS l)] base (.own base) [(base,.row 44 l.length (l.flatten.map aA))]:=cCa ⟨nN hu,by omega⟩
def lI(a:Lqq)(b:Lqq)(i:Nat):St:=⟨fr 26 [(0,(.p (fS a))),(1,(.p (fS b))),(12,(pI (a.length:Int))),(13,(pI (i:Int)))],[]⟩
theorem cCc(h0:(a.length:Int)≠(b.length:Int)):FV Tp 99 [(.p (fS a)),(.p (fS b))] base (pB false) []:=by
 exact FV.fi Tryz.func99 [bT] (gc (cZ h0) gn)
theorem cCd(h0:(a.length:Int)=(b.length:Int))(hl1:aE Tp 0 aJk (lI a b 0) (.exit 0) (lI a b i'0)):FV Tp 99 [(.p (fS a)),(.p (fS b))] base (pB true) []:=by
 exact FV.fi Tryz.func99 [bF,hl1.k 4 (gZ [2,10,14,12])] (gc hl1.code (gc (aS h0) gn))
theorem cCe(h0:(a.length:Int)=(b.length:Int))(hl1:aE Tp 0 aJk (lI a b 0) .ret (bO (lI a b i'0) [(4,(.kb false))])):FV Tp 99 [(.p (fS a)),(.p (fS b))] base (pB false) []:=by
 exact FV.fi Tryz.func99 [bF,hl1.k 4 (gZ [2,10,14,12])] (gc hl1.code (gc (aS h0) gn))
theorem bHa(h0:(i:Int)<(a.length:Int))(h1:a[i]? = some [y100,y101])(h2:uni 2 a)(h3:b[i]? = some [y102,y103])(h4:uni 2 b)(h5:cV [(aA y100),(aA y101)] [(0,3,true),(1,3,true)]=true∧cV [(aA y102),(aA y103)] [(0,3,true),(1,3,true)]=true)(h6:(jP [(aA y100),(aA y101)] [(aA y102),(aA y103)] [(0,3,true),(1,3,true)])=false):aC Tp 0 aJk (lI a b i) .ret (bO (lI a b i) [(4,(.kb false))]):=by
 exact aC.fi (gZ [2,2,5,7,14,12]) [bT,.x (.agg [(aA y100),(aA y101)]),.x (.agg [(aA y102),(aA y103)]),bT] (gc (bY h6) (gc h5 (gfl h4 h3 (gfl h2 h1 (gc (aK h0) gn)))))
theorem bHb(h0:(i:Int)<(a.length:Int))(h1:a[i]? = some [y100,y101])(h2:uni 2 a)(h3:b[i]? = some [y102,y103])(h4:uni 2 b)(h5:cV [(aA y100),(aA y101)] [(0,3,true),(1,3,true)]=true∧cV [(aA y102),(aA y103)] [(0,3,true),(1,3,true)]=true)(h6:(jP [(aA y100),(aA y101)] [(aA y102),(aA y103)] [(0,3,true),(1,3,true)])=true)(h7:inR (((i+1):Nat):Int))(ei':i'=(i+1)):aC Tp 0 aJk (lI a b i) .normal (lI a b i'):=by
 subst ei';exact aC.fi (gZ [2,10,14,12]) [bT,.x (.agg [(aA y100),(aA y101)]),.x (.agg [(aA y102),(aA y103)]),bF] (gc h7 (gc (aQ h6) (gc h5 (gfl h4 h3 (gfl h2 h1 (gc (aK h0) gn))))))
theorem bHc(h0:(a.length:Int)≤(i:Int)):aC Tp 0 aJk (lI a b i) (.exit 0) (lI a b i):=by
 exact aC.fi (gZ [2,10,14,12]) [bF] (gc (aN h0) gn)
theorem bOl(a b:Lqq)(ha:uni 2 a)(hb:uni 2 b)(hl:a.length≤1000){base:Nat}:FV Tp 99 [.p (fS a),.p (fS b)] base (pB (decide (a=b))) []:=by
 by_cases hlen:a.length=b.length
 ·have eqx:∀ i,i<a.length→∃ x y,a[i]? = some x∧b[i]? = some y∧x.length=2∧y.length=2:=fun i hi =>
   ⟨a[i],b[i],kQ0 hi,kQ0 (by omega),ha _ (gD hi),hb _ (gD (by omega))⟩
  rcases aE.find (P:=Tp) (k:=0) (b:=aJk) (fun i=>lI a b i) (fun i _=>bO (lI a b i) [(4,.kb false)]) (lI a b a.length) .ret (.exit 0) (by simp) (by simp) (fun j=>decide (a.getD j []≠b.getD j [])) (List.range a.length)
   (fun i x hx hp=>by
    have hi:i<a.length:=by have:=aL hx;simpa using this
    obtain ⟨y,z,hy,hz,ly,lz⟩:=eqx i hi;obtain ⟨a,b,rfl⟩:=len2 ly;obtain ⟨a',b',rfl⟩:=len2 lz;have hxi:x=i:=by rw [nH hi] at hx;exact (Option.some.inj hx).symm
    subst hxi;have he:=of_decide_eq_false hp;simp only [kQ4,hy,hz,Option.getD_some,ne_eq,Classical.not_not] at he
    cases he;exact bHb (by omega) hy ha hz hb ⟨rfl,rfl⟩ (by simp [jP,wG]) (aH (by omega)) rfl)
   (fun i x hx hp=>by
    have hi:i<a.length:=by have:=aL hx;simpa using this
    obtain ⟨y,z,hy,hz,ly,lz⟩:=eqx i hi;obtain ⟨a,b,rfl⟩:=len2 ly;obtain ⟨a',b',rfl⟩:=len2 lz;have hxi:x=i:=by rw [nH hi] at hx;exact (Option.some.inj hx).symm
    subst hxi;have he:=of_decide_eq_true hp;simp only [kQ4,hy,hz,Option.getD_some] at he
    exact bHa (by omega) hy ha hz hb ⟨rfl,rfl⟩ (by
     rw [Bool.eq_false_iff];intro h;simp [jP,wG] at h
     exact he (by simp [h])))
   (by rw [aHf];exact bHc (by omega)) with ⟨i,x,h1,h2,h3,h4⟩ | ⟨h1,h2,h3⟩
  ·have hi:i<a.length:=by have:=aL h1;simpa using this
   have hxi:x=i:=by rw [nH hi] at h1;exact (Option.some.inj h1).symm
   have he:=of_decide_eq_true h3;rw [decide_eq_false (fun e=>he (by rw [e]))]
   exact cCe (by omega) h4
  ·have hall:∀ i,i<a.length→a.getD i []=b.getD i []:=fun i hi=>by
    have:=List.any_eq_false.1 h2 i (oV.2 hi);simpa using this
   have e:a=b:=by
    apply List.ext_getElem hlen;intro i h1 h2;have:=hall i h1;simpa [kQ4,kQ0 h1,kQ0 h2] using this
   rw [decide_eq_true e];exact cCd (by omega) h3
 ·rw [decide_eq_false (fun e=>hlen (by rw [e]))]
  exact cCc (by omega)
def lJ(a:Lqq)(b:Lqq)(i:Nat):St:=⟨fr 26 [(0,(.p (fS a))),(1,(.p (fS b))),(12,(pI (a.length:Int))),(13,(pI (i:Int)))],[]⟩
theorem cCf(h0:(a.length:Int)≠(b.length:Int)):FV Tp 100 [(.p (fS a)),(.p (fS b))] base (pB false) []:=by
 exact FV.fi Tryz.func100 [bT] (gc (cZ h0) gn)
theorem cCg(h0:(a.length:Int)=(b.length:Int))(hl1:aE Tp 0 aJl (lJ a b 0) (.exit 0) (lJ a b i'0)):FV Tp 100 [(.p (fS a)),(.p (fS b))] base (pB true) []:=by
 exact FV.fi Tryz.func100 [bF,hl1.k 4 (gZ [2,10,14,12])] (gc hl1.code (gc (aS h0) gn))
theorem cCh(h0:(a.length:Int)=(b.length:Int))(hl1:aE Tp 0 aJl (lJ a b 0) .ret (bO (lJ a b i'0) [(4,(.kb false))])):FV Tp 100 [(.p (fS a)),(.p (fS b))] base (pB false) []:=by
 exact FV.fi Tryz.func100 [bF,hl1.k 4 (gZ [2,10,14,12])] (gc hl1.code (gc (aS h0) gn))
theorem bHd(h0:(i:Int)<(a.length:Int))(h1:a[i]? = some [y100,y101,y102,y103,y104,y105])(h2:uni 6 a)(h3:b[i]? = some [y106,y107,y108,y109,y110,y111])(h4:uni 6 b)(h5:cV [(aA y100),(aA y101),(aA y102),(aA y103),(aA y104),(aA y105)] [(0,3,true),(1,42,true),(2,3,true),(3,3,true),(4,3,true),(5,3,true)]=true∧cV [(aA y106),(aA y107),(aA y108),(aA y109),(aA y110),(aA y111)] [(0,3,true),(1,42,true),(2,3,true),(3,3,true),(4,3,true),(5,3,true)]=true)(h6:(jP [(aA y100),(aA y101),(aA y102),(aA y103),(aA y104),(aA y105)] [(aA y106),(aA y107),(aA y108),(aA y109),(aA y110),(aA y111)] [(0,3,true),(1,42,true),(2,3,true),(3,3,true),(4,3,true),(5,3,true)])=false):aC Tp 0 aJl (lJ a b i) .ret (bO (lJ a b i) [(4,(.kb false))]):=by
 exact aC.fi (gZ [2,2,5,7,14,12]) [bT,.x (dcE y100 y101 y102 y103 y104 y105),.x (dcE y106 y107 y108 y109 y110 y111),bT] (gc (bY h6) (gc h5 (gfl h4 h3 (gfl h2 h1 (gc (aK h0) gn)))))
theorem bHe(h0:(i:Int)<(a.length:Int))(h1:a[i]? = some [y100,y101,y102,y103,y104,y105])(h2:uni 6 a)(h3:b[i]? = some [y106,y107,y108,y109,y110,y111])(h4:uni 6 b)(h5:cV [(aA y100),(aA y101),(aA y102),(aA y103),(aA y104),(aA y105)] [(0,3,true),(1,42,true),(2,3,true),(3,3,true),(4,3,true),(5,3,true)]=true∧cV [(aA y106),(aA y107),(aA y108),(aA y109),(aA y110),(aA y111)] [(0,3,true),(1,42,true),(2,3,true),(3,3,true),(4,3,true),(5,3,true)]=true)(h6:(jP [(aA y100),(aA y101),(aA y102),(aA y103),(aA y104),(aA y105)] [(aA y106),(aA y107),(aA y108),(aA y109),(aA y110),(aA y111)] [(0,3,true),(1,42,true),(2,3,true),(3,3,true),(4,3,true),(5,3,true)])=true)(h7:inR (((i+1):Nat):Int))(ei':i'=(i+1)):aC Tp 0 aJl (lJ a b i) .normal (lJ a b i'):=by
 subst ei';exact aC.fi (gZ [2,10,14,12]) [bT,.x (dcE y100 y101 y102 y103 y104 y105),.x (dcE y106 y107 y108 y109 y110 y111),bF] (gc h7 (gc (aQ h6) (gc h5 (gfl h4 h3 (gfl h2 h1 (gc (aK h0) gn))))))
theorem bHf(h0:(a.length:Int)≤(i:Int)):aC Tp 0 aJl (lJ a b i) (.exit 0) (lJ a b i):=by
 exact aC.fi (gZ [2,10,14,12]) [bF] (gc (aN h0) gn)
theorem cCi(a b:Lqq)(ha:uni 6 a)(hb:uni 6 b)(hl:a.length≤1000){base:Nat}:FV Tp 100 [.p (fS a),.p (fS b)] base (pB (decide (a=b))) []:=by
 by_cases hlen:a.length=b.length
 ·have eqx:∀ i,i<a.length→∃ x y,a[i]? = some x∧b[i]? = some y∧x.length=6∧y.length=6:=fun i hi =>
   ⟨a[i],b[i],kQ0 hi,kQ0 (by omega),ha _ (gD hi),hb _ (gD (by omega))⟩
  rcases aE.find (P:=Tp) (k:=0) (b:=aJl) (fun i=>lJ a b i) (fun i _=>bO (lJ a b i) [(4,.kb false)]) (lJ a b a.length) .ret (.exit 0) (by simp) (by simp) (fun j=>decide (a.getD j []≠b.getD j [])) (List.range a.length)
   (fun i x hx hp=>by
    have hi:i<a.length:=by have:=aL hx;simpa using this
    obtain ⟨y,z,hy,hz,ly,lz⟩:=eqx i hi;obtain ⟨a,b,c,d,e,f,rfl⟩:=len6 ly;obtain ⟨a',b',c',d',e',f',rfl⟩:=len6 lz;have hxi:x=i:=by rw [nH hi] at hx;exact (Option.some.inj hx).symm
    subst hxi;have he:=of_decide_eq_false hp;simp only [kQ4,hy,hz,Option.getD_some,ne_eq,Classical.not_not] at he
    cases he;exact bHe (by omega) hy ha hz hb ⟨rfl,rfl⟩ (by simp [jP,wG]) (aH (by omega)) rfl)
   (fun i x hx hp=>by
    have hi:i<a.length:=by have:=aL hx;simpa using this
    obtain ⟨y,z,hy,hz,ly,lz⟩:=eqx i hi;obtain ⟨a,b,c,d,e,f,rfl⟩:=len6 ly;obtain ⟨a',b',c',d',e',f',rfl⟩:=len6 lz;have hxi:x=i:=by rw [nH hi] at hx;exact (Option.some.inj hx).symm
    subst hxi;have he:=of_decide_eq_true hp;simp only [kQ4,hy,hz,Option.getD_some] at he
    exact bHd (by omega) hy ha hz hb ⟨rfl,rfl⟩ (by
     rw [Bool.eq_false_iff];intro h;simp [jP,wG] at h
     exact he (by simp [h])))
   (by rw [aHf];exact bHf (by omega)) with ⟨i,x,h1,h2,h3,h4⟩ | ⟨h1,h2,h3⟩
  ·have hi:i<a.length:=by have:=aL h1;simpa using this
   have hxi:x=i:=by rw [nH hi] at h1;exact (Option.some.inj h1).symm
   have he:=of_decide_eq_true h3;rw [decide_eq_false (fun e=>he (by rw [e]))]
   exact cCh (by omega) h4
  ·have hall:∀ i,i<a.length→a.getD i []=b.getD i []:=fun i hi=>by
    have:=List.any_eq_false.1 h2 i (oV.2 hi);simpa using this
   have e:a=b:=by
    apply List.ext_getElem hlen;intro i h1 h2;have:=hall i h1;simpa [kQ4,kQ0 h1,kQ0 h2] using this
   rw [decide_eq_true e];exact cCg (by omega) h3
 ·rw [decide_eq_false (fun e=>hlen (by rw [e]))]
  exact cCf (by omega)
end
section
variable {dl:Int}{o q dc o'1:Lqq}{i j base:Nat}
variable {dl:Int}{sk dc:Lqq}

noncomputable abbrev aZm:Code:=sub (cd Tryz.f30) [1,1,0,1,0,0]
noncomputable abbrev aZn:Code:=sub (cd Tryz.f30) [1,1,1,0,1,0,0]
theorem cBs(h0:uni 2 sk)(h1:sk.length≤1000)(h2:uni 6 dc)(h3:dc.length≤1000):FV Tp 27 [(.p (.agg (aX dl sk dc)))] base (.p (.agg (aX dl sk dc))) []:=by
 have k1:=fk 2 (cBz sk h0 h1) rfl;have k2:=fk 10 (cCb dc h2 h3) rfl;exact FV.frz (FMM.fi 0 ⟨[],[],[2,10],[]⟩ Tryz.func27 [k1.o,k2.o] (gc k2 (gc k1 gn))) (by kernel_rfl)
theorem cBt{r0:Int}(h0:uni 2 sk)(h1:uni 6 dc)(h2:(eC dl sk dc)≠0)(er0:r0=(eC dl sk dc)):FV Tp 45 [(.p (.agg (aX dl sk dc)))] base (.tup [(.p (.agg [(aA 0),bM,bM])),(pI r0)]) []:=by
 subst er0;have k1:=fk 2 (bOp dl sk dc h0 h1) rfl;exact FV.frz (FMM.fi 0 gE Tryz.func45 [k1.o,bT] (gc (cZ h2) (gc k1 gn))) (by kernel_rfl)
theorem cBu(h0:uni 2 sk)(h1:uni 6 dc)(h2:(eC dl sk dc)=0)(h3:0≤(sk.length:Int)∧(sk.length:Int)≤(sk.length:Int)∧(sk.length:Int)≤1000000)(h4:0≤(dc.length:Int)∧(dc.length:Int)≤(dc.length:Int)∧(dc.length:Int)≤1000000)(h5:(aP sk 0).Nodup)(h6:sk.length≤1000)(h7:(aP dc 0).Nodup)(h8:dc.length≤1000):FV Tp 45 [(.p (.agg (aX dl sk dc)))] base (.tup [(.p (.agg (aX dl (aB sk) (aB dc)))),(pI 0)]) []:=by
 have k1:=fk 2 (bOp dl sk dc h0 h1) rfl;have k2:=mq [3] 7 (bHh sk h0 h5 h6);have k3:=mq [5] 7 (bHi dc h1 h7 h8);exact FV.frz (FMM.fi 0 ⟨[],[],[3,5],[]⟩ Tryz.func45 [k1.o,bF,k2.o,k3.o] (gc k3 (gc k2 (gt ((dc.flatten.map aA).length=dc.length*6∧dc.length=dc.length) ⟨nN h1,rfl⟩ (gt ((sk.flatten.map aA).length=sk.length*2∧sk.length=sk.length) ⟨nN h0,rfl⟩ (gc h4 (gc h3 (gc (aS h2) (gc k1 gn))))))))) (by kernel_rfl)
theorem bTu(dl:Int)(sk dc:Lqq)(us:uni 2 sk)(ud:uni 6 dc)(h:eC dl sk dc≠0){base:Nat}:FV Tp 45 [.p (.agg (aX dl sk dc))] base (.tup [.p (.agg [aA 0,bM,bM]),.p (aA (eC dl sk dc))]) []:=cBt us ud h rfl
theorem cBv(dl:Int)(sk dc:Lqq)(h:bZ dl sk dc){base:Nat}:FV Tp 45 [.p (.agg (aX dl sk dc))] base (.tup [.p (.agg (aX dl (aB sk) (aB dc))),.p (aA 0)]) []:=by
 have h1:=h.len;have h2:=h.len2;exact cBu h.us h.ud ((aZp h.us h.ud).2 h) (by omega) (by omega) h.ns (by omega) h.nd (by omega)
theorem vA{l:Lqq}{x:List Int}:(l.flatten.map aA)++(x.map aA)=((l++[x]).flatten.map aA):=by simp
theorem aQi{k:Nat}{l:Lqq}{x:List Int}(hu:uni k l)(hx:x.length=k):uni k (l++[x]):=fun y hy=>by
 rcases jK.1 hy with h | h
 ·exact hu y h
 ·simp at h;rw [h];exact hx
def tQ(dl:Int)(sk:Lqq)(dc:Lqq)(i:Nat)(on:Nat)(oc:List PV):St:=⟨fr 52 [(1,(.ptr 0 0)),(2,(.ptr 1 0)),(3,(.ptr 2 0)),(12,(.p (fS sk))),(13,(pI (sk.length:Int))),(14,(pI (i:Int)))],[some (.box 26 [(pI dl),(.p (fS sk)),(.p (fS dc))]),some (.box 61 [(pI 0),(.p bM),(.p bM)]),some (.box 61 [(pI dl),(.own 3),(.p bM)]),some (.row 73 on oc)]⟩
def tR(dl:Int)(dc:Lqq)(o'1:Lqq)(j:Nat)(qn:Nat)(qc:List PV):St:=⟨fr 52 [(2,(.ptr 0 0)),(3,(.ptr 1 0)),(26,(.p (fS dc))),(27,(pI (dc.length:Int))),(28,(pI (j:Int)))],[some (.box 61 [(pI 0),(.p bM),(.p bM)]),some (.box 61 [(pI dl),(.own 2),(.own 3)]),some (.row 73 o'1.length (o'1.flatten.map aA)),some (.row 119 qn qc)]⟩
theorem cBw{i'0:Nat}{j'2:Nat}{q'3:Lqq}(hl0:aE Tp 0 aZm (tQ dl sk dc 0 0 []) (.exit 0) (tQ dl sk dc i'0 o'1.length (o'1.flatten.map aA)))(hl1:aE Tp 0 aZn (tR dl dc o'1 0 0 []) (.exit 2) (tR dl dc o'1 j'2 q'3.length (q'3.flatten.map aA))):FV Tp 30 [(.p (.agg (aX dl sk dc)))] base (.p (.agg (aX dl o'1 q'3))) []:=by
 exact FV.frz (FMM.fi 0 ⟨[],[],[2,3],[]⟩ Tryz.func30 [hl0.k 8 (gN [0,1,4,3,8,4,15,10] [0,1,2,3] [(102001,73)]),hl1.k 4 (gN [0,2,4,22,29,22] [1,2,3,4] [(102002,119)])] (gc hl1.code (gc hl0.code gn))) (by kernel_rfl)
theorem bGv{y100 y101:Int}{i':Nat}{o':Lqq}(h0:(i:Int)<(sk.length:Int))(h1:sk[i]? = some [y100,y101])(h2:uni 2 sk)(h3:[(aA y100),(aA y101)].length=1*2∧o.length+1≤1000000)(h4:inR (((i+1):Nat):Int))(ei':i'=(i+1))(eo'n:o'.length=(o.length+1))(eo'c:o'.flatten.map aA=((o.flatten.map aA)++[(aA y100),(aA y101)])):aC Tp 0 aZm (tQ dl sk dc i o.length (o.flatten.map aA)) .normal (tQ dl sk dc i' o'.length (o'.flatten.map aA)):=by
 subst ei';rw [eo'n,eo'c];exact aC.fi (gI [0,1,4,3,8,4,15,10] [0,1,2,6]) [bT,.x (.agg [(aA y100),(aA y101)])] (gc h4 (gc h3 (gt ([(aA y100),(aA y101)].length=2) (by first | decide | simp) (gfl h2 h1 (gc (aK h0) gn)))))
theorem bGw(h0:(sk.length:Int)≤(i:Int)):aC Tp 0 aZm (tQ dl sk dc i o.length (o.flatten.map aA)) (.exit 0) (tQ dl sk dc i o.length (o.flatten.map aA)):=by
 exact aC.fi (gI [0,1,4,3,8,4,15,10] [0,1,2,3]) [bF] (gc (aN h0) gn)
theorem bGx{y200 y201 y202 y203 y204 y205:Int}{j':Nat}{q':Lqq}(h0:(j:Int)<(dc.length:Int))(h1:dc[j]? = some [y200,y201,y202,y203,y204,y205])(h2:uni 6 dc)(h3:[(aA y200),(aA y201),(aA y202),(aA y203),(aA y204),(aA y205)].length=1*6∧q.length+1≤1000000)(h4:inR (((j+1):Nat):Int))(ej':j'=(j+1))(eq'n:q'.length=(q.length+1))(eq'c:q'.flatten.map aA=((q.flatten.map aA)++[(aA y200),(aA y201),(aA y202),(aA y203),(aA y204),(aA y205)])):aC Tp 0 aZn (tR dl dc o'1 j q.length (q.flatten.map aA)) .normal (tR dl dc o'1 j' q'.length (q'.flatten.map aA)):=by
 subst ej';rw [eq'n,eq'c];exact aC.fi (gI [0,2,4,22,29,22] [0,1,2,6]) [bT,.x (dcE y200 y201 y202 y203 y204 y205)] (gc h4 (gc h3 (gt ([(aA y200),(aA y201),(aA y202),(aA y203),(aA y204),(aA y205)].length=6) (by first | decide | simp) (gfl h2 h1 (gc (aK h0) gn)))))
theorem bGy(h0:(dc.length:Int)≤(j:Int)):aC Tp 0 aZn (tR dl dc o'1 j q.length (q.flatten.map aA)) (.exit 2) (tR dl dc o'1 j q.length (q.flatten.map aA)):=by
 exact aC.fi (gI [0,2,4,22,29,22] [0,1,2,3]) [bF] (gc (aN h0) gn)
theorem zQ(dl:Int)(sk dc:Lqq)(us:uni 2 sk)(ud:uni 6 dc)(hs:sk.length≤1000)(hd:dc.length≤1000){base:Nat}:FV Tp 30 [.p (.agg (aX dl sk dc))] base (.p (.agg (aX dl sk dc))) []:=by
 have L0:=aE.count (P:=Tp) (k:=0) (b:=aZm) (e := .exit 0) (R:=tQ dl sk dc sk.length sk.length (sk.flatten.map aA)) sk.length (fun i=>tQ dl sk dc i (sk.take i).length ((sk.take i).flatten.map aA))
  (fun i hi=>by
   obtain ⟨a,b,hx⟩:=at2 us hi;have et:sk.take (i+1)=sk.take i++[[a,b]]:=by rw [List.take_add_one,hx];rfl
   exact bGv (o:=sk.take i) (o':=sk.take (i+1)) (by omega) hx us ⟨rfl,by simp;omega⟩ (aH (by omega)) rfl (by simp;omega) (by rw [et];exact (vA (l:=sk.take i) (x:=[a,b])).symm))
  (by rw [List.take_length];exact bGw (by omega)) (by simp)
 have L1:=aE.count (P:=Tp) (k:=0) (b:=aZn) (e := .exit 2) (R:=tR dl dc sk dc.length dc.length (dc.flatten.map aA)) dc.length (fun i=>tR dl dc sk i (dc.take i).length ((dc.take i).flatten.map aA))
  (fun i hi=>by
   obtain ⟨a,b,c,d,e,f,hx⟩:=at6 ud hi;have et:dc.take (i+1)=dc.take i++[[a,b,c,d,e,f]]:=by rw [List.take_add_one,hx];rfl
   exact bGx (q:=dc.take i) (q':=dc.take (i+1)) (by omega) hx ud ⟨rfl,by simp;omega⟩ (aH (by omega)) rfl (by simp;omega) (by rw [et];exact (vA (l:=dc.take i) (x:=[a,b,c,d,e,f])).symm))
  (by rw [List.take_length];exact bGy (by omega)) (by simp)
 exact cBw L0 L1
end
section

end
section
variable {n v y100 y101 y102 y103 y104 y105 y200 y201 y202 y203 y204 y205 y400 y401 y402 y403 y600 y601 y602 y603 y604 y605 y606 y607 y608 y609 y610 y611 y700 y701 y702 y703 y704 y705 y800 y801 y802 y803 y804 y805:Int}{a b c d e f i j e' f' i' j' a'2 c'3 e'4 f'5 i'0 j'1 base b'300 d'500:Nat}
variable {dl:Int}{sk dc:Lqq}

noncomputable abbrev mI:Code:=sub (cd Tryz.f31) [1,1,1,1,0,1,0,0]
noncomputable abbrev tP:Code:=sub (cd Tryz.f31) [1,1,1,0,1,0,0]
noncomputable abbrev aBk:Code:=sub (cd Tryz.f31) [1,1,1,1,1,0,1,0,0]
noncomputable abbrev aBl:Code:=sub (cd Tryz.f31) [1,1,1,1,1,1,1,0,1,0,0]
noncomputable abbrev aFd:Code:=sub (cd Tryz.f31) [1,1,1,1,1,1,0,1,0,0]
noncomputable abbrev aFe:Code:=sub (cd Tryz.f31) [1,1,1,1,1,1,1,1,0,1,0,0]
noncomputable abbrev aJi:Code:=sub (cd Tryz.f92) [1,0,1,0,0]
noncomputable abbrev aJj:Code:=sub (cd Tryz.f101) [1,0,1,0,0]
noncomputable abbrev aQg:Code:=sub (cd Tryz.f31) [1,1,1,1,1,0,1,0,0,1,0,0,1,0,0]
noncomputable abbrev aQh:Code:=sub (cd Tryz.f31) [1,1,1,1,1,1,0,1,0,0,1,0,0,1,0,0]
theorem bTr{a b:Int}(h0:n<a):FV Tp 91 [(pI n),(pI a),(pI b)] base (pB true) []:=by
 exact FV.fi Tryz.func91 [bT,bT,bT,bT] (g4c (aK h0) gn)
theorem bTs{a b:Int}{r0:Bool}(h0:a≤n)(er0:r0=(decide (n > b))):FV Tp 91 [(pI n),(pI a),(pI b)] base (pB r0) []:=by
 subst er0;exact FV.fi Tryz.func91 [bF,bF,bF,bF] (g4c (aN h0) gn)
def eJ(n a b:Int):Bool := !within n a b
theorem bP(n a b:Int){base:Nat}:FV Tp 91 [.p (aA n),.p (aA a),.p (aA b)] base (pB (eJ n a b)) []:=by
 by_cases h:n<a
 ·rw [show eJ n a b=true by unfold eJ within;simp;omega];exact bTr h
 ·exact bTs (by omega) (by rw [Bool.eq_iff_iff];unfold eJ within;simp;omega)
def lG(dl:Int)(sk:Lqq)(dc:Lqq)(v:Int)(i:Nat):St:=⟨fr 22 [(1,(pI v)),(2,(.ptr 0 0)),(5,(pI (i:Int)))],[some (.box 61 [(pI dl),(.p (fS sk)),(.p (fS dc))])]⟩
theorem cBd(hl0:aE Tp 0 aJi (lG dl sk dc v 0) (.exit 0) (lG dl sk dc v i'0)):FV Tp 92 [(.p (.agg (aX dl sk dc))),(pI v)] base (pI (-1)) []:=by
 exact FV.fi Tryz.func92 [hl0.k 6 (gI [0,1,3,2,6,16] [0])] (gc hl0.code gn)
theorem cBe(hl0:aE Tp 0 aJi (lG dl sk dc v 0) .ret (bO (lG dl sk dc v i'0) [(4,(pI (i'0:Int)))])):FV Tp 92 [(.p (.agg (aX dl sk dc))),(pI v)] base (pI (i'0:Int)) []:=by
 exact FV.fi Tryz.func92 [hl0.k 6 (gI [0,1,3,2,6,16] [0])] (gc hl0.code gn)
theorem bFf(h0:(i:Int)<(sk.length:Int))(h1:sk[i]? = some [y100,y101])(h2:uni 2 sk)(h3:y100=v):aC Tp 0 aJi (lG dl sk dc v i) .ret (bO (lG dl sk dc v i) [(4,(pI (i:Int)))]):=by
 exact aC.fi (gI [0,1,3,1,6,16] [0]) [bT,.x (aA y100),bT] (gc (bL h3) (gt ((sk.flatten.map aA)[(i*2)]? = some (aA y100)) (bE (i:=i) (f:=0) h2 h1 rfl) (gc (fQ (k:=2) (i:=(i:Int)) (by decide) h2 (kQ5 _) h1) (gc (aK h0) gn))))
theorem bFg(h0:(i:Int)<(sk.length:Int))(h1:sk[i]? = some [y100,y101])(h2:uni 2 sk)(h3:y100≠v)(h4:inR (((i+1):Nat):Int))(ei':i'=(i+1)):aC Tp 0 aJi (lG dl sk dc v i) .normal (lG dl sk dc v i'):=by
 subst ei';exact aC.fi (gI [0,1,3,2,6,16] [0]) [bT,.x (aA y100),bF] (gc h4 (gc (aV h3) (gt ((sk.flatten.map aA)[(i*2)]? = some (aA y100)) (bE (i:=i) (f:=0) h2 h1 rfl) (gc (fQ (k:=2) (i:=(i:Int)) (by decide) h2 (kQ5 _) h1) (gc (aK h0) gn)))))
theorem bFh(h0:(sk.length:Int)≤(i:Int)):aC Tp 0 aJi (lG dl sk dc v i) (.exit 0) (lG dl sk dc v i):=by
 exact aC.fi (gI [0,1,3,2,6,16] [0]) [bF] (gc (aN h0) gn)
theorem aUx(dl:Int)(sk dc:Lqq)(v:Int)(hu:uni 2 sk)(hl:sk.length≤1000){base:Nat}:FV Tp 92 [.p (.agg (aX dl sk dc)),.p (aA v)] base (pI (bJ (fun x=>decide (x.getD 0 0=v)) sk)) []:=by
 rcases aE.find (P:=Tp) (k:=0) (b:=aJi) (fun i=>lG dl sk dc v i) (fun i _=>bO (lG dl sk dc v i) [(4,.p (aA (i:Int)))]) (lG dl sk dc v sk.length) .ret (.exit 0) (by simp) (by simp) (fun x:List Int=>decide (x.getD 0 0=v)) sk
  (fun i x hx hp=>by
   obtain ⟨a,b,rfl⟩:=len2 (hu _ (kQ1 hx));exact bFg (by have:=aL hx;omega) hx hu (by simpa using hp) (aH (by have:=aL hx;omega)) rfl)
  (fun i x hx hp=>by
   obtain ⟨a,b,rfl⟩:=len2 (hu _ (kQ1 hx));exact bFf (by have:=aL hx;omega) hx hu (by simpa using hp))
  (bFh (i:=sk.length) (by omega)) with ⟨i,x,h1,h2,h3,h4⟩ | ⟨h1,h2,h3⟩
 ·rw [dW h2];exact cBe h4
 ·rw [eU h1];exact cBd h3
def lH(dl:Int)(sk:Lqq)(dc:Lqq)(v:Int)(i:Nat):St:=⟨fr 22 [(1,(pI v)),(2,(.ptr 0 0)),(5,(pI (i:Int)))],[some (.box 61 [(pI dl),(.p (fS sk)),(.p (fS dc))])]⟩
theorem cBf(hl0:aE Tp 0 aJj (lH dl sk dc v 0) (.exit 0) (lH dl sk dc v i'0)):FV Tp 101 [(.p (.agg (aX dl sk dc))),(pI v)] base (pI (-1)) []:=by
 exact FV.fi Tryz.func101 [hl0.k 6 (gI [0,1,3,2,6,16] [0])] (gc hl0.code gn)
theorem cBg(hl0:aE Tp 0 aJj (lH dl sk dc v 0) .ret (bO (lH dl sk dc v i'0) [(4,(pI (i'0:Int)))])):FV Tp 101 [(.p (.agg (aX dl sk dc))),(pI v)] base (pI (i'0:Int)) []:=by
 exact FV.fi Tryz.func101 [hl0.k 6 (gI [0,1,3,2,6,16] [0])] (gc hl0.code gn)
theorem bFi(h0:(i:Int)<(dc.length:Int))(h1:dc[i]? = some [y100,y101,y102,y103,y104,y105])(h2:uni 6 dc)(h3:y100=v):aC Tp 0 aJj (lH dl sk dc v i) .ret (bO (lH dl sk dc v i) [(4,(pI (i:Int)))]):=by
 exact aC.fi (gI [0,1,3,1,6,16] [0]) [bT,.x (aA y100),bT] (gc (bL h3) (gt ((dc.flatten.map aA)[(i*6)]? = some (aA y100)) (bE (i:=i) (f:=0) h2 h1 rfl) (gc (fQ (k:=6) (i:=(i:Int)) (by decide) h2 (kQ5 _) h1) (gc (aK h0) gn))))
theorem bFj(h0:(i:Int)<(dc.length:Int))(h1:dc[i]? = some [y100,y101,y102,y103,y104,y105])(h2:uni 6 dc)(h3:y100≠v)(h4:inR (((i+1):Nat):Int))(ei':i'=(i+1)):aC Tp 0 aJj (lH dl sk dc v i) .normal (lH dl sk dc v i'):=by
 subst ei';exact aC.fi (gI [0,1,3,2,6,16] [0]) [bT,.x (aA y100),bF] (gc h4 (gc (aV h3) (gt ((dc.flatten.map aA)[(i*6)]? = some (aA y100)) (bE (i:=i) (f:=0) h2 h1 rfl) (gc (fQ (k:=6) (i:=(i:Int)) (by decide) h2 (kQ5 _) h1) (gc (aK h0) gn)))))
theorem bFk(h0:(dc.length:Int)≤(i:Int)):aC Tp 0 aJj (lH dl sk dc v i) (.exit 0) (lH dl sk dc v i):=by
 exact aC.fi (gI [0,1,3,2,6,16] [0]) [bF] (gc (aN h0) gn)
theorem cBh(dl:Int)(sk dc:Lqq)(v:Int)(hu:uni 6 dc)(hl:dc.length≤1000){base:Nat}:FV Tp 101 [.p (.agg (aX dl sk dc)),.p (aA v)] base (pI (bJ (fun x=>decide (x.getD 0 0=v)) dc)) []:=by
 rcases aE.find (P:=Tp) (k:=0) (b:=aJj) (fun i=>lH dl sk dc v i) (fun i _=>bO (lH dl sk dc v i) [(4,.p (aA (i:Int)))]) (lH dl sk dc v dc.length) .ret (.exit 0) (by simp) (by simp) (fun x:List Int=>decide (x.getD 0 0=v)) dc
  (fun i x hx hp=>by
   obtain ⟨a,b,c,d,e,g,rfl⟩:=len6 (hu _ (kQ1 hx));exact bFj (by have:=aL hx;omega) hx hu (by simpa using hp) (aH (by have:=aL hx;omega)) rfl)
  (fun i x hx hp=>by
   obtain ⟨a,b,c,d,e,g,rfl⟩:=len6 (hu _ (kQ1 hx));exact bFi (by have:=aL hx;omega) hx hu (by simpa using hp))
  (bFk (i:=dc.length) (by omega)) with ⟨i,x,h1,h2,h3,h4⟩ | ⟨h1,h2,h3⟩
 ·rw [dW h2];exact cBg h4
 ·rw [eU h1];exact cBf h3
def dV(dl:Int)(sk:Lqq)(dc:Lqq)(i:Nat):St:=⟨fr 219 [(1,(.ptr 0 0)),(3,(pI (i:Int)))],[some (.box 61 [(pI dl),(.p (fS sk)),(.p (fS dc))])]⟩
def cQ(dl:Int)(sk:Lqq)(dc:Lqq)(j:Nat):St:=⟨fr 219 [(1,(.ptr 0 0)),(4,(pI (j:Int)))],[some (.box 61 [(pI dl),(.p (fS sk)),(.p (fS dc))])]⟩
def eY(dl:Int)(sk:Lqq)(dc:Lqq)(a:Nat):St:=⟨fr 219 [(1,(.ptr 0 0)),(6,(pI (a:Int)))],[some (.box 61 [(pI dl),(.p (fS sk)),(.p (fS dc))])]⟩
def fH(dl:Int)(sk:Lqq)(dc:Lqq)(c:Nat):St:=⟨fr 219 [(1,(.ptr 0 0)),(8,(pI (c:Int)))],[some (.box 61 [(pI dl),(.p (fS sk)),(.p (fS dc))])]⟩
def eZ(dl:Int)(sk:Lqq)(dc:Lqq)(e:Nat):St:=⟨fr 219 [(1,(.ptr 0 0)),(10,(pI (e:Int)))],[some (.box 61 [(pI dl),(.p (fS sk)),(.p (fS dc))])]⟩
def fJ(dl:Int)(sk:Lqq)(dc:Lqq)(f:Nat):St:=⟨fr 219 [(1,(.ptr 0 0)),(12,(pI (f:Int)))],[some (.box 61 [(pI dl),(.p (fS sk)),(.p (fS dc))])]⟩
theorem cBi(h0:(sk.length:Int)<1):FV Tp 31 [(.p (.agg (aX dl sk dc)))] base (pI 2) []:=by
 exact FV.fi Tryz.func31 (rT 5) (g5c (aK h0) gn)
theorem cBj(h0:(1:Int)≤(sk.length:Int))(h1:(30:Int)<(sk.length:Int)):FV Tp 31 [(.p (.agg (aX dl sk dc)))] base (pI 2) []:=by
 exact FV.fi Tryz.func31 (rF 5++rT 5) (g5c (aK h1) (g5c (aN h0) gn))
theorem cBk(h0:(1:Int)≤(sk.length:Int))(h1:(sk.length:Int)≤30)(h2:(40:Int)<(dc.length:Int)):FV Tp 31 [(.p (.agg (aX dl sk dc)))] base (pI 2) []:=by
 exact FV.fi Tryz.func31 (rF 10++[bT]) (gc (aK h2) (g5c (aN h1) (g5c (aN h0) gn)))
theorem cBl(h0:(1:Int)≤(sk.length:Int))(h1:(sk.length:Int)≤30)(h2:(dc.length:Int)≤40)(h3:(eJ dl 0 10000)=true):FV Tp 31 [(.p (.agg (aX dl sk dc)))] base (pI 3) []:=by
 have k1:=fk 1 (bP dl 0 10000) rfl;exact FV.fi Tryz.func31 (rF 11++[k1.o,bT]) (gc h3 (gc k1 (gc (aN h2) (g5c (aN h1) (g5c (aN h0) gn)))))
theorem cBm(h0:(1:Int)≤(sk.length:Int))(h1:(sk.length:Int)≤30)(h2:(dc.length:Int)≤40)(h3:(eJ dl 0 10000)=false)(hl4:aE Tp 0 tP (dV dl sk dc 0) (.exit 0) (dV dl sk dc i'0))(hl5:aE Tp 0 mI (cQ dl sk dc 0) (.exit 2) (cQ dl sk dc j'1))(hl6:aE Tp 0 aBk (eY dl sk dc 0) (.exit 4) (eY dl sk dc a'2))(hl7:aE Tp 0 aFd (fH dl sk dc 0) (.exit 8) (fH dl sk dc c'3))(hl8:aE Tp 0 aBl (eZ dl sk dc 0) (.exit 12) (eZ dl sk dc e'4))(hl9:aE Tp 0 aFe (fJ dl sk dc 0) (.exit 14) (fJ dl sk dc f'5)):FV Tp 31 [(.p (.agg (aX dl sk dc)))] base (pI 0) []:=by
 have k1:=fk 1 (bP dl 0 10000) rfl;exact FV.fi Tryz.func31 (rF 11++[k1.o,bF,hl4.k 4 (gI [0,1,2,1,14,42] [0]),hl5.k 4 (gI [0,1,2,2,5,1,14,90] [0]),hl6.k 4 (gI [0,1,2,4,7,1,14,115] [0]),hl7.k 4 (gI [0,1,2,6,9,1,14,140] [0]),hl8.k 4 (gI [0,1,2,8,11,1,14,172] [0]),hl9.k 4 (gI [0,1,2,10,13,206] [0])]) (gc hl9.code (gc hl8.code (gc hl7.code (gc hl6.code (gc hl5.code (gc hl4.code (gc h3 (gc k1 (gc (aN h2) (g5c (aN h1) (g5c (aN h0) gn)))))))))))
theorem cBn(h0:(1:Int)≤(sk.length:Int))(h1:(sk.length:Int)≤30)(h2:(dc.length:Int)≤40)(h3:(eJ dl 0 10000)=false)(hl4:aE Tp 0 tP (dV dl sk dc 0) (.exit 0) (dV dl sk dc i'0))(hl5:aE Tp 0 mI (cQ dl sk dc 0) (.exit 2) (cQ dl sk dc j'1))(hl6:aE Tp 0 aBk (eY dl sk dc 0) (.exit 4) (eY dl sk dc a'2))(hl7:aE Tp 0 aFd (fH dl sk dc 0) (.exit 8) (fH dl sk dc c'3))(hl8:aE Tp 0 aBl (eZ dl sk dc 0) (.exit 12) (eZ dl sk dc e'4))(hl9:aE Tp 0 aFe (fJ dl sk dc 0) .ret (bO (fJ dl sk dc f'5) [(2,(pI 4))])):FV Tp 31 [(.p (.agg (aX dl sk dc)))] base (pI 4) []:=by
 have k1:=fk 1 (bP dl 0 10000) rfl;exact FV.fi Tryz.func31 (rF 11++[k1.o,bF,hl4.k 4 (gI [0,1,2,1,14,42] [0]),hl5.k 4 (gI [0,1,2,2,5,1,14,90] [0]),hl6.k 4 (gI [0,1,2,4,7,1,14,115] [0]),hl7.k 4 (gI [0,1,2,6,9,1,14,140] [0]),hl8.k 4 (gI [0,1,2,8,11,1,14,172] [0]),hl9.k 4 (gI [0,1,2,10,13,206] [0])]) (gc hl9.code (gc hl8.code (gc hl7.code (gc hl6.code (gc hl5.code (gc hl4.code (gc h3 (gc k1 (gc (aN h2) (g5c (aN h1) (g5c (aN h0) gn)))))))))))
theorem cBo(h0:(1:Int)≤(sk.length:Int))(h1:(sk.length:Int)≤30)(h2:(dc.length:Int)≤40)(h3:(eJ dl 0 10000)=false)(hl4:aE Tp 0 tP (dV dl sk dc 0) (.exit 0) (dV dl sk dc i'0))(hl5:aE Tp 0 mI (cQ dl sk dc 0) (.exit 2) (cQ dl sk dc j'1))(hl6:aE Tp 0 aBk (eY dl sk dc 0) (.exit 4) (eY dl sk dc a'2))(hl7:aE Tp 0 aFd (fH dl sk dc 0) (.exit 8) (fH dl sk dc c'3))(hl8:aE Tp 0 aBl (eZ dl sk dc 0) .ret (bO (eZ dl sk dc e'4) [(2,(pI 1))])):FV Tp 31 [(.p (.agg (aX dl sk dc)))] base (pI 1) []:=by
 have k1:=fk 1 (bP dl 0 10000) rfl;exact FV.fi Tryz.func31 (rF 11++[k1.o,bF,hl4.k 4 (gI [0,1,2,1,14,42] [0]),hl5.k 4 (gI [0,1,2,2,5,1,14,90] [0]),hl6.k 4 (gI [0,1,2,4,7,1,14,115] [0]),hl7.k 4 (gI [0,1,2,6,9,1,14,140] [0]),hl8.k 4 (gI [0,1,2,8,11,1,14,172] [0])]) (gc hl8.code (gc hl7.code (gc hl6.code (gc hl5.code (gc hl4.code (gc h3 (gc k1 (gc (aN h2) (g5c (aN h1) (g5c (aN h0) gn))))))))))
theorem cBp(h0:(1:Int)≤(sk.length:Int))(h1:(sk.length:Int)≤30)(h2:(dc.length:Int)≤40)(h3:(eJ dl 0 10000)=false)(hl4:aE Tp 0 tP (dV dl sk dc 0) (.exit 0) (dV dl sk dc i'0))(hl5:aE Tp 0 mI (cQ dl sk dc 0) (.exit 2) (cQ dl sk dc j'1))(hl6:aE Tp 0 aBk (eY dl sk dc 0) (.exit 4) (eY dl sk dc a'2))(hl7:aE Tp 0 aFd (fH dl sk dc 0) .ret (bO (fH dl sk dc c'3) [(2,(pI 5))])):FV Tp 31 [(.p (.agg (aX dl sk dc)))] base (pI 5) []:=by
 have k1:=fk 1 (bP dl 0 10000) rfl;exact FV.fi Tryz.func31 (rF 11++[k1.o,bF,hl4.k 4 (gI [0,1,2,1,14,42] [0]),hl5.k 4 (gI [0,1,2,2,5,1,14,90] [0]),hl6.k 4 (gI [0,1,2,4,7,1,14,115] [0]),hl7.k 4 (gI [0,1,2,6,9,1,14,140] [0])]) (gc hl7.code (gc hl6.code (gc hl5.code (gc hl4.code (gc h3 (gc k1 (gc (aN h2) (g5c (aN h1) (g5c (aN h0) gn)))))))))
theorem cBq(h0:(1:Int)≤(sk.length:Int))(h1:(sk.length:Int)≤30)(h2:(dc.length:Int)≤40)(h3:(eJ dl 0 10000)=false)(hl4:aE Tp 0 tP (dV dl sk dc 0) (.exit 0) (dV dl sk dc i'0))(hl5:aE Tp 0 mI (cQ dl sk dc 0) (.exit 2) (cQ dl sk dc j'1))(hl6:aE Tp 0 aBk (eY dl sk dc 0) .ret (bO (eY dl sk dc a'2) [(2,(pI 5))])):FV Tp 31 [(.p (.agg (aX dl sk dc)))] base (pI 5) []:=by
 have k1:=fk 1 (bP dl 0 10000) rfl;exact FV.fi Tryz.func31 (rF 11++[k1.o,bF,hl4.k 4 (gI [0,1,2,1,14,42] [0]),hl5.k 4 (gI [0,1,2,2,5,1,14,90] [0]),hl6.k 4 (gI [0,1,2,4,7,1,14,115] [0])]) (gc hl6.code (gc hl5.code (gc hl4.code (gc h3 (gc k1 (gc (aN h2) (g5c (aN h1) (g5c (aN h0) gn))))))))
theorem cBr(h0:(1:Int)≤(sk.length:Int))(h1:(sk.length:Int)≤30)(h2:(dc.length:Int)≤40)(h3:(eJ dl 0 10000)=false)(hl4:aE Tp 0 tP (dV dl sk dc 0) (.exit 0) (dV dl sk dc i'0))(hl5:aE Tp 0 mI (cQ dl sk dc 0) .ret (bO (cQ dl sk dc j'1) [(2,(pI 3))])):FV Tp 31 [(.p (.agg (aX dl sk dc)))] base (pI 3) []:=by
 have k1:=fk 1 (bP dl 0 10000) rfl;exact FV.fi Tryz.func31 (rF 11++[k1.o,bF,hl4.k 4 (gI [0,1,2,1,14,42] [0]),hl5.k 4 (gI [0,1,2,2,5,1,14,90] [0])]) (gc hl5.code (gc hl4.code (gc h3 (gc k1 (gc (aN h2) (g5c (aN h1) (g5c (aN h0) gn)))))))
theorem bTt(h0:(1:Int)≤(sk.length:Int))(h1:(sk.length:Int)≤30)(h2:(dc.length:Int)≤40)(h3:(eJ dl 0 10000)=false)(hl4:aE Tp 0 tP (dV dl sk dc 0) .ret (bO (dV dl sk dc i'0) [(2,(pI 3))])):FV Tp 31 [(.p (.agg (aX dl sk dc)))] base (pI 3) []:=by
 have k1:=fk 1 (bP dl 0 10000) rfl;exact FV.fi Tryz.func31 (rF 11++[k1.o,bF,hl4.k 4 (gI [0,1,2,1,14,42] [0])]) (gc hl4.code (gc h3 (gc k1 (gc (aN h2) (g5c (aN h1) (g5c (aN h0) gn))))))
theorem bFl(h0:(i:Int)<(sk.length:Int))(h1:sk[i]? = some [y100,y101])(h2:uni 2 sk)(h3:(eJ y100 1 999)=true):aC Tp 0 tP (dV dl sk dc i) .ret (bO (dV dl sk dc i) [(2,(pI 3))]):=by
 have k1:=fk 1 (bP y100 1 999) rfl;exact aC.fi (gI [0,1,14,42] [0]) ([bT,.x (aA y100),k1.o]++rT 8) (g8c h3 (gc k1 (gt ((sk.flatten.map aA)[(i*2)]? = some (aA y100)) (bE (i:=i) (f:=0) h2 h1 rfl) (gc (fQ (k:=2) (i:=(i:Int)) (by decide) h2 (kQ5 _) h1) (gc (aK h0) gn)))))
theorem bFm(h0:(i:Int)<(sk.length:Int))(h1:sk[i]? = some [y100,y101])(h2:uni 2 sk)(h3:(eJ y100 1 999)=false)(h4:(eJ y101 (-1) 360000)=true):aC Tp 0 tP (dV dl sk dc i) .ret (bO (dV dl sk dc i) [(2,(pI 3))]):=by
 have k1:=fk 1 (bP y100 1 999) rfl;have k2:=fk 1 (bP y101 (-1) 360000) rfl;exact aC.fi (gI [0,1,14,42] [0]) ([bT,.x (aA y100),k1.o]++rF 6++[.x (aA y101),bF,k2.o,bF,bT]) (gc h4 (gc h3 (gc k2 (gc h3 (gt ((sk.flatten.map aA)[((i*2)+1)]? = some (aA y101)) (bE (i:=i) (f:=1) h2 h1 rfl) (g2c h3 (gc (fQ (k:=2) (i:=(i:Int)) (by decide) h2 (kQ5 _) h1) (g4c h3 (gc k1 (gt ((sk.flatten.map aA)[(i*2)]? = some (aA y100)) (bE (i:=i) (f:=0) h2 h1 rfl) (gc (fQ (k:=2) (i:=(i:Int)) (by decide) h2 (kQ5 _) h1) (gc (aK h0) gn))))))))))))
theorem bFn(h0:(i:Int)<(sk.length:Int))(h1:sk[i]? = some [y100,y101])(h2:uni 2 sk)(h3:(eJ y100 1 999)=false)(h4:(eJ y101 (-1) 360000)=false)(h5:inR (((i+1):Nat):Int))(ei':i'=(i+1)):aC Tp 0 tP (dV dl sk dc i) .normal (dV dl sk dc i'):=by
 subst ei';have k1:=fk 1 (bP y100 1 999) rfl;have k2:=fk 1 (bP y101 (-1) 360000) rfl;exact aC.fi (gI [0,1,2,1,14,42] [0]) ([bT,.x (aA y100),k1.o]++rF 6++[.x (aA y101),bF,k2.o,bF,bF]) (gc h5 (gc h4 (gc h3 (gc k2 (gc h3 (gt ((sk.flatten.map aA)[((i*2)+1)]? = some (aA y101)) (bE (i:=i) (f:=1) h2 h1 rfl) (g2c h3 (gc (fQ (k:=2) (i:=(i:Int)) (by decide) h2 (kQ5 _) h1) (g4c h3 (gc k1 (gt ((sk.flatten.map aA)[(i*2)]? = some (aA y100)) (bE (i:=i) (f:=0) h2 h1 rfl) (gc (fQ (k:=2) (i:=(i:Int)) (by decide) h2 (kQ5 _) h1) (gc (aK h0) gn)))))))))))))
theorem bFo(h0:(sk.length:Int)≤(i:Int)):aC Tp 0 tP (dV dl sk dc i) (.exit 0) (dV dl sk dc i):=by
 exact aC.fi (gI [0,1,2,1,14,42] [0]) [bF] (gc (aN h0) gn)
theorem bFp(h0:(j:Int)<(dc.length:Int))(h1:dc[j]? = some [y200,y201,y202,y203,y204,y205])(h2:uni 6 dc)(h3:(eJ y200 1 9999)=true):aC Tp 0 mI (cQ dl sk dc j) .ret (bO (cQ dl sk dc j) [(2,(pI 3))]):=by
 have k1:=fk 2 (bP y200 1 9999) rfl;exact aC.fi (gI [0,1,3,1,5,1,14,90] [0]) [bT,.x (dcE y200 y201 y202 y203 y204 y205),k1.o,bT,bT,bT,bT] (g4c h3 (gc k1 (gfl h2 h1 (gc (aK h0) gn))))
theorem bFq(h0:(j:Int)<(dc.length:Int))(h1:dc[j]? = some [y200,y201,y202,y203,y204,y205])(h2:uni 6 dc)(h3:(eJ y200 1 9999)=false)(h4:(eJ y201 0 9)=true):aC Tp 0 mI (cQ dl sk dc j) .ret (bO (cQ dl sk dc j) [(2,(pI 3))]):=by
 have k1:=fk 2 (bP y200 1 9999) rfl;have k2:=fk 2 (bP y201 0 9) rfl;exact aC.fi (gI [0,1,3,1,5,1,14,90] [0]) [bT,.x (dcE y200 y201 y202 y203 y204 y205),k1.o,bF,bF,bF,k2.o,bF,bT,bT,bT,bT] (g4c h4 (gc h3 (gc k2 (g3c h3 (gc k1 (gfl h2 h1 (gc (aK h0) gn)))))))
theorem bFr(h0:(j:Int)<(dc.length:Int))(h1:dc[j]? = some [y200,y201,y202,y203,y204,y205])(h2:uni 6 dc)(h3:(eJ y200 1 9999)=false)(h4:(eJ y201 0 9)=false)(h5:(eJ y202 0 10000)=true):aC Tp 0 mI (cQ dl sk dc j) .ret (bO (cQ dl sk dc j) [(2,(pI 3))]):=by
 have k1:=fk 2 (bP y200 1 9999) rfl;have k2:=fk 2 (bP y201 0 9) rfl;have k3:=fk 2 (bP y202 0 10000) rfl;exact aC.fi (gI [0,1,3,1,5,1,14,90] [0]) [bT,.x (dcE y200 y201 y202 y203 y204 y205),k1.o,bF,bF,bF,k2.o,bF,bF,bF,bF,k3.o,bF,bT,bT,bT,bT] (g4c h5 (gc h4 (gc k3 (g3c h4 (gc h3 (gc k2 (g3c h3 (gc k1 (gfl h2 h1 (gc (aK h0) gn))))))))))
theorem bFs(h0:(j:Int)<(dc.length:Int))(h1:dc[j]? = some [y200,y201,y202,y203,y204,y205])(h2:uni 6 dc)(h3:(eJ y200 1 9999)=false)(h4:(eJ y201 0 9)=false)(h5:(eJ y202 0 10000)=false)(h6:(eJ y204 0 36000)=true):aC Tp 0 mI (cQ dl sk dc j) .ret (bO (cQ dl sk dc j) [(2,(pI 3))]):=by
 have k1:=fk 2 (bP y200 1 9999) rfl;have k2:=fk 2 (bP y201 0 9) rfl;have k3:=fk 2 (bP y202 0 10000) rfl;have k4:=fk 2 (bP y204 0 36000) rfl;exact aC.fi (gI [0,1,3,1,5,1,14,90] [0]) [bT,.x (dcE y200 y201 y202 y203 y204 y205),k1.o,bF,bF,bF,k2.o,bF,bF,bF,bF,k3.o,bF,bF,bF,bF,k4.o,bF,bT] (gc h6 (gc h5 (gc k4 (g3c h5 (gc h4 (gc k3 (g3c h4 (gc h3 (gc k2 (g3c h3 (gc k1 (gfl h2 h1 (gc (aK h0) gn)))))))))))))
theorem bFt(h0:(j:Int)<(dc.length:Int))(h1:dc[j]? = some [y200,y201,y202,y203,y204,y205])(h2:uni 6 dc)(h3:(eJ y200 1 9999)=false)(h4:(eJ y201 0 9)=false)(h5:(eJ y202 0 10000)=false)(h6:(eJ y204 0 36000)=false)(h7:(0:Int)<y204)(h8:y201=3):aC Tp 0 mI (cQ dl sk dc j) .ret (bO (cQ dl sk dc j) [(2,(pI 3))]):=by
 have k1:=fk 2 (bP y200 1 9999) rfl;have k2:=fk 2 (bP y201 0 9) rfl;have k3:=fk 2 (bP y202 0 10000) rfl;have k4:=fk 2 (bP y204 0 36000) rfl;exact aC.fi (gI [0,1,3,1,5,1,14,90] [0]) ([bT,.x (dcE y200 y201 y202 y203 y204 y205),k1.o,bF,bF,bF,k2.o,bF,bF,bF,bF,k3.o,bF,bF,bF,bF,k4.o,bF,bF]++rT 12) (g3c (aK h7) (gc (bL h8) (gc (aK h7) (g3c (bL h8) (g4c (aK h7) (gc h6 (gc h5 (gc k4 (g3c h5 (gc h4 (gc k3 (g3c h4 (gc h3 (gc k2 (g3c h3 (gc k1 (gfl h2 h1 (gc (aK h0) gn))))))))))))))))))
theorem bFu(h0:(j:Int)<(dc.length:Int))(h1:dc[j]? = some [y200,y201,y202,y203,y204,y205])(h2:uni 6 dc)(h3:(eJ y200 1 9999)=false)(h4:(eJ y201 0 9)=false)(h5:(eJ y202 0 10000)=false)(h6:(eJ y204 0 36000)=false)(h7:(0:Int)<y204)(h8:y201≠3)(h9:y201=5):aC Tp 0 mI (cQ dl sk dc j) .ret (bO (cQ dl sk dc j) [(2,(pI 3))]):=by
 have k1:=fk 2 (bP y200 1 9999) rfl;have k2:=fk 2 (bP y201 0 9) rfl;have k3:=fk 2 (bP y202 0 10000) rfl;have k4:=fk 2 (bP y204 0 36000) rfl;exact aC.fi (gI [0,1,3,1,5,1,14,90] [0]) ([bT,.x (dcE y200 y201 y202 y203 y204 y205),k1.o,bF,bF,bF,k2.o,bF,bF,bF,bF,k3.o,bF,bF,bF,bF,k4.o,bF,bF,bT,bT,bT,bT,bF,bF,bF,bT,bF]++rT 7) (gc (aK h7) (gc (bL h9) (gc (aK h7) (g3c (bL h9) (gc (aK h7) (gc (aV h8) (gc (aK h7) (g3c (aV h8) (g4c (aK h7) (gc h6 (gc h5 (gc k4 (g3c h5 (gc h4 (gc k3 (g3c h4 (gc h3 (gc k2 (g3c h3 (gc k1 (gfl h2 h1 (gc (aK h0) gn))))))))))))))))))))))
theorem bFv(h0:(j:Int)<(dc.length:Int))(h1:dc[j]? = some [y200,y201,y202,y203,y204,y205])(h2:uni 6 dc)(h3:(eJ y200 1 9999)=false)(h4:(eJ y201 0 9)=false)(h5:(eJ y202 0 10000)=false)(h6:(eJ y204 0 36000)=false)(h7:(0:Int)<y204)(h8:y201≠3)(h9:y201≠5)(h10:(6:Int)<y201):aC Tp 0 mI (cQ dl sk dc j) .ret (bO (cQ dl sk dc j) [(2,(pI 3))]):=by
 have k1:=fk 2 (bP y200 1 9999) rfl;have k2:=fk 2 (bP y201 0 9) rfl;have k3:=fk 2 (bP y202 0 10000) rfl;have k4:=fk 2 (bP y204 0 36000) rfl;exact aC.fi (gI [0,1,3,1,5,1,14,90] [0]) [bT,.x (dcE y200 y201 y202 y203 y204 y205),k1.o,bF,bF,bF,k2.o,bF,bF,bF,bF,k3.o,bF,bF,bF,bF,k4.o,bF,bF,bT,bT,bT,bT,bF,bF,bF,bT,bF,bT,bF,bF,bF,bT,bF,bT,bT] (gc (aK h10) (gc (aK h7) (gc (aV h9) (gc (aK h7) (g3c (aV h9) (gc (aK h7) (gc (aV h8) (gc (aK h7) (g3c (aV h8) (g4c (aK h7) (gc h6 (gc h5 (gc k4 (g3c h5 (gc h4 (gc k3 (g3c h4 (gc h3 (gc k2 (g3c h3 (gc k1 (gfl h2 h1 (gc (aK h0) gn)))))))))))))))))))))))
theorem bFw(h0:(j:Int)<(dc.length:Int))(h1:dc[j]? = some [y200,y201,y202,y203,y204,y205])(h2:uni 6 dc)(h3:(eJ y200 1 9999)=false)(h4:(eJ y201 0 9)=false)(h5:(eJ y202 0 10000)=false)(h6:(eJ y204 0 36000)=false)(h7:(0:Int)<y204)(h8:y201≠3)(h9:y201≠5)(h10:y201≤6)(h11:inR (((j+1):Nat):Int))(ej':j'=(j+1)):aC Tp 0 mI (cQ dl sk dc j) .normal (cQ dl sk dc j'):=by
 subst ej';have k1:=fk 2 (bP y200 1 9999) rfl;have k2:=fk 2 (bP y201 0 9) rfl;have k3:=fk 2 (bP y202 0 10000) rfl;have k4:=fk 2 (bP y204 0 36000) rfl;exact aC.fi (gI [0,1,2,2,5,1,14,90] [0]) [bT,.x (dcE y200 y201 y202 y203 y204 y205),k1.o,bF,bF,bF,k2.o,bF,bF,bF,bF,k3.o,bF,bF,bF,bF,k4.o,bF,bF,bT,bT,bT,bT,bF,bF,bF,bT,bF,bT,bF,bF,bF,bT,bF,bT,bF] (gc h11 (gc (aN h10) (gc (aK h7) (gc (aV h9) (gc (aK h7) (g3c (aV h9) (gc (aK h7) (gc (aV h8) (gc (aK h7) (g3c (aV h8) (g4c (aK h7) (gc h6 (gc h5 (gc k4 (g3c h5 (gc h4 (gc k3 (g3c h4 (gc h3 (gc k2 (g3c h3 (gc k1 (gfl h2 h1 (gc (aK h0) gn))))))))))))))))))))))))
theorem bFx(h0:(j:Int)<(dc.length:Int))(h1:dc[j]? = some [y200,y201,y202,y203,y204,y205])(h2:uni 6 dc)(h3:(eJ y200 1 9999)=false)(h4:(eJ y201 0 9)=false)(h5:(eJ y202 0 10000)=false)(h6:(eJ y204 0 36000)=false)(h7:y204≤0)(h8:inR (((j+1):Nat):Int))(ej':j'=(j+1)):aC Tp 0 mI (cQ dl sk dc j) .normal (cQ dl sk dc j'):=by
 subst ej';have k1:=fk 2 (bP y200 1 9999) rfl;have k2:=fk 2 (bP y201 0 9) rfl;have k3:=fk 2 (bP y202 0 10000) rfl;have k4:=fk 2 (bP y204 0 36000) rfl;exact aC.fi (gI [0,1,2,2,5,1,14,90] [0]) ([bT,.x (dcE y200 y201 y202 y203 y204 y205),k1.o,bF,bF,bF,k2.o,bF,bF,bF,bF,k3.o,bF,bF,bF,bF,k4.o]++rF 10) (gc h8 (g8c (aN h7) (gc h6 (gc h5 (gc k4 (g3c h5 (gc h4 (gc k3 (g3c h4 (gc h3 (gc k2 (g3c h3 (gc k1 (gfl h2 h1 (gc (aK h0) gn)))))))))))))))
theorem bFy(h0:(dc.length:Int)≤(j:Int)):aC Tp 0 mI (cQ dl sk dc j) (.exit 2) (cQ dl sk dc j):=by
 exact aC.fi (gI [0,1,2,2,5,1,14,90] [0]) [bF] (gc (aN h0) gn)
def iH(dl:Int)(sk:Lqq)(dc:Lqq)(a:Nat)(b:Nat):St:=⟨fr 219 [(1,(.ptr 0 0)),(6,(pI (a:Int))),(7,(pI (b:Int))),(104,(pI (a:Int))),(105,(.ptr 0 1)),(106,(.p (fS sk))),(107,(pI (sk.length:Int))),(108,(pB (decide ((a:Int)<(sk.length:Int)))))],[some (.box 61 [(pI dl),(.p (fS sk)),(.p (fS dc))])]⟩
theorem bFz{a':Nat}(h0:(a:Int)<(sk.length:Int))(hl1:aE Tp 0 aQg (iH dl sk dc a 0) (.exit 6) (iH dl sk dc a b'300))(h2:inR (((a+1):Nat):Int))(ea':a'=(a+1)):aC Tp 0 aBk (eY dl sk dc a) .normal (eY dl sk dc a'):=by
 subst ea';exact aC.fi (gI [0,1,2,4,7,1,14,115] [0]) [bT,hl1.k 5 (gI [0,1,2,4,14,90,111,18] [0])] (gc h2 (gc hl1.code (gc (aK h0) gn)))
theorem bGa(h0:(a:Int)<(sk.length:Int))(hl1:aE Tp 0 aQg (iH dl sk dc a 0) .ret (bO (iH dl sk dc a b'300) [(2,(pI 5))])):aC Tp 0 aBk (eY dl sk dc a) .ret (bO (eY dl sk dc a) [(2,(pI 5))]):=by
 exact aC.fi (gI [0,1,3,3,7,1,14,115] [0]) [bT,hl1.k 5 (gI [0,1,2,4,14,90,111,18] [0])] (gc hl1.code (gc (aK h0) gn))
theorem bGb(h0:(sk.length:Int)≤(a:Int)):aC Tp 0 aBk (eY dl sk dc a) (.exit 4) (eY dl sk dc a):=by
 exact aC.fi (gI [0,1,2,4,7,1,14,115] [0]) [bF] (gc (aN h0) gn)
def iI(dl:Int)(sk:Lqq)(dc:Lqq)(c:Nat)(d:Nat):St:=⟨fr 219 [(1,(.ptr 0 0)),(8,(pI (c:Int))),(9,(pI (d:Int))),(129,(pI (c:Int))),(130,(.ptr 0 2)),(131,(.p (fS dc))),(132,(pI (dc.length:Int))),(133,(pB (decide ((c:Int)<(dc.length:Int)))))],[some (.box 61 [(pI dl),(.p (fS sk)),(.p (fS dc))])]⟩
theorem bGc{c':Nat}(h0:(c:Int)<(dc.length:Int))(hl1:aE Tp 0 aQh (iI dl sk dc c 0) (.exit 10) (iI dl sk dc c d'500))(h2:inR (((c+1):Nat):Int))(ec':c'=(c+1)):aC Tp 0 aFd (fH dl sk dc c) .normal (fH dl sk dc c'):=by
 subst ec';exact aC.fi (gI [0,1,2,6,9,1,14,140] [0]) [bT,hl1.k 5 (gI [0,1,2,6,14,115,136,18] [0])] (gc h2 (gc hl1.code (gc (aK h0) gn)))
theorem bGd(h0:(c:Int)<(dc.length:Int))(hl1:aE Tp 0 aQh (iI dl sk dc c 0) .ret (bO (iI dl sk dc c d'500) [(2,(pI 5))])):aC Tp 0 aFd (fH dl sk dc c) .ret (bO (fH dl sk dc c) [(2,(pI 5))]):=by
 exact aC.fi (gI [0,1,3,5,9,1,14,140] [0]) [bT,hl1.k 5 (gI [0,1,2,6,14,115,136,18] [0])] (gc hl1.code (gc (aK h0) gn))
theorem bGe(h0:(dc.length:Int)≤(c:Int)):aC Tp 0 aFd (fH dl sk dc c) (.exit 8) (fH dl sk dc c):=by
 exact aC.fi (gI [0,1,2,6,9,1,14,140] [0]) [bF] (gc (aN h0) gn)
theorem bGf(h0:(e:Int)<(dc.length:Int))(h1:dc[e]? = some [y700,y701,y702,y703,y704,y705])(h2:uni 6 dc)(h3:(4:Int)<y701)(h4:y703≠0):aC Tp 0 aBl (eZ dl sk dc e) .ret (bO (eZ dl sk dc e) [(2,(pI 1))]):=by
 exact aC.fi (gI [0,1,3,7,11,1,14,172] [0]) ([bT,.x (dcE y700 y701 y702 y703 y704 y705)]++rT 10) (g6c (cZ h4) (g4c (aK h3) (gfl h2 h1 (gc (aK h0) gn))))
theorem bGg(h0:(e:Int)<(dc.length:Int))(h1:dc[e]? = some [y700,y701,y702,y703,y704,y705])(h2:uni 6 dc)(h3:(4:Int)<y701)(h4:y703=0)(h5:(5:Int)≤y701)(h6:inR (((e+1):Nat):Int))(ee':e'=(e+1)):aC Tp 0 aBl (eZ dl sk dc e) .normal (eZ dl sk dc e'):=by
 subst ee';exact aC.fi (gI [0,1,2,8,11,1,14,172] [0]) ([bT,.x (dcE y700 y701 y702 y703 y704 y705),bT,bT,bT,bT]++rF 12) (gc h6 (gc (aS h4) (gc (aN h5) (gc (aS h4) (g5c (aN h5) (g4c (aS h4) (g4c (aK h3) (gfl h2 h1 (gc (aK h0) gn)))))))))
theorem bGh(h0:(e:Int)<(dc.length:Int))(h1:dc[e]? = some [y700,y701,y702,y703,y704,y705])(h2:uni 6 dc)(h3:y701≤4)(h4:y701<5)(h5:uni 2 sk)(h6:sk.length≤1000)(h7:(bJ (fun x=>decide (x.getD 0 0=y703)) sk)<0):aC Tp 0 aBl (eZ dl sk dc e) .ret (bO (eZ dl sk dc e) [(2,(pI 1))]):=by
 have k1:=fk 2 (aUx dl sk dc y703 h5 h6) rfl;exact aC.fi (gI [0,1,3,7,11,1,14,172] [0]) [bT,.x (dcE y700 y701 y702 y703 y704 y705),bF,bF,bF,bF,bT,bT,bT,bT,k1.o,bT,bT,bT] (gc (aK h7) (g2c (aK h4) (gc k1 (g4c (aK h4) (g4c (aN h3) (gfl h2 h1 (gc (aK h0) gn)))))))
theorem bGi(h0:(e:Int)<(dc.length:Int))(h1:dc[e]? = some [y700,y701,y702,y703,y704,y705])(h2:uni 6 dc)(h3:y701≤4)(h4:y701<5)(h5:uni 2 sk)(h6:sk.length≤1000)(h7:(0:Int)≤(bJ (fun x=>decide (x.getD 0 0=y703)) sk))(h8:inR (((e+1):Nat):Int))(ee':e'=(e+1)):aC Tp 0 aBl (eZ dl sk dc e) .normal (eZ dl sk dc e'):=by
 subst ee';have k1:=fk 2 (aUx dl sk dc y703 h5 h6) rfl;exact aC.fi (gI [0,1,2,8,11,1,14,172] [0]) [bT,.x (dcE y700 y701 y702 y703 y704 y705),bF,bF,bF,bF,bT,bT,bT,bT,k1.o,bT,bT,bF] (gc h8 (gc (aN h7) (g2c (aK h4) (gc k1 (g4c (aK h4) (g4c (aN h3) (gfl h2 h1 (gc (aK h0) gn))))))))
theorem bGj(h0:(dc.length:Int)≤(e:Int)):aC Tp 0 aBl (eZ dl sk dc e) (.exit 12) (eZ dl sk dc e):=by
 exact aC.fi (gI [0,1,2,8,11,1,14,172] [0]) [bF] (gc (aN h0) gn)
theorem bGk(h0:(f:Int)<(dc.length:Int))(h1:dc[f]? = some [y800,y801,y802,y803,y804,y805])(h2:uni 6 dc)(h3:y801<5)(h4:y805≠0):aC Tp 0 aFe (fJ dl sk dc f) .ret (bO (fJ dl sk dc f) [(2,(pI 4))]):=by
 exact aC.fi (gI [0,1,3,9,13,206] [0]) ([bT,.x (dcE y800 y801 y802 y803 y804 y805)]++rT 10) (g6c (cZ h4) (g4c (aK h3) (gfl h2 h1 (gc (aK h0) gn))))
theorem bGl(h0:(f:Int)<(dc.length:Int))(h1:dc[f]? = some [y800,y801,y802,y803,y804,y805])(h2:uni 6 dc)(h3:y801<5)(h4:y805=0)(h5:y801≤4)(h6:inR (((f+1):Nat):Int))(ef':f'=(f+1)):aC Tp 0 aFe (fJ dl sk dc f) .normal (fJ dl sk dc f'):=by
 subst ef';exact aC.fi (gI [0,1,2,10,13,206] [0]) ([bT,.x (dcE y800 y801 y802 y803 y804 y805),bT,bT,bT,bT]++rF 13) (gc h6 (gc (aS h4) (gc (aN h5) (gc (aS h4) (g6c (aN h5) (g4c (aS h4) (g4c (aK h3) (gfl h2 h1 (gc (aK h0) gn)))))))))
theorem bGm(h0:(f:Int)<(dc.length:Int))(h1:dc[f]? = some [y800,y801,y802,y803,y804,y805])(h2:uni 6 dc)(h3:(5:Int)≤y801)(h4:(4:Int)<y801)(h5:inR (y800-1))(h6:(eJ y805 1 (y800-1))=true):aC Tp 0 aFe (fJ dl sk dc f) .ret (bO (fJ dl sk dc f) [(2,(pI 4))]):=by
 have k1:=fk 2 (bP y805 1 (y800-1)) rfl;exact aC.fi (gI [0,1,3,9,13,206] [0]) ([bT,.x (dcE y800 y801 y802 y803 y804 y805),bF,bF,bF,bF]++rT 6++[k1.o,bT,bT]) (gc h6 (gc (aK h4) (gc k1 (gc (aK h4) (gc h5 (g5c (aK h4) (g4c (aN h3) (gfl h2 h1 (gc (aK h0) gn)))))))))
theorem bGn(h0:(f:Int)<(dc.length:Int))(h1:dc[f]? = some [y800,y801,y802,y803,y804,y805])(h2:uni 6 dc)(h3:(5:Int)≤y801)(h4:(4:Int)<y801)(h5:inR (y800-1))(h6:(eJ y805 1 (y800-1))=false)(h7:inR (((f+1):Nat):Int))(ef':f'=(f+1)):aC Tp 0 aFe (fJ dl sk dc f) .normal (fJ dl sk dc f'):=by
 subst ef';have k1:=fk 2 (bP y805 1 (y800-1)) rfl;exact aC.fi (gI [0,1,2,10,13,206] [0]) ([bT,.x (dcE y800 y801 y802 y803 y804 y805),bF,bF,bF,bF]++rT 6++[k1.o,bT,bF]) (gc h7 (gc h6 (gc (aK h4) (gc k1 (gc (aK h4) (gc h5 (g5c (aK h4) (g4c (aN h3) (gfl h2 h1 (gc (aK h0) gn))))))))))
theorem bGo(h0:(dc.length:Int)≤(f:Int)):aC Tp 0 aFe (fJ dl sk dc f) (.exit 14) (fJ dl sk dc f):=by
 exact aC.fi (gI [0,1,2,10,13,206] [0]) [bF] (gc (aN h0) gn)
theorem bGp(h0:(b:Int)<(a:Int))(h1:sk[a]? = some [y400,y401])(h2:uni 2 sk)(h3:sk[b]? = some [y402,y403])(h4:y400=y402):aC Tp 0 aQg (iH dl sk dc a b) .ret (bO (iH dl sk dc a b) [(2,(pI 5))]):=by
 exact aC.fi (gI [0,1,3,3,14,90,111,18] [0]) [bT,.x (aA y400),.x (aA y402),bT] (gc (bL h4) (gt ((sk.flatten.map aA)[(b*2)]? = some (aA y402)) (bE (i:=b) (f:=0) h2 h3 rfl) (gc (fQ (k:=2) (i:=(b:Int)) (by decide) h2 (kQ5 _) h3) (gt ((sk.flatten.map aA)[(a*2)]? = some (aA y400)) (bE (i:=a) (f:=0) h2 h1 rfl) (gc (fQ (k:=2) (i:=(a:Int)) (by decide) h2 (kQ5 _) h1) (gc (aK h0) gn))))))
theorem bGq{b':Nat}(h0:(b:Int)<(a:Int))(h1:sk[a]? = some [y400,y401])(h2:uni 2 sk)(h3:sk[b]? = some [y402,y403])(h4:y400≠y402)(h5:inR (((b+1):Nat):Int))(eb':b'=(b+1)):aC Tp 0 aQg (iH dl sk dc a b) .normal (iH dl sk dc a b'):=by
 subst eb';exact aC.fi (gI [0,1,2,4,14,90,111,18] [0]) [bT,.x (aA y400),.x (aA y402),bF] (gc h5 (gc (aV h4) (gt ((sk.flatten.map aA)[(b*2)]? = some (aA y402)) (bE (i:=b) (f:=0) h2 h3 rfl) (gc (fQ (k:=2) (i:=(b:Int)) (by decide) h2 (kQ5 _) h3) (gt ((sk.flatten.map aA)[(a*2)]? = some (aA y400)) (bE (i:=a) (f:=0) h2 h1 rfl) (gc (fQ (k:=2) (i:=(a:Int)) (by decide) h2 (kQ5 _) h1) (gc (aK h0) gn)))))))
theorem bGr(h0:(a:Int)≤(b:Int)):aC Tp 0 aQg (iH dl sk dc a b) (.exit 6) (iH dl sk dc a b):=by
 exact aC.fi (gI [0,1,2,4,14,90,111,18] [0]) [bF] (gc (aN h0) gn)
theorem bGs(h0:(d:Int)<(c:Int))(h1:dc[c]? = some [y600,y601,y602,y603,y604,y605])(h2:uni 6 dc)(h3:dc[d]? = some [y606,y607,y608,y609,y610,y611])(h4:y600=y606):aC Tp 0 aQh (iI dl sk dc c d) .ret (bO (iI dl sk dc c d) [(2,(pI 5))]):=by
 exact aC.fi (gI [0,1,3,5,14,115,136,18] [0]) [bT,.x (aA y600),.x (aA y606),bT] (gc (bL h4) (gt ((dc.flatten.map aA)[(d*6)]? = some (aA y606)) (bE (i:=d) (f:=0) h2 h3 rfl) (gc (fQ (k:=6) (i:=(d:Int)) (by decide) h2 (kQ5 _) h3) (gt ((dc.flatten.map aA)[(c*6)]? = some (aA y600)) (bE (i:=c) (f:=0) h2 h1 rfl) (gc (fQ (k:=6) (i:=(c:Int)) (by decide) h2 (kQ5 _) h1) (gc (aK h0) gn))))))
theorem bGt{d':Nat}(h0:(d:Int)<(c:Int))(h1:dc[c]? = some [y600,y601,y602,y603,y604,y605])(h2:uni 6 dc)(h3:dc[d]? = some [y606,y607,y608,y609,y610,y611])(h4:y600≠y606)(h5:inR (((d+1):Nat):Int))(ed':d'=(d+1)):aC Tp 0 aQh (iI dl sk dc c d) .normal (iI dl sk dc c d'):=by
 subst ed';exact aC.fi (gI [0,1,2,6,14,115,136,18] [0]) [bT,.x (aA y600),.x (aA y606),bF] (gc h5 (gc (aV h4) (gt ((dc.flatten.map aA)[(d*6)]? = some (aA y606)) (bE (i:=d) (f:=0) h2 h3 rfl) (gc (fQ (k:=6) (i:=(d:Int)) (by decide) h2 (kQ5 _) h3) (gt ((dc.flatten.map aA)[(c*6)]? = some (aA y600)) (bE (i:=c) (f:=0) h2 h1 rfl) (gc (fQ (k:=6) (i:=(c:Int)) (by decide) h2 (kQ5 _) h1) (gc (aK h0) gn)))))))
theorem bGu(h0:(c:Int)≤(d:Int)):aC Tp 0 aQh (iI dl sk dc c d) (.exit 10) (iI dl sk dc c d):=by
 exact aC.fi (gI [0,1,2,6,14,115,136,18] [0]) [bF] (gc (aN h0) gn)
end
section

def mS(f:Lqq)(i:Nat):Int:=(f.getD i []).getD 0 0
theorem rK(f:Lqq):(aP f 0).Nodup↔∀ a,a<f.length→∀ b,b<a→mS f a≠mS f b:=by
 have hk:∀ i (h:i<f.length),mS f i=(aP f 0)[i]'(by rw [mT];exact h):=fun i h=>by simp [mS,aP,kQ4,kQ0 h]
 constructor
 ·intro h a ha b hb he
  have:=List.pairwise_iff_getElem.1 h b a (by rw [mT];omega) (by rw [mT];omega) hb
  rw [hk a ha,hk b (by omega)] at he
  exact this he.symm
 ·intro h
  refine List.pairwise_iff_getElem.2 fun i j hi hj hij he => ?_
  rw [mT] at hi hj
  exact h j hj i hij (by rw [hk j hj,hk i hi,he])
theorem rsin(dl:Int)(sk dc:Lqq)(hu:uni 2 sk)(hl:sk.length≤1000)(i:Nat)(hi:i<sk.length) :
  (∃ j,(List.range i).any (fun j=>decide (mS sk i=mS sk j))=true∧aE Tp 0 (sub (cd Tryz.f31) [1,1,1,1,1,0,1,0,0,1,0,0,1,0,0]) (iH dl sk dc i 0) .ret (bO (iH dl sk dc i j) [(2,.p (aA 5))]))∨((List.range i).any (fun j=>decide (mS sk i=mS sk j))=false∧aE Tp 0 (sub (cd Tryz.f31) [1,1,1,1,1,0,1,0,0,1,0,0,1,0,0]) (iH dl sk dc i 0) (.exit 6) (iH dl sk dc i i)):=by
 have hx:∀ j,j<sk.length→∃ x,sk[j]? = some x∧x.length=2∧mS sk j=x.getD 0 0:=fun j hj=>⟨sk[j],kQ0 hj,hu _ (gD hj),by simp [mS,kQ4,kQ0 hj]⟩
 rcases aE.find (P:=Tp) (k:=0) (b:=(sub (cd Tryz.f31) [1,1,1,1,1,0,1,0,0,1,0,0,1,0,0])) (fun j=>iH dl sk dc i j) (fun j _=>bO (iH dl sk dc i j) [(2,.p (aA 5))]) (iH dl sk dc i i) .ret (.exit 6) (by simp) (by simp) (fun j=>decide (mS sk i=mS sk j)) (List.range i)
  (fun j x hj hp=>by
   have hji:j<i:=by have:=aL hj;simpa using this
   have hxj:x=j:=by rw [nH hji] at hj;exact (Option.some.inj hj).symm
   subst hxj;obtain ⟨y,hy,ly,ky⟩:=hx i hi;obtain ⟨z,hz,lz,kz⟩:=hx x (by omega)
   obtain ⟨a,b,rfl⟩:=len2 ly;obtain ⟨c,d,rfl⟩:=len2 lz;have he:=of_decide_eq_false hp;rw [ky,kz] at he
   exact bGq (by omega) hy hu hz he (aH (by omega)) rfl)
  (fun j x hj hp=>by
   have hji:j<i:=by have:=aL hj;simpa using this
   have hxj:x=j:=by rw [nH hji] at hj;exact (Option.some.inj hj).symm
   subst hxj;obtain ⟨y,hy,ly,ky⟩:=hx i hi;obtain ⟨z,hz,lz,kz⟩:=hx x (by omega)
   obtain ⟨a,b,rfl⟩:=len2 ly;obtain ⟨c,d,rfl⟩:=len2 lz;have he:=of_decide_eq_true hp;rw [ky,kz] at he
   exact bGp (by omega) hy hu hz he)
  (by rw [aHf];exact bGr (by omega)) with ⟨j,x,h1,h2,h3,h4⟩ | ⟨h1,h2,h3⟩
 ·exact .inl ⟨j,List.any_eq_true.2 ⟨x,kQ1 h1,h3⟩,h4⟩
 ·exact .inr ⟨h2,h3⟩
theorem rso(dl:Int)(sk dc:Lqq)(hu:uni 2 sk)(hl:sk.length≤1000) :
  (¬ (aP sk 0).Nodup∧∃ i,aE Tp 0 (sub (cd Tryz.f31) [1,1,1,1,1,0,1,0,0]) (eY dl sk dc 0) .ret (bO (eY dl sk dc i) [(2,.p (aA 5))]))∨((aP sk 0).Nodup∧aE Tp 0 (sub (cd Tryz.f31) [1,1,1,1,1,0,1,0,0]) (eY dl sk dc 0) (.exit 4) (eY dl sk dc sk.length)):=by
 rcases aE.find (P:=Tp) (k:=0) (b:=(sub (cd Tryz.f31) [1,1,1,1,1,0,1,0,0])) (fun i=>eY dl sk dc i) (fun i _=>bO (eY dl sk dc i) [(2,.p (aA 5))]) (eY dl sk dc sk.length) .ret (.exit 4) (by simp) (by simp) (fun i=>(List.range i).any fun j=>decide (mS sk i=mS sk j)) (List.range sk.length)
  (fun i x hj hp=>by
   have hi:i<sk.length:=by have:=aL hj;simpa using this
   have hxj:x=i:=by rw [nH hi] at hj;exact (Option.some.inj hj).symm
   subst hxj
   rcases rsin dl sk dc hu hl x hi with ⟨j,h,_⟩ | ⟨_,h⟩
   ·rw [h] at hp;cases hp
   ·exact bFz (by omega) h (aH (by omega)) rfl)
  (fun i x hj hp=>by
   have hi:i<sk.length:=by have:=aL hj;simpa using this
   have hxj:x=i:=by rw [nH hi] at hj;exact (Option.some.inj hj).symm
   subst hxj
   rcases rsin dl sk dc hu hl x hi with ⟨j,_,h⟩ | ⟨h,_⟩
   ·exact bGa (by omega) h
   ·rw [h] at hp;cases hp)
  (by rw [aHf];exact bGb (by omega)) with ⟨i,x,h1,h2,h3,h4⟩ | ⟨h1,h2,h3⟩
 ·refine .inl ⟨fun hn => ?_,i,h4⟩
  have hi:i<sk.length:=by have:=aL h1;simpa using this
  have hxj:x=i:=by rw [nH hi] at h1;exact (Option.some.inj h1).symm
  subst hxj;obtain ⟨j,hj,he⟩:=List.any_eq_true.1 h3;exact (rK sk).1 hn x hi j (by simpa using hj) (of_decide_eq_true he)
 ·refine .inr ⟨(rK sk).2 fun i hi j hj he => ?_,h3⟩
  have:=List.any_eq_false.1 h2 i (oV.2 hi);exact this (List.any_eq_true.2 ⟨j,oV.2 hj,decide_eq_true he⟩)
theorem rdin(dl:Int)(sk dc:Lqq)(hu:uni 6 dc)(hl:dc.length≤1000)(i:Nat)(hi:i<dc.length) :
  (∃ j,(List.range i).any (fun j=>decide (mS dc i=mS dc j))=true∧aE Tp 0 (sub (cd Tryz.f31) [1,1,1,1,1,1,0,1,0,0,1,0,0,1,0,0]) (iI dl sk dc i 0) .ret (bO (iI dl sk dc i j) [(2,.p (aA 5))]))∨((List.range i).any (fun j=>decide (mS dc i=mS dc j))=false∧aE Tp 0 (sub (cd Tryz.f31) [1,1,1,1,1,1,0,1,0,0,1,0,0,1,0,0]) (iI dl sk dc i 0) (.exit 10) (iI dl sk dc i i)):=by
 have hx:∀ j,j<dc.length→∃ x,dc[j]? = some x∧x.length=6∧mS dc j=x.getD 0 0:=fun j hj=>⟨dc[j],kQ0 hj,hu _ (gD hj),by simp [mS,kQ4,kQ0 hj]⟩
 rcases aE.find (P:=Tp) (k:=0) (b:=(sub (cd Tryz.f31) [1,1,1,1,1,1,0,1,0,0,1,0,0,1,0,0])) (fun j=>iI dl sk dc i j) (fun j _=>bO (iI dl sk dc i j) [(2,.p (aA 5))]) (iI dl sk dc i i) .ret (.exit 10) (by simp) (by simp) (fun j=>decide (mS dc i=mS dc j)) (List.range i)
  (fun j x hj hp=>by
   have hji:j<i:=by have:=aL hj;simpa using this
   have hxj:x=j:=by rw [nH hji] at hj;exact (Option.some.inj hj).symm
   subst hxj;obtain ⟨y,hy,ly,ky⟩:=hx i hi;obtain ⟨z,hz,lz,kz⟩:=hx x (by omega)
   obtain ⟨a,b,c,d,e,g,rfl⟩:=len6 ly;obtain ⟨a',b',c',d',e',g',rfl⟩:=len6 lz;have he:=of_decide_eq_false hp;rw [ky,kz] at he
   exact bGt (by omega) hy hu hz he (aH (by omega)) rfl)
  (fun j x hj hp=>by
   have hji:j<i:=by have:=aL hj;simpa using this
   have hxj:x=j:=by rw [nH hji] at hj;exact (Option.some.inj hj).symm
   subst hxj;obtain ⟨y,hy,ly,ky⟩:=hx i hi;obtain ⟨z,hz,lz,kz⟩:=hx x (by omega)
   obtain ⟨a,b,c,d,e,g,rfl⟩:=len6 ly;obtain ⟨a',b',c',d',e',g',rfl⟩:=len6 lz;have he:=of_decide_eq_true hp;rw [ky,kz] at he
   exact bGs (by omega) hy hu hz he)
  (by rw [aHf];exact bGu (by omega)) with ⟨j,x,h1,h2,h3,h4⟩ | ⟨h1,h2,h3⟩
 ·exact .inl ⟨j,List.any_eq_true.2 ⟨x,kQ1 h1,h3⟩,h4⟩
 ·exact .inr ⟨h2,h3⟩
theorem rdo(dl:Int)(sk dc:Lqq)(hu:uni 6 dc)(hl:dc.length≤1000) :
  (¬ (aP dc 0).Nodup∧∃ i,aE Tp 0 (sub (cd Tryz.f31) [1,1,1,1,1,1,0,1,0,0]) (fH dl sk dc 0) .ret (bO (fH dl sk dc i) [(2,.p (aA 5))]))∨((aP dc 0).Nodup∧aE Tp 0 (sub (cd Tryz.f31) [1,1,1,1,1,1,0,1,0,0]) (fH dl sk dc 0) (.exit 8) (fH dl sk dc dc.length)):=by
 rcases aE.find (P:=Tp) (k:=0) (b:=(sub (cd Tryz.f31) [1,1,1,1,1,1,0,1,0,0])) (fun i=>fH dl sk dc i) (fun i _=>bO (fH dl sk dc i) [(2,.p (aA 5))]) (fH dl sk dc dc.length) .ret (.exit 8) (by simp) (by simp) (fun i=>(List.range i).any fun j=>decide (mS dc i=mS dc j)) (List.range dc.length)
  (fun i x hj hp=>by
   have hi:i<dc.length:=by have:=aL hj;simpa using this
   have hxj:x=i:=by rw [nH hi] at hj;exact (Option.some.inj hj).symm
   subst hxj
   rcases rdin dl sk dc hu hl x hi with ⟨j,h,_⟩ | ⟨_,h⟩
   ·rw [h] at hp;cases hp
   ·exact bGc (by omega) h (aH (by omega)) rfl)
  (fun i x hj hp=>by
   have hi:i<dc.length:=by have:=aL hj;simpa using this
   have hxj:x=i:=by rw [nH hi] at hj;exact (Option.some.inj hj).symm
   subst hxj
   rcases rdin dl sk dc hu hl x hi with ⟨j,_,h⟩ | ⟨h,_⟩
   ·exact bGd (by omega) h
   ·rw [h] at hp;cases hp)
  (by rw [aHf];exact bGe (by omega)) with ⟨i,x,h1,h2,h3,h4⟩ | ⟨h1,h2,h3⟩
 ·refine .inl ⟨fun hn => ?_,i,h4⟩
  have hi:i<dc.length:=by have:=aL h1;simpa using this
  have hxj:x=i:=by rw [nH hi] at h1;exact (Option.some.inj h1).symm
  subst hxj;obtain ⟨j,hj,he⟩:=List.any_eq_true.1 h3;exact (rK dc).1 hn x hi j (by simpa using hj) (of_decide_eq_true he)
 ·refine .inr ⟨(rK dc).2 fun i hi j hj he => ?_,h3⟩
  have:=List.any_eq_false.1 h2 i (oV.2 hi);exact this (List.any_eq_true.2 ⟨j,oV.2 hj,decide_eq_true he⟩)
theorem jQ{n a b:Int}(h:within n a b=true):eJ n a b=false:=by unfold eJ;rw [h];rfl
theorem aQf{n a b:Int}(h:within n a b=false):eJ n a b=true:=by unfold eJ;rw [h];rfl
theorem aUw(a b:Int):skB [a,b]=(within a 1 999 && within b (-1) 360000):=rfl
theorem r0(dl:Int)(sk dc:Lqq)(hu:uni 2 sk)(hl:sk.length≤1000):(sk.all skB=false∧∃ i,aE Tp 0 (sub (cd Tryz.f31) [1,1,1,0,1,0,0]) (dV dl sk dc 0) .ret (bO (dV dl sk dc i) [(2,.p (aA 3))]))∨(sk.all skB=true∧aE Tp 0 (sub (cd Tryz.f31) [1,1,1,0,1,0,0]) (dV dl sk dc 0) (.exit 0) (dV dl sk dc sk.length)):=by
 rcases aE.find (P:=Tp) (k:=0) (b:=(sub (cd Tryz.f31) [1,1,1,0,1,0,0])) (fun i=>dV dl sk dc i) (fun i _=>bO (dV dl sk dc i) [(2,.p (aA 3))]) (dV dl sk dc sk.length) .ret (.exit 0) (by simp) (by simp) (fun x => !skB x) sk
  (fun i x hx hp=>by
   obtain ⟨a,b,rfl⟩:=len2 (hu _ (kQ1 hx));have hp:skB [a,b]=true:=by simpa using hp
   rw [aUw,kQ6] at hp
   have:=aL hx;exact bFn (by omega) hx hu (jQ hp.1) (jQ hp.2) (aH (by omega)) rfl)
  (fun i x hx hp=>by
   obtain ⟨a,b,rfl⟩:=len2 (hu _ (kQ1 hx));have hp:skB [a,b]=false:=by simpa using hp
   have:=aL hx;rw [aUw] at hp
   cases h1:within a 1 999 with
   | false=>exact bFl (by omega) hx hu (aQf h1)
   | true=>rw [h1,gS] at hp;exact bFm (by omega) hx hu (jQ h1) (aQf hp))
  (bFo (by omega)) with ⟨i,x,h1,h2,h3,h4⟩ | ⟨h1,h2,h3⟩
 ·exact .inl ⟨by rw [← aCr,dW h2];simp,i,h4⟩
 ·exact .inr ⟨by rw [List.all_eq_not_any_not,h2];rfl,h3⟩
theorem r1 (dl:Int) (sk dc:Lqq) (hu:uni 6 dc) (hl:dc.length≤1000):(dc.all dcB=false∧∃ i,aE Tp 0 (sub (cd Tryz.f31) [1,1,1,1,0,1,0,0]) (cQ dl sk dc 0) .ret (bO (cQ dl sk dc i) [(2,.p (aA 3))]))∨(dc.all dcB=true∧aE Tp 0 (sub (cd Tryz.f31) [1,1,1,1,0,1,0,0]) (cQ dl sk dc 0) (.exit 2) (cQ dl sk dc dc.length)):=by
 rcases aE.find (P:=Tp) (k:=0) (b:=(sub (cd Tryz.f31) [1,1,1,1,0,1,0,0])) (fun i=>cQ dl sk dc i) (fun i _=>bO (cQ dl sk dc i) [(2,.p (aA 3))]) (cQ dl sk dc dc.length) .ret (.exit 2) (by simp) (by simp) (fun x => !dcB x) dc
  (fun i x hx hp=>by
   obtain ⟨a,b,c,d,e,f,rfl⟩:=len6 (hu _ (kQ1 hx));have hp:dcB [a,b,c,d,e,f]=true:=by simpa using hp
   rw [gX,kQ6,kQ6,kQ6] at hp
   obtain ⟨p1,p2,p3,p4⟩:=hp;have:=aL hx;have q2:=bV.1 p2;have q4:=bV.1 p4;have hm:within e 0 36000=true:=bV.2 ⟨q4.1,by have:=q4.2;unfold mJ at this;split at this <;> omega⟩
   by_cases he:0<e
   ·have hk:¬ (b=3∨¬ b≤4∧b≠6):=fun h=>by
     have:=q4.2;unfold mJ at this
     rw [if_pos h] at this
     omega
    exact bFw (by omega) hx hu (jQ p1) (jQ p2) (jQ p3) (jQ hm) he (by omega) (by omega) (by omega) (aH (by omega)) rfl
   ·exact bFx (by omega) hx hu (jQ p1) (jQ p2) (jQ p3) (jQ hm) (by omega) (aH (by omega)) rfl)
  (fun i x hx hp=>by
   obtain ⟨a,b,c,d,e,f,rfl⟩:=len6 (hu _ (kQ1 hx));have hp:dcB [a,b,c,d,e,f]=false:=by simpa using hp
   have:=aL hx;rw [gX] at hp
   cases p1:within a 1 9999 with
   | false=>exact bFp (by omega) hx hu (aQf p1)
   | true =>
   cases p2:within b 0 9 with
   | false=>exact bFq (by omega) hx hu (jQ p1) (aQf p2)
   | true =>
   cases p3:within c 0 10000 with
   | false=>exact bFr (by omega) hx hu (jQ p1) (jQ p2) (aQf p3)
   | true =>
   cases p4:within e 0 36000 with
   | false=>exact bFs (by omega) hx hu (jQ p1) (jQ p2) (jQ p3) (aQf p4)
   | true =>
    rw [p1,p2,p3,gS,gS,gS] at hp
    have q2:=bV.1 p2;have q4:=bV.1 p4;have hk:(b=3∨¬ b≤4∧b≠6)∧0<e:=by
     unfold mJ at hp
     split at hp
     ·rename_i hk
      refine ⟨hk,?_⟩
      rcases Int.lt_or_le 0 e with h | h
      ·exact h
      ·rw [bV.2 ⟨q4.1,h⟩] at hp;cases hp
     ·rw [p4] at hp;cases hp
    by_cases h3:b=3
    ·exact bFt (by omega) hx hu (jQ p1) (jQ p2) (jQ p3) (jQ p4) hk.2 h3
    ·by_cases h5:b=5
     ·exact bFu (by omega) hx hu (jQ p1) (jQ p2) (jQ p3) (jQ p4) hk.2 h3 h5
     ·exact bFv (by omega) hx hu (jQ p1) (jQ p2) (jQ p3) (jQ p4) hk.2 h3 h5 (by omega))
  (bFy (by omega)) with ⟨i,x,h1,h2,h3,h4⟩ | ⟨h1,h2,h3⟩
 ·exact .inl ⟨by rw [← aCr,dW h2];simp,i,h4⟩
 ·exact .inr ⟨by rw [List.all_eq_not_any_not,h2];rfl,h3⟩
theorem aZl(sk:Lqq)(v:Int):decide (0≤bJ (fun x=>decide (x.getD 0 0=v)) sk)=(aP sk 0).contains v:=by
 have:=kL (fun x:List Int=>decide (x.getD 0 0=v)) sk
 rw [show decide (0≤bJ (fun x=>decide (x.getD 0 0=v)) sk)=decide (bJ (fun x=>decide (x.getD 0 0=v)) sk ≥ 0) from rfl,this]
 unfold aP;rw [Bool.eq_iff_iff];simp [List.any_eq_true,List.contains_iff_mem,dJ]
theorem bOi(sk:Lqq)(a b c d e f:Int):inB sk [a,b,c,d,e,f]=if b≤4 then (aP sk 0).contains d else d == 0:=rfl
theorem r6(dl:Int)(sk dc:Lqq)(us:uni 2 sk)(ls:sk.length≤1000)(hu:uni 6 dc)(hl:dc.length≤1000):(dc.all (inB sk)=false∧∃ i,aE Tp 0 (sub (cd Tryz.f31) [1,1,1,1,1,1,1,0,1,0,0]) (eZ dl sk dc 0) .ret (bO (eZ dl sk dc i) [(2,.p (aA 1))]))∨(dc.all (inB sk)=true∧aE Tp 0 (sub (cd Tryz.f31) [1,1,1,1,1,1,1,0,1,0,0]) (eZ dl sk dc 0) (.exit 12) (eZ dl sk dc dc.length)):=by
 rcases aE.find (P:=Tp) (k:=0) (b:=(sub (cd Tryz.f31) [1,1,1,1,1,1,1,0,1,0,0])) (fun i=>eZ dl sk dc i) (fun i _=>bO (eZ dl sk dc i) [(2,.p (aA 1))]) (eZ dl sk dc dc.length) .ret (.exit 12) (by simp) (by simp) (fun x => !inB sk x) dc
  (fun i x hx hp=>by
   obtain ⟨a,b,c,d,e,f,rfl⟩:=len6 (hu _ (kQ1 hx));have hp:inB sk [a,b,c,d,e,f]=true:=by simpa using hp
   have:=aL hx;rw [bOi] at hp
   by_cases hb:b≤4
   ·rw [if_pos hb,← aZl] at hp
    exact bGi (by omega) hx hu hb (by omega) us ls (of_decide_eq_true hp) (aH (by omega)) rfl
   ·rw [if_neg hb] at hp
    exact bGg (by omega) hx hu (by omega) (by simpa using hp) (by omega) (aH (by omega)) rfl)
  (fun i x hx hp=>by
   obtain ⟨a,b,c,d,e,f,rfl⟩:=len6 (hu _ (kQ1 hx));have hp:inB sk [a,b,c,d,e,f]=false:=by simpa using hp
   have:=aL hx;rw [bOi] at hp
   by_cases hb:b≤4
   ·rw [if_pos hb,← aZl] at hp
    have:=of_decide_eq_false hp;exact bGh (by omega) hx hu hb (by omega) us ls (by omega)
   ·rw [if_neg hb] at hp
    exact bGf (by omega) hx hu (by omega) (by simpa using hp))
  (bGj (by omega)) with ⟨i,x,h1,h2,h3,h4⟩ | ⟨h1,h2,h3⟩
 ·exact .inl ⟨by rw [← aCr,dW h2];simp,i,h4⟩
 ·exact .inr ⟨by rw [List.all_eq_not_any_not,h2];rfl,h3⟩
theorem bOj(a b c d e f:Int):orB [a,b,c,d,e,f]=if b≤4 then f == 0 else within f 1 (a-1):=rfl
theorem r7(dl:Int)(sk dc:Lqq)(hu:uni 6 dc)(hl:dc.length≤1000)(hr:∀ x∈dc,inR (x.getD 0 0-1)):(dc.all orB=false∧∃ i,aE Tp 0 (sub (cd Tryz.f31) [1,1,1,1,1,1,1,1,0,1,0,0]) (fJ dl sk dc 0) .ret (bO (fJ dl sk dc i) [(2,.p (aA 4))]))∨(dc.all orB=true∧aE Tp 0 (sub (cd Tryz.f31) [1,1,1,1,1,1,1,1,0,1,0,0]) (fJ dl sk dc 0) (.exit 14) (fJ dl sk dc dc.length)):=by
 rcases aE.find (P:=Tp) (k:=0) (b:=(sub (cd Tryz.f31) [1,1,1,1,1,1,1,1,0,1,0,0])) (fun i=>fJ dl sk dc i) (fun i _=>bO (fJ dl sk dc i) [(2,.p (aA 4))]) (fJ dl sk dc dc.length) .ret (.exit 14) (by simp) (by simp) (fun x => !orB x) dc
  (fun i x hx hp=>by
   have hin:=hr x (kQ1 hx);obtain ⟨a,b,c,d,e,f,rfl⟩:=len6 (hu _ (kQ1 hx));have hin:inR (a-1):=hin;have hp:orB [a,b,c,d,e,f]=true:=by simpa using hp
   have:=aL hx;rw [bOj] at hp
   by_cases hb:b≤4
   ·rw [if_pos hb] at hp
    exact bGl (by omega) hx hu (by omega) (by simpa using hp) hb (aH (by omega)) rfl
   ·rw [if_neg hb] at hp
    exact bGn (by omega) hx hu (by omega) (by omega) hin (jQ hp) (aH (by omega)) rfl)
  (fun i x hx hp=>by
   have hin:=hr x (kQ1 hx);obtain ⟨a,b,c,d,e,f,rfl⟩:=len6 (hu _ (kQ1 hx));have hin:inR (a-1):=hin;have hp:orB [a,b,c,d,e,f]=false:=by simpa using hp
   have:=aL hx;rw [bOj] at hp
   by_cases hb:b≤4
   ·rw [if_pos hb] at hp
    exact bGk (by omega) hx hu (by omega) (by simpa using hp)
   ·rw [if_neg hb] at hp
    exact bGm (by omega) hx hu (by omega) (by omega) hin (aQf hp))
  (bGo (by omega)) with ⟨i,x,h1,h2,h3,h4⟩ | ⟨h1,h2,h3⟩
 ·exact .inl ⟨by rw [← aCr,dW h2];simp,i,h4⟩
 ·exact .inr ⟨by rw [List.all_eq_not_any_not,h2];rfl,h3⟩
theorem zP(dl:Int)(sk dc:Lqq)(us:uni 2 sk)(ud:uni 6 dc){base:Nat}:FV Tp 31 [.p (.agg (aX dl sk dc))] base (.p (aA (eC dl sk dc))) []:=by
 unfold eC
 by_cases h1:(sk.length:Int)<1
 ·rw [if_pos (.inl (by unfold within;rw [decide_eq_false (by omega)];rfl))];exact cBi h1
 by_cases h2:(30:Int)<(sk.length:Int)
 ·rw [if_pos (.inl (by unfold within;rw [decide_eq_false (p:=(sk.length:Int)≤30) (by omega),Bool.and_false]))];exact cBj (by omega) h2
 by_cases h3:(40:Int)<(dc.length:Int)
 ·rw [if_pos (.inr h3)];exact cBk (by omega) (by omega) h3
 have hw:within (sk.length:Int) 1 30=true:=bV.2 (by omega)
 rw [if_neg (by rw [hw];simp;omega)]
 cases h4:within dl 0 10000 with
 | false=>rw [if_pos (.inl rfl)];exact cBl (by omega) (by omega) (by omega) (aQf h4)
 | true =>
 have o4:=jQ h4;have a1:(1:Int)≤(sk.length:Int):=by omega
 have a2:(sk.length:Int)≤30:=by omega
 have a3:(dc.length:Int)≤40:=by omega
 rcases r0 dl sk dc us (by omega) with ⟨q0,i0,L0⟩ | ⟨q0,L0⟩
 ·rw [if_pos (.inr (.inl q0))];exact bTt a1 a2 a3 o4 L0
 rcases r1 dl sk dc ud (by omega) with ⟨q1,i1,L1⟩ | ⟨q1,L1⟩
 ·rw [if_pos (.inr (.inr q1))];exact cBr a1 a2 a3 o4 L0 L1
 rw [if_neg (by rw [q0,q1];simp)]
 rcases rso dl sk dc us (by omega) with ⟨q2,i2,L2⟩ | ⟨q2,L2⟩
 ·rw [if_pos (.inl q2)];exact cBq a1 a2 a3 o4 L0 L1 L2
 rcases rdo dl sk dc ud (by omega) with ⟨q3,i3,L3⟩ | ⟨q3,L3⟩
 ·rw [if_pos (.inr q3)];exact cBp a1 a2 a3 o4 L0 L1 L2 L3
 rw [if_neg (by simp [q2,q3])]
 rcases r6 dl sk dc us (by omega) ud (by omega) with ⟨q6,i6,L6⟩ | ⟨q6,L6⟩
 ·rw [if_pos q6];exact cBo a1 a2 a3 o4 L0 L1 L2 L3 L6
 rw [if_neg (by rw [q6];simp)]
 have hr:∀ x∈dc,inR (x.getD 0 0-1):=fun x hx=>by
  have:=iA.1 (gQ.1 q1 x hx);unfold inR;omega
 rcases r7 dl sk dc ud (by omega) hr with ⟨q7,i7,L7⟩ | ⟨q7,L7⟩
 ·rw [if_pos q7];exact cBn a1 a2 a3 o4 L0 L1 L2 L3 L6 L7
 rw [if_neg (by rw [q7];simp)]
 exact cBm a1 a2 a3 o4 L0 L1 L2 L3 L6 L7
end
section
variable {dl z100 z200:Int}{o q dc sk o'1:Lqq}{b n b' n':Nat}
variable {dl:Int}{sk dc:Lqq}

noncomputable abbrev aIx:Code:=sub (cd Tryz.f36) [1,1,0,1,0,0]
noncomputable abbrev aIy:Code:=sub (cd Tryz.f36) [1,1,1,0,1,0,0]
theorem aLu{r:Int}(dl:Int)(sk dc:Lqq)(v:Int)(hu:uni 2 sk)(hl:sk.length≤1000)(h:bJ (fun x=>decide (x.getD 0 0=v)) sk=r){base:Nat}:FV Tp 92 [.p (.agg (aX dl sk dc)),.p (aA v)] base (pI r) []:=by
 have q:=aUx dl sk dc v hu hl (base:=base);rw [h] at q
 exact q
theorem aLv{r:Int}(dl:Int)(sk dc:Lqq)(v:Int)(hu:uni 6 dc)(hl:dc.length≤1000)(h:bJ (fun x=>decide (x.getD 0 0=v)) dc=r){base:Nat}:FV Tp 101 [.p (.agg (aX dl sk dc)),.p (aA v)] base (pI r) []:=by
 have q:=cBh dl sk dc v hu hl (base:=base);rw [h] at q
 exact q
def kN(dl:Int)(sk:Lqq)(dc:Lqq)(b:Nat)(on:Nat)(oc:List PV):St:=⟨fr 59 [(1,(.ptr 0 0)),(2,(.ptr 1 0)),(3,(.ptr 2 0)),(4,(pI (b:Int)))],[some (.box 61 [(pI dl),(.p (fS sk)),(.p (fS dc))]),some (.box 61 [(pI 0),(.p bM),(.p bM)]),some (.box 61 [(pI dl),(.own 3),(.p bM)]),some (.row 73 on oc)]⟩
def kO(dl:Int)(sk:Lqq)(dc:Lqq)(o'1:Lqq)(n:Nat)(qn:Nat)(qc:List PV):St:=⟨fr 59 [(1,(.ptr 0 0)),(2,(.ptr 1 0)),(3,(.ptr 2 0)),(6,(pI (n:Int)))],[some (.box 61 [(pI dl),(.p (fS sk)),(.p (fS dc))]),some (.box 61 [(pI 0),(.p bM),(.p bM)]),some (.box 61 [(pI dl),(.own 3),(.own 4)]),some (.row 73 o'1.length (o'1.flatten.map aA)),some (.row 119 qn qc)]⟩
theorem bOg{b'0:Nat}{n'2:Nat}{q'3:Lqq}(hl0:aE Tp 0 aIx (kN dl sk dc 1 0 []) (.exit 0) (kN dl sk dc b'0 o'1.length (o'1.flatten.map aA)))(hl1:aE Tp 0 aIy (kO dl sk dc o'1 1 0 []) (.exit 2) (kO dl sk dc o'1 n'2 q'3.length (q'3.flatten.map aA))){base:Nat}:FV Tp 36 [(.p (.agg (aX dl sk dc)))] base (.p (.agg (aX dl o'1 q'3))) []:=by
 exact FV.frz (FMM.fi 0 ⟨[],[],[3,4],[]⟩ Tryz.func36 [hl0.k 8 (gN [0,1,5,1,8,22] [0,1,2,3] [(102001,73)]),hl1.k 4 (gN [0,1,4,2,7,51] [0,1,2,3,4] [(102002,119)])] (gc hl1.code (gc hl0.code gn))) (by kernel_rfl)
theorem aIz{y101 y102:Int}{o':Lqq}(h0:(b:Int)≤999)(h1:uni 2 sk)(h2:sk.length≤1000)(h3:bJ (fun x=>decide (x.getD 0 0=(b:Int))) sk=z100)(h4:(0:Int)≤z100)(h5:sk[z100.toNat]? = some [y101,y102])(h6:0≤z100)(h7:[(aA y101),(aA y102)].length=1*2∧o.length+1≤1000000)(h8:inR (((b+1):Nat):Int))(eb':b'=(b+1))(eo'n:o'.length=(o.length+1))(eo'c:o'.flatten.map aA=((o.flatten.map aA)++[(aA y101),(aA y102)])):aC Tp 0 aIx (kN dl sk dc b o.length (o.flatten.map aA)) .normal (kN dl sk dc b' o'.length (o'.flatten.map aA)):=by
 subst eb';rw [eo'n,eo'c];exact aC.fi (gI [0,1,5,1,8,22] [0,1,2,5]) [bT,.c (pI z100) [],bT,.x (.agg [(aA y101),(aA y102)])] (gc h8 (gc h7 (gt ([(aA y101),(aA y102)].length=2) (by first | decide | simp) (gfz h1 h6 h5 (gc (rG h4) (gc (fk 4 (aLu dl sk dc (b:Int) h1 h2 h3) rfl) (gc (rG h0) gn)))))))
theorem aJa(h0:(b:Int)≤999)(h1:uni 2 sk)(h2:sk.length≤1000)(h3:bJ (fun x=>decide (x.getD 0 0=(b:Int))) sk=z100)(h4:z100<0)(h5:inR (((b+1):Nat):Int))(eb':b'=(b+1)):aC Tp 0 aIx (kN dl sk dc b o.length (o.flatten.map aA)) .normal (kN dl sk dc b' o.length (o.flatten.map aA)):=by
 subst eb';exact aC.fi (gI [0,1,5,1,8,22] [0,1,2,3]) [bT,.c (pI z100) [],bF] (gc h5 (gc (mH h4) (gc (fk 4 (aLu dl sk dc (b:Int) h1 h2 h3) rfl) (gc (rG h0) gn))))
theorem aJb(h0:(999:Int)<(b:Int)):aC Tp 0 aIx (kN dl sk dc b o.length (o.flatten.map aA)) (.exit 0) (kN dl sk dc b o.length (o.flatten.map aA)):=by
 exact aC.fi (gI [0,1,5,1,8,22] [0,1,2,3]) [bF] (gc (mH h0) gn)
theorem aJc{y201 y202 y203 y204 y205 y206:Int}{q':Lqq}(h0:(n:Int)≤9999)(h1:(q.length:Int)<(dc.length:Int))(h2:uni 6 dc)(h3:dc.length≤1000)(h4:bJ (fun x=>decide (x.getD 0 0=(n:Int))) dc=z200)(h5:(0:Int)≤z200)(h6:dc[z200.toNat]? = some [y201,y202,y203,y204,y205,y206])(h7:0≤z200)(h8:[(aA y201),(aA y202),(aA y203),(aA y204),(aA y205),(aA y206)].length=1*6∧q.length+1≤1000000)(h9:inR (((n+1):Nat):Int))(en':n'=(n+1))(eq'n:q'.length=(q.length+1))(eq'c:q'.flatten.map aA=((q.flatten.map aA)++[(aA y201),(aA y202),(aA y203),(aA y204),(aA y205),(aA y206)])):aC Tp 0 aIy (kO dl sk dc o'1 n q.length (q.flatten.map aA)) .normal (kO dl sk dc o'1 n' q'.length (q'.flatten.map aA)):=by
 subst en';rw [eq'n,eq'c];exact aC.fi (gI [0,1,4,2,7,51] [0,1,2,3,6]) (rT 9++[.c (pI z200) [],bT,.x (dcE y201 y202 y203 y204 y205 y206)]) (gc h9 (gc h8 (gt ([(aA y201),(aA y202),(aA y203),(aA y204),(aA y205),(aA y206)].length=6) (by first | decide | simp) (gfz h2 h7 h6 (gc (rG h5) (gc (fk 5 (aLv dl sk dc (n:Int) h2 h3 h4) rfl) (gc (aK h1) (g8c (rG h0) gn))))))))
theorem aJd(h0:(n:Int)≤9999)(h1:(q.length:Int)<(dc.length:Int))(h2:uni 6 dc)(h3:dc.length≤1000)(h4:bJ (fun x=>decide (x.getD 0 0=(n:Int))) dc=z200)(h5:z200<0)(h6:inR (((n+1):Nat):Int))(en':n'=(n+1)):aC Tp 0 aIy (kO dl sk dc o'1 n q.length (q.flatten.map aA)) .normal (kO dl sk dc o'1 n' q.length (q.flatten.map aA)):=by
 subst en';exact aC.fi (gI [0,1,4,2,7,51] [0,1,2,3,4]) (rT 9++[.c (pI z200) [],bF]) (gc h6 (gc (mH h5) (gc (fk 5 (aLv dl sk dc (n:Int) h2 h3 h4) rfl) (gc (aK h1) (g8c (rG h0) gn)))))
theorem aJe(h0:(n:Int)≤9999)(h1:(dc.length:Int)≤(q.length:Int)):aC Tp 0 aIy (kO dl sk dc o'1 n q.length (q.flatten.map aA)) (.exit 2) (kO dl sk dc o'1 n q.length (q.flatten.map aA)):=by
 exact aC.fi (gI [0,1,4,2,7,51] [0,1,2,3,4]) (rT 8++[bF]) (gc (aN h1) (g8c (rG h0) gn))
theorem aJf(h0:(9999:Int)<(n:Int)):aC Tp 0 aIy (kO dl sk dc o'1 n q.length (q.flatten.map aA)) (.exit 2) (kO dl sk dc o'1 n q.length (q.flatten.map aA)):=by
 exact aC.fi (gI [0,1,4,2,7,51] [0,1,2,3,4]) (rF 8) (g8c (mH h0) gn)
theorem uZ{l:Lqq}{p:List Int→Bool}(h:∀ x∈l,p x=false):l.filter p=[]:=List.filter_eq_nil_iff.2 fun x hx=>by rw [h x hx];simp
theorem wP(n:Int):∀ {l:Lqq},l.Pairwise (fun a b=>a.getD 0 0≤b.getD 0 0)→l.filter (fun x=>decide (x.getD 0 0<n+1))=l.filter (fun x=>decide (x.getD 0 0<n))++l.filter (fun x=>decide (x.getD 0 0=n))
 | [],_=>rfl
 | x::l,h=>by
  rw [aHe] at h
  have ih:=wP n h.2
  rcases Int.lt_trichotomy (x.getD 0 0) n with hx | hx | hx
  ·rw [List.filter_cons_of_pos (by rw [decide_eq_true_iff];omega),List.filter_cons_of_pos (by rw [decide_eq_true_iff];omega),List.filter_cons_of_neg (by rw [decide_eq_true_iff];omega),ih]
   rfl
  ·rw [List.filter_cons_of_pos (by rw [decide_eq_true_iff];omega),List.filter_cons_of_neg (by rw [decide_eq_true_iff];omega),List.filter_cons_of_pos (by rw [decide_eq_true_iff];omega),ih,
    uZ (l:=l) (p:=fun x=>decide (x.getD 0 0<n)) (fun y hy=>decide_eq_false (by have:=h.1 y hy;omega))]
   rfl
  ·rw [List.filter_cons_of_neg (by rw [decide_eq_true_iff];omega),List.filter_cons_of_neg (by rw [decide_eq_true_iff];omega),List.filter_cons_of_neg (by rw [decide_eq_true_iff];omega),ih]
theorem aFb:∀ {l:Lqq} {x:List Int},(aP l 0).Nodup→x∈l→l.filter (fun y=>decide (y.getD 0 0=x.getD 0 0))=[x]
 | [],x,_,h=>by cases h
 | y::l,x,hn,h=>by
  have hn':=hn;unfold aP at hn
  rw [gH,List.nodup_cons] at hn
  rcases fD.1 h with rfl | h
  ·rw [List.filter_cons_of_pos (by simp),uZ (fun z hz=>decide_eq_false fun e=>hn.1 (dJ.2 ⟨z,hz,e⟩))]
  ·rw [List.filter_cons_of_neg (by rw [decide_eq_true_iff];exact fun e=>hn.1 (dJ.2 ⟨x,h,e.symm⟩))]
   exact aFb hn.2 h
def upto(f:Lqq)(n:Nat):Lqq:=(aB f).filter fun x=>decide (x.getD 0 0<(n:Int))
theorem aBj{f:Lqq}(h:(aP f 0).Nodup):(aP (aB f) 0).Nodup:=((cW f).map _).nodup_iff.2 h
theorem aQc{f:Lqq}(hn:(aP f 0).Nodup){n:Nat}{x:List Int}(hx:x∈f)(hk:x.getD 0 0=(n:Int)):upto f (n+1)=upto f n++[x]:=by
 unfold upto;have e:((n+1:Nat):Int)=(n:Int)+1:=by omega
 rw [e,wP (n:Int) (iO f)];have:=aFb (aBj hn) ((cW f).mem_iff.2 hx);rw [hk] at this
 rw [this]
theorem aJg{f:Lqq}{n:Nat}(h:∀ x∈f,x.getD 0 0≠(n:Int)):upto f (n+1)=upto f n:=by
 unfold upto;have e:((n+1:Nat):Int)=(n:Int)+1:=by omega
 rw [e,wP (n:Int) (iO f),uZ (l:=aB f) (p:=fun x=>decide (x.getD 0 0=(n:Int))) (fun x hx=>decide_eq_false (h x ((cW f).mem_iff.1 hx))),List.append_nil]
theorem aQd{f:Lqq}{n:Nat}(h:∀ x∈f,x.getD 0 0<(n:Int)):upto f n=aB f:=List.filter_eq_self.2 fun x hx=>decide_eq_true (h x ((cW f).mem_iff.1 hx))
theorem bOh{f:Lqq}{n:Nat}(h:f.length≤(upto f n).length):upto f n=aB f:=by
 have h1:(upto f n).length≤(aB f).length:=sG _ _;have h2:=eV f;exact (List.filter_sublist).eq_of_length (by unfold upto at h h1;omega)
theorem aJh{f:Lqq}(h:∀ x∈f,1≤x.getD 0 0):upto f 1=[]:=uZ fun x hx=>decide_eq_false (by have:=h x ((cW f).mem_iff.1 hx);omega)
theorem aZk(f:Lqq)(n:Nat):(upto f n).length≤f.length:=by
 have h1:(upto f n).length≤(aB f).length:=sG _ _;rw [eV] at h1;exact h1
theorem aCq{f:Lqq}{v:Int}(h:0≤bJ (fun x=>decide (x.getD 0 0=v)) f):∃ x,f[(bJ (fun x=>decide (x.getD 0 0=v)) f).toNat]? = some x∧x.getD 0 0=v:=by
 unfold bJ at h ⊢
 cases hq:f.findIdx? fun x=>decide (x.getD 0 0=v) with
 | none=>rw [hq] at h;simp at h
 | some i =>
  obtain ⟨hi,hp,_⟩:=List.findIdx?_eq_some_iff_getElem.1 hq;exact ⟨f[i],by simp [kQ0 hi],of_decide_eq_true hp⟩
theorem aQe{f:Lqq}{v:Int}(h:bJ (fun x=>decide (x.getD 0 0=v)) f<0):∀ x∈f,x.getD 0 0≠v:=by
 unfold bJ at h
 cases hq:f.findIdx? fun x=>decide (x.getD 0 0=v) with
 | none=>intro x hx e;have:=List.findIdx?_eq_none_iff.1 hq x hx;rw [decide_eq_true e] at this;cases this
 | some i=>rw [hq] at h;simp at h;omega
theorem aFc(dl:Int)(sk dc:Lqq)(h:bZ dl sk dc){base:Nat}:FV Tp 36 [.p (.agg (aX dl sk dc))] base (.p (.agg (aX dl (aB sk) (aB dc)))) []:=by
 have l1:=h.len;have l2:=h.len2;have k1:∀ x∈sk,1≤x.getD 0 0∧x.getD 0 0≤999:=fun x hx=>(aLx.1 (h.hsk x hx)).1
 have k2:∀ x∈dc,1≤x.getD 0 0∧x.getD 0 0≤9999:=fun x hx=>(iA.1 (h.hdc x hx)).1
 have L0:aE Tp 0 aIx (kN dl sk dc 1 0 []) (.exit 0) (kN dl sk dc 1000 (aB sk).length ((aB sk).flatten.map aA)):=by
  have L:=aE.count (P:=Tp) (k:=0) (b:=aIx) (e := .exit 0) (R:=kN dl sk dc 1000 (aB sk).length ((aB sk).flatten.map aA)) 999 (fun i=>kN dl sk dc (i+1) (upto sk (i+1)).length ((upto sk (i+1)).flatten.map aA))
   (fun i hi=>by
    by_cases hx:0≤bJ (fun x=>decide (x.getD 0 0=(((i+1:Nat)):Int))) sk
    ·obtain ⟨x,h1,h2⟩:=aCq hx
     obtain ⟨a,b,rfl⟩:=len2 (h.us _ (kQ1 h1));have e:=aQc h.ns (kQ1 h1) h2;have:=aZk sk (i+1);exact aIz (b:=i+1) (o:=upto sk (i+1)) (o':=upto sk (i+1+1)) (by omega) h.us (by omega) rfl hx h1 hx ⟨rfl,by omega⟩ (aH (by omega)) rfl (by rw [e];simp) (by rw [e];exact (vA (l:=upto sk (i+1)) (x:=[a,b])).symm)
    ·rw [aJg (n:=i+1) (aQe (by omega))]
     exact aJa (b:=i+1) (by omega) h.us (by omega) rfl (by omega) (aH (by omega)) rfl)
   (by rw [show upto sk (999+1)=aB sk from aQd fun x hx=>by have:=k1 x hx;omega];exact aJb (by omega)) (by simp)
  have e:=aJh (f:=sk) fun x hx=>(k1 x hx).1
  simp only [gT,e] at L
  exact L
 have L1:∀ d i,i+d=10000→1≤i→∃ i',aE Tp 0 aIy (kO dl sk dc (aB sk) i (upto dc i).length ((upto dc i).flatten.map aA)) (.exit 2) (kO dl sk dc (aB sk) i' (aB dc).length ((aB dc).flatten.map aA)):=by
  intro d
  induction d with
  | zero =>
   intro i hi h1;rw [show upto dc i=aB dc from aQd fun x hx=>by have:=k2 x hx;omega]
   exact ⟨i,.exit (aJf (by omega)) (by simp)⟩
  | succ d ih =>
   intro i hi h1
   by_cases hl:dc.length≤(upto dc i).length
   ·rw [bOh hl]
    have:=eV dc;exact ⟨i,.exit (aJe (by omega) (by omega)) (by simp)⟩
   ·obtain ⟨i',ih⟩:=ih (i+1) (by omega) (by omega)
    refine ⟨i',.step ?_ ih⟩
    by_cases hx:0≤bJ (fun x=>decide (x.getD 0 0=((i:Nat):Int))) dc
    ·obtain ⟨x,h1,h2⟩:=aCq hx
     obtain ⟨a,b,c,d,e,f,rfl⟩:=len6 (h.ud _ (kQ1 h1));have e:=aQc h.nd (kQ1 h1) h2;have:=aZk dc i;exact aJc (q:=upto dc i) (q':=upto dc (i+1)) (by omega) (by omega) h.ud (by omega) rfl hx h1 hx ⟨rfl,by omega⟩ (aH (by omega)) rfl (by rw [e];simp) (by rw [e];exact (vA (l:=upto dc i)).symm)
    ·rw [aJg (n:=i) (aQe (by omega))]
     exact aJd (by omega) (by omega) h.ud (by omega) rfl (by omega) (aH (by omega)) rfl
 obtain ⟨i',L1⟩:=L1 9999 1 (by omega) (by omega)
 rw [aJh (f:=dc) fun x hx=>(k2 x hx).1] at L1
 exact bOg L0 L1
end
section
mutual
def wkP:PV→PV
 | .v (.slice none 0 0) => .sl 0 []
 | .agg cs => .agg (bOz cs)
 | x=>x
def bOz:List PV→List PV
 | []=>[]
 | x::r=>wkP x::bOz r
end
theorem aQk:∀ l:List PV,bOz l=l.map wkP
 | []=>by simp [bOz]
 | x::r=>by rw [bOz,aQk r];rfl
def wk1:AV→AV
 | .p x => .p (wkP x)
 | x=>x
theorem bVa{F:Nat→Prop}{w:World}{x:PV}{u:Value}(h:cT F w x u):cT F w (wkP x) u:=by
 induction h with
 | v x =>
  unfold wkP
  split
  ·rename_i e
   cases e;exact .sl 0 [] none 0 (fun _=>undef) (dX _) (Nat.zero_le _) (fun i h=>by simp at h) (fun i h=>by simp at h) (fun i h=>by simp at h)
  ·rename_i e;cases e
  ·exact .v x
 | sl n cs p cap us h1 h2 h3 h4 h5 _=>unfold wkP;exact .sl n cs p cap us h1 h2 h3 h4 h5
 | agg cs vs h0 h1 _ ih =>
  unfold wkP;rw [aQk];exact .agg _ vs (fun i hi=>h0 i (by simpa using hi)) (by simpa using h1) (fun i hi=>by
   have:=ih i (by simpa using hi)
   simpa using this)
 | mp es b cl arr us hb h0 h1 h2 h3 _=>unfold wkP;exact .mp es b cl arr us hb h0 h1 h2 h3
 | rp cs off b o us h1 h2 h3 _=>unfold wkP;exact .rp cs off b o us h1 h2 h3
theorem bVb{C:Cx}{M:Mem}{w:World}{x:AV}{u:Value}(h:Rep C M w x u):Rep C M w (wk1 x) u:=by
 cases h with
 | p x u h=>exact .p _ _ (bVa h)
 | _=>unfold wk1;constructor <;> assumption
theorem dG.wk{C:Cx}{M:Mem}{w:World}:∀ {args:List AV} {us:List Value},dG C M w args us→dG C M w (args.map wk1) us
 | [],_,h=>by cases h;exact .nil
 | x::l,_,h=>by
  cases h with
  | cons _ _ u us h1 h2=>exact .cons _ _ _ _ (bVb h1) h2.wk
theorem FMM.argwk{P:Program}{f:Nat}{args args':List AV}{r:AV}{M M':Mem}(h:FMM P f args' M r M')(e:args.map wk1=args'):FMM P f args M r M':=fun C w us hus hM n=>by
 subst e;exact h C w us hus.wk hM n
theorem FV.argwk{P:Program}{f base:Nat}{args args':List AV}{y:AV}{L:Upd}(h:FV P f args' base y L)(e:args.map wk1=args'):FV P f args base y L:=by
 obtain ⟨r,M1,h1,h2⟩:=h;exact ⟨r,M1,h1.argwk e,h2⟩
end
section
variable {r0:Bool}{m n el:Int}{ec tk:Lqq}{base:Nat}
variable {dl:Int}{sk dc:Lqq}

theorem cAr(h0:dl=el)(h1:uni 2 sk)(h2:uni 2 tk)(h3:sk.length≤1000)(h4:(decide (sk=tk))=true)(h5:uni 6 dc)(h6:uni 6 ec)(h7:dc.length≤1000)(er0:r0=(decide (dc=ec))):FV Tp 35 [(.p (.agg (aX dl sk dc))),(.p (.agg (aX el tk ec)))] base (pB r0) []:=by
 subst er0;have k1:=fk 2 (bOl sk tk h1 h2 h3) rfl;have k2:=fk 2 (cCi dc ec h5 h6 h7) rfl;exact FV.fi Tryz.func35 (rT 5++[k1.o]++rT 6++[k2.o,bT]) (gc h4 (gc k2 (g5c h4 (gc (bL h0) (gc k1 (g5c (bL h0) gn))))))
theorem cAs(h0:dl=el)(h1:uni 2 sk)(h2:uni 2 tk)(h3:sk.length≤1000)(h4:(decide (sk=tk))=false):FV Tp 35 [(.p (.agg (aX dl sk dc))),(.p (.agg (aX el tk ec)))] base (pB false) []:=by
 have k1:=fk 2 (bOl sk tk h1 h2 h3) rfl;exact FV.fi Tryz.func35 (rT 5++[k1.o,bT]++rF 6) (g6c h4 (gc (bL h0) (gc k1 (g5c (bL h0) gn))))
theorem cAt(h0:dl≠el):FV Tp 35 [(.p (.agg (aX dl sk dc))),(.p (.agg (aX el tk ec)))] base (pB false) []:=by
 exact FV.fi Tryz.func35 (rF 6) (g6c (aV h0) gn)
theorem zO(dl:Int)(sk dc:Lqq)(el:Int)(tk ec:Lqq)(u1:uni 2 sk∧sk.length≤1000)(u2:uni 6 dc∧dc.length≤1000)(v1:uni 2 tk)(v2:uni 6 ec){base:Nat}:FV Tp 35 [.p (.agg (aX dl sk dc)),.p (.agg (aX el tk ec))] base (pB (decide (dl=el∧sk=tk∧dc=ec))) []:=by
 by_cases h1:dl=el
 ·by_cases h2:sk=tk
  ·exact cAr h1 u1.1 v1 u1.2 (decide_eq_true h2) u2.1 v2 u2.2 (by simp [h1,h2])
  ·rw [decide_eq_false (fun h=>h2 h.2.1)];exact cAs h1 u1.1 v1 u1.2 (decide_eq_false h2)
 ·rw [decide_eq_false (fun h=>h1 h.1)];exact cAt h1
theorem cAu(h0:n<(sk.length:Int))(h1:(sk.length:Int)≤30):FV Tp 29 [(.p (.agg (aX dl sk dc))),(pI n),(pI m)] base (pB true) []:=by
 exact FV.fi Tryz.func29 (rT 10) (g5c (rG h1) (g5c (aK h0) gn))
theorem cAv(h0:n<(sk.length:Int))(h1:(30:Int)<(sk.length:Int))(h2:(35:Int)<(sk.length:Int)):FV Tp 29 [(.p (.agg (aX dl sk dc))),(pI n),(pI m)] base (pB true) []:=by
 exact FV.fi Tryz.func29 (rT 5++rF 5++rT 8) (g8c (aK h2) (g5c (mH h1) (g5c (aK h0) gn)))
theorem cAw(h0:n<(sk.length:Int))(h1:(30:Int)<(sk.length:Int))(h2:(sk.length:Int)≤35)(h3:m<(dc.length:Int))(h4:(dc.length:Int)≤40):FV Tp 29 [(.p (.agg (aX dl sk dc))),(pI n),(pI m)] base (pB true) []:=by
 exact FV.fi Tryz.func29 (rT 5++rF 11++[bT,bT,bT,bT,bF,bT,bF]++rT 5) (g5c (rG h4) (gc (aN h2) (gc (aK h3) (gc (aN h2) (g4c (aK h3) (g6c (aN h2) (g5c (mH h1) (g5c (aK h0) gn))))))))
theorem cAx(h0:n<(sk.length:Int))(h1:(30:Int)<(sk.length:Int))(h2:(sk.length:Int)≤35)(h3:m<(dc.length:Int))(h4:(40:Int)<(dc.length:Int))(er0:r0=(decide ((dc.length:Int) > 45))):FV Tp 29 [(.p (.agg (aX dl sk dc))),(pI n),(pI m)] base (pB r0) []:=by
 subst er0;exact FV.fi Tryz.func29 (rT 5++rF 11++[bT,bT,bT,bT,bF,bT]++rF 6) (g5c (mH h4) (gc (aN h2) (gc (aK h3) (gc (aN h2) (g4c (aK h3) (g6c (aN h2) (g5c (mH h1) (g5c (aK h0) gn))))))))
theorem cAy(h0:n<(sk.length:Int))(h1:(30:Int)<(sk.length:Int))(h2:(sk.length:Int)≤35)(h3:(dc.length:Int)≤m)(er0:r0=(decide ((dc.length:Int) > 45))):FV Tp 29 [(.p (.agg (aX dl sk dc))),(pI n),(pI m)] base (pB r0) []:=by
 subst er0;exact FV.fi Tryz.func29 (rT 5++rF 18) (gc (aN h2) (gc (aN h3) (gc (aN h2) (g4c (aN h3) (g6c (aN h2) (g5c (mH h1) (g5c (aK h0) gn)))))))
theorem cAz(h0:(sk.length:Int)≤n)(h1:(35:Int)<(sk.length:Int)):FV Tp 29 [(.p (.agg (aX dl sk dc))),(pI n),(pI m)] base (pB true) []:=by
 exact FV.fi Tryz.func29 (rF 5++rT 8) (g8c (aK h1) (g5c (aN h0) gn))
theorem cBa(h0:(sk.length:Int)≤n)(h1:(sk.length:Int)≤35)(h2:m<(dc.length:Int))(h3:(dc.length:Int)≤40):FV Tp 29 [(.p (.agg (aX dl sk dc))),(pI n),(pI m)] base (pB true) []:=by
 exact FV.fi Tryz.func29 (rF 11++[bT,bT,bT,bT,bF,bT,bF]++rT 5) (g5c (rG h3) (gc (aN h1) (gc (aK h2) (gc (aN h1) (g4c (aK h2) (g6c (aN h1) (g5c (aN h0) gn)))))))
theorem cBb(h0:(sk.length:Int)≤n)(h1:(sk.length:Int)≤35)(h2:m<(dc.length:Int))(h3:(40:Int)<(dc.length:Int))(er0:r0=(decide ((dc.length:Int) > 45))):FV Tp 29 [(.p (.agg (aX dl sk dc))),(pI n),(pI m)] base (pB r0) []:=by
 subst er0;exact FV.fi Tryz.func29 (rF 11++[bT,bT,bT,bT,bF,bT]++rF 6) (g5c (mH h3) (gc (aN h1) (gc (aK h2) (gc (aN h1) (g4c (aK h2) (g6c (aN h1) (g5c (aN h0) gn)))))))
theorem cBc(h0:(sk.length:Int)≤n)(h1:(sk.length:Int)≤35)(h2:(dc.length:Int)≤m)(er0:r0=(decide ((dc.length:Int) > 45))):FV Tp 29 [(.p (.agg (aX dl sk dc))),(pI n),(pI m)] base (pB r0) []:=by
 subst er0;exact FV.fi Tryz.func29 (rF 18) (gc (aN h1) (gc (aN h2) (gc (aN h1) (g4c (aN h2) (g6c (aN h1) (g5c (aN h0) gn))))))
def rJ(sk dc:Lqq)(n m:Int):Bool:=decide ((n<(sk.length:Int)∧(sk.length:Int)≤30)∨(35:Int)<(sk.length:Int)∨(m<(dc.length:Int)∧(dc.length:Int)≤40)∨(45:Int)<(dc.length:Int))
theorem tO(dl:Int)(sk dc:Lqq)(n m:Int){base:Nat}:FV Tp 29 [.p (.agg (aX dl sk dc)),.p (aA n),.p (aA m)] base (pB (rJ sk dc n m)) []:=by
 have T:∀ {p:Prop} [Decidable p],p→true=decide p:=fun h=>(decide_eq_true h).symm
 by_cases h1:n<(sk.length:Int)
 ·by_cases h2:(sk.length:Int)≤30
  ·rw [show rJ sk dc n m=true from decide_eq_true (.inl ⟨h1,h2⟩)];exact cAu h1 h2
  by_cases h3:(35:Int)<(sk.length:Int)
  ·rw [show rJ sk dc n m=true from decide_eq_true (.inr (.inl h3))];exact cAv h1 (by omega) h3
  by_cases h4:m<(dc.length:Int)
  ·by_cases h5:(dc.length:Int)≤40
   ·rw [show rJ sk dc n m=true from decide_eq_true (.inr (.inr (.inl ⟨h4,h5⟩)))];exact cAw h1 (by omega) (by omega) h4 h5
   ·exact cAx h1 (by omega) (by omega) h4 (by omega) (by unfold rJ;rw [Bool.eq_iff_iff];simp only [decide_eq_true_eq];omega)
  ·exact cAy h1 (by omega) (by omega) (by omega) (by unfold rJ;rw [Bool.eq_iff_iff];simp only [decide_eq_true_eq];omega)
 ·by_cases h3:(35:Int)<(sk.length:Int)
  ·rw [show rJ sk dc n m=true from decide_eq_true (.inr (.inl h3))];exact cAz (by omega) h3
  by_cases h4:m<(dc.length:Int)
  ·by_cases h5:(dc.length:Int)≤40
   ·rw [show rJ sk dc n m=true from decide_eq_true (.inr (.inr (.inl ⟨h4,h5⟩)))];exact cBa (by omega) (by omega) h4 h5
   ·exact cBb (by omega) (by omega) h4 (by omega) (by unfold rJ;rw [Bool.eq_iff_iff];simp only [decide_eq_true_eq];omega)
  ·exact cBc (by omega) (by omega) (by omega) (by unfold rJ;rw [Bool.eq_iff_iff];simp only [decide_eq_true_eq];omega)
end
section

theorem zN(dl:Int)(sk dc:Lqq)(h0:uni 2 sk)(h1:sk.length≤1000)(h2:uni 6 dc)(h3:dc.length≤1000){base:Nat}:FV Tp 27 [.p (.agg (aX dl sk dc))] base (.p (.agg (aX dl sk dc))) []:=cBs h0 h1 h2 h3
end
section
section
variable {α:Type} {E:α→List PV} {k:Nat}
theorem aCs(hE:∀ a,(E a).length=k)(l:List α):((l.map E).flatten).length=l.length*k:=by
 induction l with
 | nil=>simp
 | cons a l ih=>rw [gH,tE,gG,hE,ih,nW,aHi];omega
theorem zT(hE:∀ a,(E a).length=k){l:List α}{i:Nat}{e:α}(h:l[i]? = some e):∃ a b,(l.map E).flatten=a++(E e++b)∧a.length=i*k:=by
 obtain ⟨hi,rfl⟩:=kQ3.1 h;refine ⟨((l.take i).map E).flatten,((l.drop (i+1)).map E).flatten,?_,?_⟩
 ·have:l=l.take i++(l[i]::l.drop (i+1)):=by rw [← aPp hi,aPq]
  have e2:=congrArg (fun l=>(l.map E).flatten) this
  simp only [iN,gH,aTu,tE] at e2
  exact e2
 ·rw [aCs hE,lU];congr 1;omega
theorem bG{l:List α}{i f:Nat}(hE:∀ a,(E a).length=k){e:α}{x:PV}(h:l[i]? = some e)(hx:(E e)[f]? = some x):((l.map E).flatten)[i*k+f]? = some x:=by
 obtain ⟨a,b,e1,e2⟩:=zT hE h;have hf:=(kQ3.1 hx).1;rw [e1,← e2,zF (by omega),Nat.add_sub_cancel_left,aEr hf]
 exact hx
theorem wU{l:List α}{i:Nat}(hE:∀ a,(E a).length=k){e:α}(h:l[i]? = some e):i*k+k≤((l.map E).flatten).length:=by
 obtain ⟨a,b,e1,e2⟩:=zT hE h;rw [e1,gG,gG,hE,e2];omega
theorem nP{l:List α}{i:Nat}(hE:∀ a,(E a).length=k){e:α}(h:l[i]? = some e){x:PV}(hx:PV.agg (E e)=x):some (.agg ((((l.map E).flatten).drop (i*k)).take k):PV)=some x:=by
 obtain ⟨a,b,e1,e2⟩:=zT hE h;rw [e1,← e2,List.drop_left,List.take_left' (hE e),hx]
theorem tV{l:List α}{i:Int}(hE:∀ a,(E a).length=k)(hk:0<k)(h0:0≤i){e:α}(h:l[i.toNat]? = some e):0≤i∧i<(l.length:Int)∧i.toNat*k<((l.map E).flatten).length:=by
 have hi:=(kQ3.1 h).1;refine ⟨h0,by omega,?_⟩
 rw [aCs hE];exact Nat.mul_lt_mul_of_pos_right hi hk
end
end
section
variable {a c l o r u a'108 c'109 cn207 l'107 la206 o'116 op208 r'114 u'110 u'117 up209:Bool}{b f i k m i' k' x300 y100 y101 y102 y103 y104 y105 y200 y201 y202 y203 y204 y205 b'112 bt211 f'113 fr212 k'106 m'111 mu210:Int}{q:List Int}{n n' n'115:Nat}
variable {dl:Int}{sk dc:Lqq}

noncomputable abbrev iG:Code:=sub (cd Tryz.f75) [1,1,0,1,0,0,1,0,0,1,1,1,1,1,1,0,1,0,0]
noncomputable abbrev wO:Code:=sub (cd Tryz.f75) [1,1,0,1,0,0]
noncomputable abbrev rI:Code:=sub (cd Tryz.f75) [1,1,0,1,0,0,1,0,0,1,1,1,1,1,1,1,1,0,1,0,0]
abbrev RS:=Bool × Bool × Bool × Bool × Int × Int × Int
def rsE(s:RS):List PV:=[blP s.1,blP s.2.1,blP s.2.2.1,blP s.2.2.2.1,aA s.2.2.2.2.1,aA s.2.2.2.2.2.1,aA s.2.2.2.2.2.2]
def gW(dl:Int)(sk:Lqq)(dc:Lqq)(q:List Int)(i:Int)(Ln:Nat)(Lc:List PV):St:=⟨fr 165 [(1,(.p (aG q))),(2,(.ptr 0 0)),(4,(.p bM)),(5,(.own 1)),(6,(pI i))],[some (.box 61 [(pI dl),(.p (fS sk)),(.p (fS dc))]),some (.row 121 Ln Lc)]⟩
theorem cAq{i'0:Int}{L'1:List RS}(h0:0≤(dc.length:Int)∧(dc.length:Int)≤(dc.length:Int)∧(dc.length:Int)≤1000000)(h1:inR ((dc.length:Int)-1))(hl2:aE Tp 0 wO (gW dl sk dc q ((dc.length:Int)-1) dc.length ((List.replicate dc.length [(blP false),(blP false),(blP false),(blP false),(aA 0),(aA 0),(aA 0)]).flatten)) (.exit 0) (gW dl sk dc q i'0 L'1.length ((L'1.map rsE).flatten))){base:Nat}:FV Tp 75 [(.p (.agg (aX dl sk dc))),(.p (aG q))] base (.own base) [(base,(.row 121 L'1.length ((L'1.map rsE).flatten)))]:=by
 exact FV.fi Tryz.func75 [hl2.k 8 (gI [0,1,3,1,7,158] [0,1])] (gc hl2.code (gc h1 (gc h0 gn)))
def cI(dl:Int)(sk:Lqq)(dc:Lqq)(q:List Int)(i:Int)(L:List RS)(y100:Int)(y101:Int)(y102:Int)(y103:Int)(y104:Int)(y105:Int)(k:Int)(l:Bool)(a:Bool)(c:Bool)(u:Bool)(m:Int)(b:Int)(f:Int)(r:Bool):St:=⟨fr 165 [(1,(.p (aG q))),(2,(.ptr 0 0)),(4,(.p bM)),(5,(.own 1)),(6,(pI i)),(7,(.ptr 2 0)),(8,(.ptr 3 0)),(9,(pB a)),(10,(pB r)),(11,(pI k))],[some (.box 61 [(pI dl),(.p (fS sk)),(.p (fS dc))]),some (.row 121 L.length ((L.map rsE).flatten)),some (.box 119 [(pI y100),(pI y101),(pI y102),(pI y103),(pI y104),(pI y105)]),some (.box 121 [(pB l),(pB c),(pB false),(pB u),(pI m),(pI b),(pI f)])]⟩
def eP(dl:Int)(sk:Lqq)(dc:Lqq)(q:List Int)(i:Int)(L:List RS)(y100:Int)(y101:Int)(y102:Int)(y103:Int)(y104:Int)(y105:Int)(l'107:Bool)(c'109:Bool)(m'111:Int)(b'112:Int)(f'113:Int)(r'114:Bool)(n:Nat)(o:Bool)(u:Bool):St:=⟨fr 165 [(1,(.p (aG q))),(2,(.ptr 0 0)),(4,(.p bM)),(5,(.own 1)),(6,(pI i)),(7,(.ptr 2 0)),(8,(.ptr 3 0)),(10,(pB r'114)),(13,(pI (n:Int)))],[some (.box 61 [(pI dl),(.p (fS sk)),(.p (fS dc))]),some (.row 121 L.length ((L.map rsE).flatten)),some (.box 119 [(pI y100),(pI y101),(pI y102),(pI y103),(pI y104),(pI y105)]),some (.box 121 [(pB l'107),(pB c'109),(pB o),(pB u),(pI m'111),(pI b'112),(pI f'113)])]⟩
theorem bEt{L:List RS}{L':List RS}(h0:(0:Int)≤i)(h1:dc[i.toNat]? = some [y100,y101,y102,y103,y104,y105])(h2:0≤i)(h3:uni 6 dc)(h4:y101=4)(h5:inR ((L.length:Int)-1))(hl6:aE Tp 0 iG (cI dl sk dc q i L y100 y101 y102 y103 y104 y105 ((L.length:Int)-1) (decide (y102 > dl)) true (!(decide (y102 > dl))) false y104 0 0 false) (.exit 2) (cI dl sk dc q i L y100 y101 y102 y103 y104 y105 k'106 l'107 a'108 c'109 u'110 m'111 b'112 f'113 r'114))(h7:a'108=true)(h8:c'109=true)(hl9:aE Tp 0 rI (eP dl sk dc q i L y100 y101 y102 y103 y104 y105 l'107 c'109 m'111 b'112 f'113 r'114 0 (!r'114) u'110) (.exit 4) (eP dl sk dc q i L y100 y101 y102 y103 y104 y105 l'107 c'109 m'111 b'112 f'113 r'114 n'115 o'116 u'117))(h10:0≤i∧i<(L.length:Int))(h11:[(blP l'107),(blP c'109),(blP o'116),(blP u'117),(aA m'111),(aA b'112),(aA f'113)].length=7∧(i.toNat*7)+7≤((L.map rsE).flatten).length)(h12:inR (i-1))(ei':i'=(i-1))(eL'n:L'.length=L.length)(eL'c:(L'.map rsE).flatten=(((L.map rsE).flatten).take (i.toNat*7)++[(blP l'107),(blP c'109),(blP o'116),(blP u'117),(aA m'111),(aA b'112),(aA f'113)]++((L.map rsE).flatten).drop ((i.toNat*7)+7))):aC Tp 0 wO (gW dl sk dc q i L.length ((L.map rsE).flatten)) .normal (gW dl sk dc q i' L'.length ((L'.map rsE).flatten)):=by
 subst ei';rw [eL'n,eL'c];exact aC.fi (gI [0,1,3,1,7,158] [0,1]) ([bT,.x (dcE y100 y101 y102 y103 y104 y105),bT,bT,bT,bT,hl6.k 10 (gN [0,1,3,1,12,1,14,151] [0,1,2,3] [(9,0),(10,0)])]++rT 6++[hl9.k 4 (gI [0,1,3,1,9,1,11,1,14,151] [0,1,2,3])]) (gc h12 (gc h11 (gc h10 (gc hl9.code (g3c h8 (g3c h7 (gc hl6.code (gc h5 (g4c (bL h4) (gfz h3 h2 h1 (gc (rG h0) gn)))))))))))
theorem bEu{L:List RS}{L':List RS}(h0:(0:Int)≤i)(h1:dc[i.toNat]? = some [y100,y101,y102,y103,y104,y105])(h2:0≤i)(h3:uni 6 dc)(h4:y101=4)(h5:inR ((L.length:Int)-1))(hl6:aE Tp 0 iG (cI dl sk dc q i L y100 y101 y102 y103 y104 y105 ((L.length:Int)-1) (decide (y102 > dl)) true (!(decide (y102 > dl))) false y104 0 0 false) (.exit 2) (cI dl sk dc q i L y100 y101 y102 y103 y104 y105 k'106 l'107 a'108 c'109 u'110 m'111 b'112 f'113 r'114))(h7:a'108=true)(h8:c'109=false)(hl9:aE Tp 0 rI (eP dl sk dc q i L y100 y101 y102 y103 y104 y105 l'107 c'109 m'111 b'112 f'113 r'114 0 false u'110) (.exit 4) (eP dl sk dc q i L y100 y101 y102 y103 y104 y105 l'107 c'109 m'111 b'112 f'113 r'114 n'115 o'116 u'117))(h10:0≤i∧i<(L.length:Int))(h11:[(blP l'107),(blP c'109),(blP o'116),(blP u'117),(aA m'111),(aA b'112),(aA f'113)].length=7∧(i.toNat*7)+7≤((L.map rsE).flatten).length)(h12:inR (i-1))(ei':i'=(i-1))(eL'n:L'.length=L.length)(eL'c:(L'.map rsE).flatten=(((L.map rsE).flatten).take (i.toNat*7)++[(blP l'107),(blP c'109),(blP o'116),(blP u'117),(aA m'111),(aA b'112),(aA f'113)]++((L.map rsE).flatten).drop ((i.toNat*7)+7))):aC Tp 0 wO (gW dl sk dc q i L.length ((L.map rsE).flatten)) .normal (gW dl sk dc q i' L'.length ((L'.map rsE).flatten)):=by
 subst ei';rw [eL'n,eL'c];exact aC.fi (gI [0,1,3,1,7,158] [0,1]) [bT,.x (dcE y100 y101 y102 y103 y104 y105),bT,bT,bT,bT,hl6.k 10 (gN [0,1,3,1,12,1,14,151] [0,1,2,3] [(9,0),(10,0)]),bT,bT,bT,bF,bF,bF,hl9.k 4 (gN [0,1,3,1,9,1,11,1,14,151] [0,1,2,3] [(103002,0)])] (gc h12 (gc h11 (gc h10 (gc hl9.code (g3c h8 (g3c h7 (gc hl6.code (gc h5 (g4c (bL h4) (gfz h3 h2 h1 (gc (rG h0) gn)))))))))))
theorem bEv{L:List RS}{L':List RS}(h0:(0:Int)≤i)(h1:dc[i.toNat]? = some [y100,y101,y102,y103,y104,y105])(h2:0≤i)(h3:uni 6 dc)(h4:y101≠4)(h5:y101=7)(h6:inR ((L.length:Int)-1))(hl7:aE Tp 0 iG (cI dl sk dc q i L y100 y101 y102 y103 y104 y105 ((L.length:Int)-1) (decide (y102 > dl)) (y101 == 7) (!(decide (y102 > dl))) false y104 0 0 false) (.exit 2) (cI dl sk dc q i L y100 y101 y102 y103 y104 y105 k'106 l'107 a'108 c'109 u'110 m'111 b'112 f'113 r'114))(h8:a'108=true)(h9:c'109=true)(hl10:aE Tp 0 rI (eP dl sk dc q i L y100 y101 y102 y103 y104 y105 l'107 c'109 m'111 b'112 f'113 r'114 0 (!r'114) u'110) (.exit 4) (eP dl sk dc q i L y100 y101 y102 y103 y104 y105 l'107 c'109 m'111 b'112 f'113 r'114 n'115 o'116 u'117))(h11:0≤i∧i<(L.length:Int))(h12:[(blP l'107),(blP c'109),(blP o'116),(blP u'117),(aA m'111),(aA b'112),(aA f'113)].length=7∧(i.toNat*7)+7≤((L.map rsE).flatten).length)(h13:inR (i-1))(ei':i'=(i-1))(eL'n:L'.length=L.length)(eL'c:(L'.map rsE).flatten=(((L.map rsE).flatten).take (i.toNat*7)++[(blP l'107),(blP c'109),(blP o'116),(blP u'117),(aA m'111),(aA b'112),(aA f'113)]++((L.map rsE).flatten).drop ((i.toNat*7)+7))):aC Tp 0 wO (gW dl sk dc q i L.length ((L.map rsE).flatten)) .normal (gW dl sk dc q i' L'.length ((L'.map rsE).flatten)):=by
 subst ei';rw [eL'n,eL'c];exact aC.fi (gI [0,1,3,1,7,158] [0,1]) ([bT,.x (dcE y100 y101 y102 y103 y104 y105),bF,bF,bF,bF]++rT 6++[hl7.k 8 (gN [0,1,3,1,12,1,14,151] [0,1,2,3] [(10,0)])]++rT 6++[hl10.k 4 (gI [0,1,3,1,9,1,11,1,14,151] [0,1,2,3])]) (gc h13 (gc h12 (gc h11 (gc hl10.code (g3c h9 (g3c h8 (gc hl7.code (gc h6 (g6c (bL h5) (g4c (aV h4) (gfz h3 h2 h1 (gc (rG h0) gn))))))))))))
theorem bEw{L:List RS}{L':List RS}(h0:(0:Int)≤i)(h1:dc[i.toNat]? = some [y100,y101,y102,y103,y104,y105])(h2:0≤i)(h3:uni 6 dc)(h4:y101≠4)(h5:y101=7)(h6:inR ((L.length:Int)-1))(hl7:aE Tp 0 iG (cI dl sk dc q i L y100 y101 y102 y103 y104 y105 ((L.length:Int)-1) (decide (y102 > dl)) (y101 == 7) (!(decide (y102 > dl))) false y104 0 0 false) (.exit 2) (cI dl sk dc q i L y100 y101 y102 y103 y104 y105 k'106 l'107 a'108 c'109 u'110 m'111 b'112 f'113 r'114))(h8:a'108=true)(h9:c'109=false)(hl10:aE Tp 0 rI (eP dl sk dc q i L y100 y101 y102 y103 y104 y105 l'107 c'109 m'111 b'112 f'113 r'114 0 false u'110) (.exit 4) (eP dl sk dc q i L y100 y101 y102 y103 y104 y105 l'107 c'109 m'111 b'112 f'113 r'114 n'115 o'116 u'117))(h11:0≤i∧i<(L.length:Int))(h12:[(blP l'107),(blP c'109),(blP o'116),(blP u'117),(aA m'111),(aA b'112),(aA f'113)].length=7∧(i.toNat*7)+7≤((L.map rsE).flatten).length)(h13:inR (i-1))(ei':i'=(i-1))(eL'n:L'.length=L.length)(eL'c:(L'.map rsE).flatten=(((L.map rsE).flatten).take (i.toNat*7)++[(blP l'107),(blP c'109),(blP o'116),(blP u'117),(aA m'111),(aA b'112),(aA f'113)]++((L.map rsE).flatten).drop ((i.toNat*7)+7))):aC Tp 0 wO (gW dl sk dc q i L.length ((L.map rsE).flatten)) .normal (gW dl sk dc q i' L'.length ((L'.map rsE).flatten)):=by
 subst ei';rw [eL'n,eL'c];exact aC.fi (gI [0,1,3,1,7,158] [0,1]) ([bT,.x (dcE y100 y101 y102 y103 y104 y105),bF,bF,bF,bF]++rT 6++[hl7.k 8 (gN [0,1,3,1,12,1,14,151] [0,1,2,3] [(10,0)]),bT,bT,bT,bF,bF,bF,hl10.k 4 (gN [0,1,3,1,9,1,11,1,14,151] [0,1,2,3] [(103002,0)])]) (gc h13 (gc h12 (gc h11 (gc hl10.code (g3c h9 (g3c h8 (gc hl7.code (gc h6 (g6c (bL h5) (g4c (aV h4) (gfz h3 h2 h1 (gc (rG h0) gn))))))))))))
theorem bEx{L:List RS}{L':List RS}(h0:(0:Int)≤i)(h1:dc[i.toNat]? = some [y100,y101,y102,y103,y104,y105])(h2:0≤i)(h3:uni 6 dc)(h4:y101≠4)(h5:y101≠7)(h6:inR ((L.length:Int)-1))(hl7:aE Tp 0 iG (cI dl sk dc q i L y100 y101 y102 y103 y104 y105 ((L.length:Int)-1) false (y101 == 7) true false y104 0 0 false) (.exit 2) (cI dl sk dc q i L y100 y101 y102 y103 y104 y105 k'106 l'107 a'108 c'109 u'110 m'111 b'112 f'113 r'114))(h8:a'108=false)(hl9:aE Tp 0 rI (eP dl sk dc q i L y100 y101 y102 y103 y104 y105 l'107 c'109 m'111 b'112 f'113 r'114 0 false u'110) (.exit 4) (eP dl sk dc q i L y100 y101 y102 y103 y104 y105 l'107 c'109 m'111 b'112 f'113 r'114 n'115 o'116 u'117))(h10:0≤i∧i<(L.length:Int))(h11:[(blP l'107),(blP c'109),(blP o'116),(blP u'117),(aA m'111),(aA b'112),(aA f'113)].length=7∧(i.toNat*7)+7≤((L.map rsE).flatten).length)(h12:inR (i-1))(ei':i'=(i-1))(eL'n:L'.length=L.length)(eL'c:(L'.map rsE).flatten=(((L.map rsE).flatten).take (i.toNat*7)++[(blP l'107),(blP c'109),(blP o'116),(blP u'117),(aA m'111),(aA b'112),(aA f'113)]++((L.map rsE).flatten).drop ((i.toNat*7)+7))):aC Tp 0 wO (gW dl sk dc q i L.length ((L.map rsE).flatten)) .normal (gW dl sk dc q i' L'.length ((L'.map rsE).flatten)):=by
 subst ei';rw [eL'n,eL'c];exact aC.fi (gI [0,1,3,1,7,158] [0,1]) ([bT,.x (dcE y100 y101 y102 y103 y104 y105)]++rF 10++[hl7.k 8 (gN [0,1,3,1,12,1,14,151] [0,1,2,3] [(103000,0),(103001,0),(10,0)]),bF,bF,bF,hl9.k 4 (gN [0,1,3,1,9,1,11,1,14,151] [0,1,2,3] [(103002,0)])]) (gc h12 (gc h11 (gc h10 (gc hl9.code (g3c h8 (gc hl7.code (gc h6 (g6c (aV h5) (g4c (aV h4) (gfz h3 h2 h1 (gc (rG h0) gn)))))))))))
theorem bEy{L:List RS}(h0:i<0):aC Tp 0 wO (gW dl sk dc q i L.length ((L.map rsE).flatten)) (.exit 0) (gW dl sk dc q i L.length ((L.map rsE).flatten)):=by
 exact aC.fi (gI [0,1,3,1,7,158] [0,1]) [bF] (gc (mH h0) gn)
theorem bEz{L:List RS}(h0:i<k)(h1:dc[k.toNat]? = some [y200,y201,y202,y203,y204,y205])(h2:0≤k)(h3:uni 6 dc)(h4:y205≠y100)(h5:inR (k-1))(ek':k'=(k-1)):aC Tp 0 iG (cI dl sk dc q i L y100 y101 y102 y103 y104 y105 k l a c u m b f r) .normal (cI dl sk dc q i L y100 y101 y102 y103 y104 y105 k' l a c u m b f r):=by
 subst ek';exact aC.fi (gI [0,1,3,1,12,1,14,151] [0,1,2,3]) ([bT,.x (dcE y200 y201 y202 y203 y204 y205)]++rT 7) (gc h5 (g7c (cZ h4) (gfz h3 h2 h1 (gc (aK h0) gn))))
theorem bFa{L:List RS}(h0:i<k)(h1:dc[k.toNat]? = some [y200,y201,y202,y203,y204,y205])(h2:0≤k)(h3:uni 6 dc)(h4:y205=y100)(h5:0≤k∧k<(L.length:Int))(h6:L[k.toNat]? = some (la206,cn207,op208,up209,mu210,bt211,fr212))(h7:cn207=false)(h8:inR (k-1))(ek':k'=(k-1)):aC Tp 0 iG (cI dl sk dc q i L y100 y101 y102 y103 y104 y105 k l a c u m b f r) .normal (cI dl sk dc q i L y100 y101 y102 y103 y104 y105 k' l a c u m b f r):=by
 subst ek';exact aC.fi (gI [0,1,3,1,12,1,14,151] [0,1,2,3]) ([bT,.x (dcE y200 y201 y202 y203 y204 y205)]++rF 5++[.x (blP cn207),bF,bF,bT]) (gc h8 (gc (bY h7) (g2c (aS h4) (gt (((L.map rsE).flatten)[((k.toNat*7)+1)]? = some (blP cn207)) (bG (E:=rsE) (i:=k.toNat) (f:=1) (k:=7) (fun _=>rfl) h6 rfl) (g2c (aS h4) (gc h5 (g3c (aS h4) (gfz h3 h2 h1 (gc (aK h0) gn)))))))))
theorem aUm{L:List RS}(h0:i<k)(h1:dc[k.toNat]? = some [y200,y201,y202,y203,y204,y205])(h2:0≤k)(h3:uni 6 dc)(h4:y205=y100)(h5:0≤k∧k<(L.length:Int))(h6:L[k.toNat]? = some (la206,cn207,op208,up209,mu210,bt211,fr212))(h7:cn207=true)(h8:y201=5)(h9:y201≤7)(h10:y201≠6)(h11:inR (k-1))(ek':k'=(k-1)):aC Tp 0 iG (cI dl sk dc q i L y100 y101 y102 y103 y104 y105 k l a c u m b f r) .normal (cI dl sk dc q i L y100 y101 y102 y103 y104 y105 k' l a false u m b f r):=by
 subst ek';exact aC.fi (gN [0,1,3,1,12,1,14,151] [0,1,2,3] [(103001,0)]) ([bT,.x (dcE y200 y201 y202 y203 y204 y205)]++rF 5++[.x (blP cn207),bF,bF,bF]++rT 8++rF 7) (gc h11 (g4c (aV h10) (g3c (aN h9) (g8c (bL h8) (gc (aQ h7) (g2c (aS h4) (gt (((L.map rsE).flatten)[((k.toNat*7)+1)]? = some (blP cn207)) (bG (E:=rsE) (i:=k.toNat) (f:=1) (k:=7) (fun _=>rfl) h6 rfl) (g2c (aS h4) (gc h5 (g3c (aS h4) (gfz h3 h2 h1 (gc (aK h0) gn))))))))))))
theorem aUn{L:List RS}(h0:i<k)(h1:dc[k.toNat]? = some [y200,y201,y202,y203,y204,y205])(h2:0≤k)(h3:uni 6 dc)(h4:y205=y100)(h5:0≤k∧k<(L.length:Int))(h6:L[k.toNat]? = some (la206,cn207,op208,up209,mu210,bt211,fr212))(h7:cn207=true)(h8:y201≠5)(h9:y201=7)(h10:up209=true)(h11:y101<8)(h12:y201≤7)(h13:y201≠6)(h14:inR (k-1))(ek':k'=(k-1)):aC Tp 0 iG (cI dl sk dc q i L y100 y101 y102 y103 y104 y105 k l a c u m b f r) .normal (cI dl sk dc q i L y100 y101 y102 y103 y104 y105 k' l a false u m b f r):=by
 subst ek';exact aC.fi (gN [0,1,3,1,12,1,14,151] [0,1,2,3] [(103001,0)]) ([bT,.x (dcE y200 y201 y202 y203 y204 y205)]++rF 5++[.x (blP cn207)]++rF 7++rT 5++[.x (blP up209),bF,bT,bF,bT,bT,bT,bF,bT,bF,bT]++rF 7) (gc h14 (g4c (aV h13) (g3c (aN h12) (gc (aK h11) (gc (aV h8) (gc h10 (gc (aV h8) (g3c h10 (gc (aV h8) (gc (bL h9) (gc (aV h8) (gt (((L.map rsE).flatten)[((k.toNat*7)+3)]? = some (blP up209)) (bG (E:=rsE) (i:=k.toNat) (f:=3) (k:=7) (fun _=>rfl) h6 rfl) (g2c (bL h9) (gc h5 (g3c (bL h9) (g4c (aV h8) (gc (aQ h7) (g2c (aS h4) (gt (((L.map rsE).flatten)[((k.toNat*7)+1)]? = some (blP cn207)) (bG (E:=rsE) (i:=k.toNat) (f:=1) (k:=7) (fun _=>rfl) h6 rfl) (g2c (aS h4) (gc h5 (g3c (aS h4) (gfz h3 h2 h1 (gc (aK h0) gn))))))))))))))))))))))))
theorem aUo{L:List RS}(h0:i<k)(h1:dc[k.toNat]? = some [y200,y201,y202,y203,y204,y205])(h2:0≤k)(h3:uni 6 dc)(h4:y205=y100)(h5:0≤k∧k<(L.length:Int))(h6:L[k.toNat]? = some (la206,cn207,op208,up209,mu210,bt211,fr212))(h7:cn207=true)(h8:y201≠5)(h9:y201=7)(h10:up209=true)(h11:(8:Int)≤y101)(h12:y201≤7)(h13:y201≠6)(h14:inR (k-1))(ek':k'=(k-1)):aC Tp 0 iG (cI dl sk dc q i L y100 y101 y102 y103 y104 y105 k l a c u m b f r) .normal (cI dl sk dc q i L y100 y101 y102 y103 y104 y105 k' l a c u m b f r):=by
 subst ek';exact aC.fi (gI [0,1,3,1,12,1,14,151] [0,1,2,3]) ([bT,.x (dcE y200 y201 y202 y203 y204 y205)]++rF 5++[.x (blP cn207)]++rF 7++rT 5++[.x (blP up209),bF,bT,bF,bT,bT,bT,bF,bT]++rF 9) (gc h14 (g4c (aV h13) (g3c (aN h12) (gc (aN h11) (gc (aV h8) (gc h10 (gc (aV h8) (g3c h10 (gc (aV h8) (gc (bL h9) (gc (aV h8) (gt (((L.map rsE).flatten)[((k.toNat*7)+3)]? = some (blP up209)) (bG (E:=rsE) (i:=k.toNat) (f:=3) (k:=7) (fun _=>rfl) h6 rfl) (g2c (bL h9) (gc h5 (g3c (bL h9) (g4c (aV h8) (gc (aQ h7) (g2c (aS h4) (gt (((L.map rsE).flatten)[((k.toNat*7)+1)]? = some (blP cn207)) (bG (E:=rsE) (i:=k.toNat) (f:=1) (k:=7) (fun _=>rfl) h6 rfl) (g2c (aS h4) (gc h5 (g3c (aS h4) (gfz h3 h2 h1 (gc (aK h0) gn))))))))))))))))))))))))
theorem aUp{L:List RS}(h0:i<k)(h1:dc[k.toNat]? = some [y200,y201,y202,y203,y204,y205])(h2:0≤k)(h3:uni 6 dc)(h4:y205=y100)(h5:0≤k∧k<(L.length:Int))(h6:L[k.toNat]? = some (la206,cn207,op208,up209,mu210,bt211,fr212))(h7:cn207=true)(h8:y201≠5)(h9:y201=7)(h10:up209=false)(h11:y201≤7)(h12:y201≠6)(h13:inR (k-1))(ek':k'=(k-1)):aC Tp 0 iG (cI dl sk dc q i L y100 y101 y102 y103 y104 y105 k l a c u m b f r) .normal (cI dl sk dc q i L y100 y101 y102 y103 y104 y105 k' l a c u m b f r):=by
 subst ek';exact aC.fi (gI [0,1,3,1,12,1,14,151] [0,1,2,3]) ([bT,.x (dcE y200 y201 y202 y203 y204 y205)]++rF 5++[.x (blP cn207)]++rF 7++rT 5++[.x (blP up209),bF,bT]++rF 14) (gc h13 (g4c (aV h12) (g3c (aN h11) (gc (aV h8) (gc h10 (gc (aV h8) (g3c h10 (gc (aV h8) (gc (bL h9) (gc (aV h8) (gt (((L.map rsE).flatten)[((k.toNat*7)+3)]? = some (blP up209)) (bG (E:=rsE) (i:=k.toNat) (f:=3) (k:=7) (fun _=>rfl) h6 rfl) (g2c (bL h9) (gc h5 (g3c (bL h9) (g4c (aV h8) (gc (aQ h7) (g2c (aS h4) (gt (((L.map rsE).flatten)[((k.toNat*7)+1)]? = some (blP cn207)) (bG (E:=rsE) (i:=k.toNat) (f:=1) (k:=7) (fun _=>rfl) h6 rfl) (g2c (aS h4) (gc h5 (g3c (aS h4) (gfz h3 h2 h1 (gc (aK h0) gn)))))))))))))))))))))))
theorem aUq{L:List RS}{u':Bool}(h0:i<k)(h1:dc[k.toNat]? = some [y200,y201,y202,y203,y204,y205])(h2:0≤k)(h3:uni 6 dc)(h4:y205=y100)(h5:0≤k∧k<(L.length:Int))(h6:L[k.toNat]? = some (la206,cn207,op208,up209,mu210,bt211,fr212))(h7:cn207=true)(h8:y201≠5)(h9:y201≠7)(h10:(7:Int)<y201)(h11:r=false)(h12:y201≠6)(h13:inR (k-1))(ek':k'=(k-1))(eu':u'=(y201 == 8)):aC Tp 0 iG (cI dl sk dc q i L y100 y101 y102 y103 y104 y105 k l a c u m b f r) .normal (cI dl sk dc q i L y100 y101 y102 y103 y104 y105 k' l a c u' m y200 f true):=by
 subst ek' eu';exact aC.fi (gN [0,1,3,1,12,1,14,151] [0,1,2,3] [(10,0)]) ([bT,.x (dcE y200 y201 y202 y203 y204 y205)]++rF 5++[.x (blP cn207)]++rF 17++[bT,bT,bT,bT,bF,bF,bF,bF]) (gc h13 (g4c (aV h12) (gc (bY h11) (g3c (aK h10) (g3c (aV h8) (gc (aV h9) (gc (aV h8) (g5c (aV h9) (g4c (aV h8) (gc (aQ h7) (g2c (aS h4) (gt (((L.map rsE).flatten)[((k.toNat*7)+1)]? = some (blP cn207)) (bG (E:=rsE) (i:=k.toNat) (f:=1) (k:=7) (fun _=>rfl) h6 rfl) (g2c (aS h4) (gc h5 (g3c (aS h4) (gfz h3 h2 h1 (gc (aK h0) gn)))))))))))))))))
theorem aUr{L:List RS}(h0:i<k)(h1:dc[k.toNat]? = some [y200,y201,y202,y203,y204,y205])(h2:0≤k)(h3:uni 6 dc)(h4:y205=y100)(h5:0≤k∧k<(L.length:Int))(h6:L[k.toNat]? = some (la206,cn207,op208,up209,mu210,bt211,fr212))(h7:cn207=true)(h8:y201≠5)(h9:y201≠7)(h10:(7:Int)<y201)(h11:r=true)(h12:y201≠6)(h13:inR (k-1))(ek':k'=(k-1)):aC Tp 0 iG (cI dl sk dc q i L y100 y101 y102 y103 y104 y105 k l a c u m b f r) .normal (cI dl sk dc q i L y100 y101 y102 y103 y104 y105 k' l a c u m b f r):=by
 subst ek';exact aC.fi (gI [0,1,3,1,12,1,14,151] [0,1,2,3]) ([bT,.x (dcE y200 y201 y202 y203 y204 y205)]++rF 5++[.x (blP cn207)]++rF 17++[bT,bT,bT]++rF 5) (gc h13 (g4c (aV h12) (gc (aQ h11) (g3c (aK h10) (g3c (aV h8) (gc (aV h9) (gc (aV h8) (g5c (aV h9) (g4c (aV h8) (gc (aQ h7) (g2c (aS h4) (gt (((L.map rsE).flatten)[((k.toNat*7)+1)]? = some (blP cn207)) (bG (E:=rsE) (i:=k.toNat) (f:=1) (k:=7) (fun _=>rfl) h6 rfl) (g2c (aS h4) (gc h5 (g3c (aS h4) (gfz h3 h2 h1 (gc (aK h0) gn)))))))))))))))))
theorem aUs{L:List RS}(h0:i<k)(h1:dc[k.toNat]? = some [y200,y201,y202,y203,y204,y205])(h2:0≤k)(h3:uni 6 dc)(h4:y205=y100)(h5:0≤k∧k<(L.length:Int))(h6:L[k.toNat]? = some (la206,cn207,op208,up209,mu210,bt211,fr212))(h7:cn207=true)(h8:y201≠5)(h9:y201≠7)(h10:y201≤7)(h11:y201=6)(h12:f=0)(h13:inR (k-1))(ek':k'=(k-1)):aC Tp 0 iG (cI dl sk dc q i L y100 y101 y102 y103 y104 y105 k l a c u m b f r) .normal (cI dl sk dc q i L y100 y101 y102 y103 y104 y105 k' l a c u mu210 b y200 r):=by
 subst ek';exact aC.fi (gI [0,1,3,1,12,1,14,151] [0,1,2,3]) ([bT,.x (dcE y200 y201 y202 y203 y204 y205)]++rF 5++[.x (blP cn207)]++rF 20++rT 5++[.x (aA mu210)]) (gc h13 (gt (((L.map rsE).flatten)[((k.toNat*7)+4)]? = some (aA mu210)) (bG (E:=rsE) (i:=k.toNat) (f:=4) (k:=7) (fun _=>rfl) h6 rfl) (gc h5 (gc (bL h12) (g4c (bL h11) (g3c (aN h10) (g3c (aV h8) (gc (aV h9) (gc (aV h8) (g5c (aV h9) (g4c (aV h8) (gc (aQ h7) (g2c (aS h4) (gt (((L.map rsE).flatten)[((k.toNat*7)+1)]? = some (blP cn207)) (bG (E:=rsE) (i:=k.toNat) (f:=1) (k:=7) (fun _=>rfl) h6 rfl) (g2c (aS h4) (gc h5 (g3c (aS h4) (gfz h3 h2 h1 (gc (aK h0) gn)))))))))))))))))))
theorem aUt{L:List RS}(h0:i<k)(h1:dc[k.toNat]? = some [y200,y201,y202,y203,y204,y205])(h2:0≤k)(h3:uni 6 dc)(h4:y205=y100)(h5:0≤k∧k<(L.length:Int))(h6:L[k.toNat]? = some (la206,cn207,op208,up209,mu210,bt211,fr212))(h7:cn207=true)(h8:y201≠5)(h9:y201≠7)(h10:y201≤7)(h11:y201=6)(h12:f≠0)(h13:inR (k-1))(ek':k'=(k-1)):aC Tp 0 iG (cI dl sk dc q i L y100 y101 y102 y103 y104 y105 k l a c u m b f r) .normal (cI dl sk dc q i L y100 y101 y102 y103 y104 y105 k' l a c u m b f r):=by
 subst ek';exact aC.fi (gI [0,1,3,1,12,1,14,151] [0,1,2,3]) ([bT,.x (dcE y200 y201 y202 y203 y204 y205)]++rF 5++[.x (blP cn207)]++rF 20++[bT,bT,bT,bT,bF]) (gc h13 (gc (aV h12) (g4c (bL h11) (g3c (aN h10) (g3c (aV h8) (gc (aV h9) (gc (aV h8) (g5c (aV h9) (g4c (aV h8) (gc (aQ h7) (g2c (aS h4) (gt (((L.map rsE).flatten)[((k.toNat*7)+1)]? = some (blP cn207)) (bG (E:=rsE) (i:=k.toNat) (f:=1) (k:=7) (fun _=>rfl) h6 rfl) (g2c (aS h4) (gc h5 (g3c (aS h4) (gfz h3 h2 h1 (gc (aK h0) gn)))))))))))))))))
theorem aUu{L:List RS}(h0:i<k)(h1:dc[k.toNat]? = some [y200,y201,y202,y203,y204,y205])(h2:0≤k)(h3:uni 6 dc)(h4:y205=y100)(h5:0≤k∧k<(L.length:Int))(h6:L[k.toNat]? = some (la206,cn207,op208,up209,mu210,bt211,fr212))(h7:cn207=true)(h8:y201≠5)(h9:y201≠7)(h10:y201≤7)(h11:y201≠6)(h12:inR (k-1))(ek':k'=(k-1)):aC Tp 0 iG (cI dl sk dc q i L y100 y101 y102 y103 y104 y105 k l a c u m b f r) .normal (cI dl sk dc q i L y100 y101 y102 y103 y104 y105 k' l a c u m b f r):=by
 subst ek';exact aC.fi (gI [0,1,3,1,12,1,14,151] [0,1,2,3]) ([bT,.x (dcE y200 y201 y202 y203 y204 y205)]++rF 5++[.x (blP cn207)]++rF 24) (gc h12 (g4c (aV h11) (g3c (aN h10) (g3c (aV h8) (gc (aV h9) (gc (aV h8) (g5c (aV h9) (g4c (aV h8) (gc (aQ h7) (g2c (aS h4) (gt (((L.map rsE).flatten)[((k.toNat*7)+1)]? = some (blP cn207)) (bG (E:=rsE) (i:=k.toNat) (f:=1) (k:=7) (fun _=>rfl) h6 rfl) (g2c (aS h4) (gc h5 (g3c (aS h4) (gfz h3 h2 h1 (gc (aK h0) gn))))))))))))))))
theorem aUv{L:List RS}(h0:k≤i):aC Tp 0 iG (cI dl sk dc q i L y100 y101 y102 y103 y104 y105 k l a c u m b f r) (.exit 2) (cI dl sk dc q i L y100 y101 y102 y103 y104 y105 k l a c u m b f r):=by
 exact aC.fi (gI [0,1,3,1,12,1,14,151] [0,1,2,3]) [bF] (gc (aN h0) gn)
theorem bFb{L:List RS}(h0:(n:Int)<(q.length:Int))(h1:r'114=false)(h2:q[n]? = some x300)(h3:x300=y100)(h4:inR (((n+1):Nat):Int))(en':n'=(n+1)):aC Tp 0 rI (eP dl sk dc q i L y100 y101 y102 y103 y104 y105 l'107 c'109 m'111 b'112 f'113 r'114 n o u) .normal (eP dl sk dc q i L y100 y101 y102 y103 y104 y105 l'107 c'109 m'111 b'112 f'113 r'114 n' o true):=by
 subst en';exact aC.fi (gN [0,1,3,1,9,1,11,1,14,151] [0,1,2,3] [(103003,0)]) (rT 5++[.x (aA x300)]++rT 5) (gc h4 (gc (bL h3) (g4c (bY h1) (gc (atm aA h2) (gc (bY h1) (gc (ixn aA h2) (g3c (bY h1) (gc (aK h0) gn))))))))
theorem bFc{L:List RS}(h0:(n:Int)<(q.length:Int))(h1:r'114=false)(h2:q[n]? = some x300)(h3:x300≠y100)(h4:inR (((n+1):Nat):Int))(en':n'=(n+1)):aC Tp 0 rI (eP dl sk dc q i L y100 y101 y102 y103 y104 y105 l'107 c'109 m'111 b'112 f'113 r'114 n o u) .normal (eP dl sk dc q i L y100 y101 y102 y103 y104 y105 l'107 c'109 m'111 b'112 f'113 r'114 n' o u):=by
 subst en';exact aC.fi (gI [0,1,3,1,9,1,11,1,14,151] [0,1,2,3]) (rT 5++[.x (aA x300),bT,bT,bT,bT,bF]) (gc h4 (gc (aV h3) (g4c (bY h1) (gc (atm aA h2) (gc (bY h1) (gc (ixn aA h2) (g3c (bY h1) (gc (aK h0) gn))))))))
theorem bFd{L:List RS}(h0:(n:Int)<(q.length:Int))(h1:r'114=true)(h2:inR (((n+1):Nat):Int))(en':n'=(n+1)):aC Tp 0 rI (eP dl sk dc q i L y100 y101 y102 y103 y104 y105 l'107 c'109 m'111 b'112 f'113 r'114 n o u) .normal (eP dl sk dc q i L y100 y101 y102 y103 y104 y105 l'107 c'109 m'111 b'112 f'113 r'114 n' o u):=by
 subst en';exact aC.fi (gI [0,1,3,1,9,1,11,1,14,151] [0,1,2,3]) ([bT]++rF 8) (gc h2 (g8c (aQ h1) (gc (aK h0) gn)))
theorem bFe{L:List RS}(h0:(q.length:Int)≤(n:Int)):aC Tp 0 rI (eP dl sk dc q i L y100 y101 y102 y103 y104 y105 l'107 c'109 m'111 b'112 f'113 r'114 n o u) (.exit 4) (eP dl sk dc q i L y100 y101 y102 y103 y104 y105 l'107 c'109 m'111 b'112 f'113 r'114 n o u):=by
 exact aC.fi (gI [0,1,3,1,9,1,11,1,14,151] [0,1,2,3]) [bF] (gc (aN h0) gn)
end
section
theorem bTq{dl:Int}{sk dc:Lqq}{q:List Int}{i:Int}{L:List RS}{y100 y101 y102 y103 y104 y105 k:Int}{l a c u:Bool}{m b f:Int}{r:Bool}{y200 y201 y202 y203 y204 y205:Int}{la206 cn207 op208 up209:Bool}{mu210 bt211 fr212:Int}(hik:i<k)(hx:dc[k.toNat]? = some [y200,y201,y202,y203,y204,y205])(hk0:0≤k)(hu:uni 6 dc)(hkl:k<(L.length:Int))(hL:L[k.toNat]? = some (la206,cn207,op208,up209,mu210,bt211,fr212))(hin:inR (k-(1:Int))) :
  aC Tp 0 (sub (cd Tryz.f75) [1,1,0,1,0,0,1,0,0,1,1,1,1,1,1,0,1,0,0]) (cI dl sk dc q i L y100 y101 y102 y103 y104 y105 k l a c u m b f r) .normal (cI dl sk dc q i L y100 y101 y102 y103 y104 y105 (k-1) l a (if (y205=y100∧cn207=true)∧(y201=5∨(y201=7∧up209=true∧y101<8)) then false else c) (if (y205=y100∧cn207=true)∧7<y201∧r=false then y201 == 8 else u) (if (y205=y100∧cn207=true)∧y201=6∧f=0 then mu210 else m) (if (y205=y100∧cn207=true)∧7<y201∧r=false then y200 else b) (if (y205=y100∧cn207=true)∧y201=6∧f=0 then y200 else f) (if (y205=y100∧cn207=true)∧7<y201 then true else r)):=by
 by_cases d0:y205=y100
 ·by_cases d1:cn207=true
  ·by_cases d2:y201=(5:Int)
   ·by_cases d3:(7:Int)<y201
    ·by_cases d4:r=true
     ·by_cases d5:y201=(6:Int)
      ·by_cases d6:f=(0:Int)
       ·exfalso;omega
       ·exfalso;omega
      ·exfalso;omega
     ·by_cases d5:y201=(6:Int)
      ·by_cases d6:f=(0:Int)
       ·exfalso;omega
       ·exfalso;omega
      ·exfalso;omega
    ·by_cases d4:y201=(6:Int)
     ·by_cases d5:f=(0:Int)
      ·exfalso;omega
      ·exfalso;omega
     ·exact (aUm hik hx hk0 hu d0 ⟨hk0,hkl⟩ hL d1 d2 (by omega) d4 hin rfl).cast (by simp [d0,d1,d2,d3,d4])
   ·by_cases d3:y201=(7:Int)
    ·by_cases d4:up209=true
     ·by_cases d5:y101<(8:Int)
      ·by_cases d6:(7:Int)<y201
       ·by_cases d7:r=true
        ·by_cases d8:y201=(6:Int)
         ·by_cases d9:f=(0:Int)
          ·exfalso;omega
          ·exfalso;omega
         ·exfalso;omega
        ·by_cases d8:y201=(6:Int)
         ·by_cases d9:f=(0:Int)
          ·exfalso;omega
          ·exfalso;omega
         ·exfalso;omega
       ·by_cases d7:y201=(6:Int)
        ·by_cases d8:f=(0:Int)
         ·exfalso;omega
         ·exfalso;omega
        ·exact (aUn hik hx hk0 hu d0 ⟨hk0,hkl⟩ hL d1 d2 d3 d4 d5 (by omega) d7 hin rfl).cast (by simp [d0,d1,d2,d3,d4,d5,d6,d7])
      ·by_cases d6:(7:Int)<y201
       ·by_cases d7:r=true
        ·by_cases d8:y201=(6:Int)
         ·by_cases d9:f=(0:Int)
          ·exfalso;omega
          ·exfalso;omega
         ·exfalso;omega
        ·by_cases d8:y201=(6:Int)
         ·by_cases d9:f=(0:Int)
          ·exfalso;omega
          ·exfalso;omega
         ·exfalso;omega
       ·by_cases d7:y201=(6:Int)
        ·by_cases d8:f=(0:Int)
         ·exfalso;omega
         ·exfalso;omega
        ·exact (aUo hik hx hk0 hu d0 ⟨hk0,hkl⟩ hL d1 d2 d3 d4 (by omega) (by omega) d7 hin rfl).cast (by simp [d0,d1,d2,d3,d4,d5,d6,d7])
     ·by_cases d5:(7:Int)<y201
      ·by_cases d6:r=true
       ·by_cases d7:y201=(6:Int)
        ·by_cases d8:f=(0:Int)
         ·exfalso;omega
         ·exfalso;omega
        ·exfalso;omega
       ·by_cases d7:y201=(6:Int)
        ·by_cases d8:f=(0:Int)
         ·exfalso;omega
         ·exfalso;omega
        ·exfalso;omega
      ·by_cases d6:y201=(6:Int)
       ·by_cases d7:f=(0:Int)
        ·exfalso;omega
        ·exfalso;omega
       ·exact (aUp hik hx hk0 hu d0 ⟨hk0,hkl⟩ hL d1 d2 d3 (by simpa using d4) (by omega) d6 hin rfl).cast (by simp [d0,d1,d2,d3,d4,d5,d6])
    ·by_cases d4:(7:Int)<y201
     ·by_cases d5:r=true
      ·by_cases d6:y201=(6:Int)
       ·by_cases d7:f=(0:Int)
        ·exfalso;omega
        ·exfalso;omega
       ·exact (aUr hik hx hk0 hu d0 ⟨hk0,hkl⟩ hL d1 d2 d3 d4 d5 d6 hin rfl).cast (by simp [d0,d1,d2,d3,d4,d5,d6])
      ·by_cases d6:y201=(6:Int)
       ·by_cases d7:f=(0:Int)
        ·exfalso;omega
        ·exfalso;omega
       ·exact (aUq hik hx hk0 hu d0 ⟨hk0,hkl⟩ hL d1 d2 d3 d4 (by simpa using d5) d6 hin rfl rfl).cast (by simp [d0,d1,d2,d3,d4,d5,d6])
     ·by_cases d5:y201=(6:Int)
      ·by_cases d6:f=(0:Int)
       ·exact (aUs hik hx hk0 hu d0 ⟨hk0,hkl⟩ hL d1 d2 d3 (by omega) d5 d6 hin rfl).cast (by simp [d0,d1,d2,d3,d4,d5,d6])
       ·exact (aUt hik hx hk0 hu d0 ⟨hk0,hkl⟩ hL d1 d2 d3 (by omega) d5 d6 hin rfl).cast (by simp [d0,d1,d2,d3,d4,d5,d6])
      ·exact (aUu hik hx hk0 hu d0 ⟨hk0,hkl⟩ hL d1 d2 d3 (by omega) d5 hin rfl).cast (by simp [d0,d1,d2,d3,d4,d5])
  ·exact (bFa hik hx hk0 hu d0 ⟨hk0,hkl⟩ hL (by simpa using d1) hin rfl).cast (by simp [d0,d1])
 ·exact (bEz hik hx hk0 hu d0 hin rfl).cast (by simp [d0])
end
section

abbrev dN(x:List Int):Int:=x.getD 0 0
abbrev dK(x:List Int):Int:=x.getD 1 0
abbrev dMi(x:List Int):Int:=x.getD 2 0
abbrev dB(x:List Int):Int:=x.getD 3 0
abbrev dMu(x:List Int):Int:=x.getD 4 0
abbrev dAb(x:List Int):Int:=x.getD 5 0
def fA(k:Int):Bool:=k == 4 || k == 7
def cR(k:Int):Bool:=k == 8 || k == 9

def cC(dc:Lqq)(n:Int):Lqq:=dc.reverse.filter fun x=>dAb x == n

structure DS where
 x:List Int
 cnt:Bool
 upd:Bool
 rul:Option (List Int)
 chg:Option (List Int)
 much:Int

def dY(t:List DS)(n:Int):List DS:=t.reverse.filter fun s=>dAb s.x == n
def iB(dl:Int)(x:List Int):Bool:=fA (dK x) && decide (dl<dMi x)
def vS(x:List Int)(y:List Int):Bool:=dK y == 5 || (dK y == 7 && !cR (dK x))
def sC(x:List Int)(s:DS):Bool:=vS x s.x && s.cnt && (dK s.x == 5 || s.upd)
def mkS(dl:Int)(oc:List Int)(x:List Int)(t:List DS):DS :=
 ⟨x,!iB dl x && !((dY t (dN x)).any (sC x)),
  match (dY t (dN x)).find? fun s=>cR (dK s.x) && s.cnt with
   | some s=>dK s.x == 8
   | none=>oc.contains (dN x),
  ((dY t (dN x)).find? fun s=>cR (dK s.x) && s.cnt).map (·.x),
  ((dY t (dN x)).find? fun s=>dK s.x == 6 && s.cnt).map (·.x),
  match (dY t (dN x)).find? fun s=>dK s.x == 6 && s.cnt with
   | some s=>s.much
   | none=>dMu x⟩
def bH(dl:Int)(oc:List Int):Lqq→List DS
 | []=>[]
 | x::r=>mkS dl oc x (bH dl oc r)::bH dl oc r

theorem wW(dl:Int)(oc:List Int):∀ dc:Lqq,(bH dl oc dc).map (·.x)=dc
 | []=>rfl
 | x::r=>by rw [bH,gH,wW dl oc r];rfl
theorem gJ(dl:Int)(oc:List Int)(dc:Lqq):(bH dl oc dc).length=dc.length:=by
 have:=congrArg List.length (wW dl oc dc);simpa using this
theorem bVc(dl:Int)(oc:List Int)(dc:Lqq)(n:Int):(dY (bH dl oc dc) n).map (·.x)=cC dc n:=by
 unfold dY cC
 conv=>rhs;rw [← wW dl oc dc]
 rw [← List.map_reverse,List.filter_map];rfl

structure bD (dc:Lqq):Prop where
 ud:uni 6 dc
 len:dc.length≤1000
 rng:∀ x∈dc,dcB x=true
 up:dc.Pairwise fun a b=>dN a<dN b
 ord:∀ x∈dc,orB x=true

theorem bD.tail{x:List Int}{r:Lqq}(h:bD (x::r)):bD r :=
 ⟨fun y hy=>h.ud y (kQ7 _ hy),by have:=h.len;simp at this;omega,fun y hy=>h.rng y (kQ7 _ hy),(aHe.1 h.up).2,fun y hy=>h.ord y (kQ7 _ hy)⟩
theorem aVp{a r:Lqq}{x:List Int}(h:bD (a++x::r)):cC (a++x::r) (dN x)=cC r (dN x):=by
 unfold cC;have e:a++x::r=(a++[x])++r:=by simp
 rw [e,List.reverse_append,oU];have:(a++[x]).reverse.filter (fun y=>dAb y == dN x)=[]:=by
  rw [List.filter_eq_nil_iff];intro y hy;have hy:y∈a++[x]:=aCd.1 hy;have hm:y∈a++x::r:=by rw [e];exact oT _ hy
  have hx1:1≤dN x:=(iA.1 (h.rng x (by simp))).1.1
  have hle:dN y≤dN x:=by
   rcases jK.1 hy with hy | hy
   ·exact Int.le_of_lt ((List.pairwise_append.1 h.up).2.2 y hy x (by simp))
   ·simp at hy;rw [hy];exact Int.le_refl _
  have ho:=h.ord y hm;unfold orB at ho
  simp only [beq_iff_eq];show ¬ y.getD 5 0=x.getD 0 0
  split at ho
  ·have:y.getD 5 0=0:=by simpa using ho
   unfold dN at hx1;omega
  ·have:=bV.1 ho
   unfold dN at hle;omega
 rw [this,List.append_nil]

def aBn(L:List (Int × Lqq))(k:Int):Lqq:=match L.find? fun e=>e.1 == k with
 | some e=>e.2
 | none=>[]
def aHj(L:List (Int × Lqq))(k:Int)(v:Lqq):List (Int × Lqq):=if L.any (fun e=>e.1 == k) then L.map (fun e=>if e.1 == k then (k,v) else e) else L++[(k,v)]
def jR(L:List (Int × Lqq))(x:List Int):List (Int × Lqq):=if 0<dAb x then aHj L (dAb x) (aBn L (dAb x)++[x]) else L
def abM(dc:Lqq):List (Int × Lqq):=dc.reverse.foldl jR []

structure aQn (q:Lqq) (L:List (Int × Lqq)):Prop where
 nd:(L.map (·.1)).Nodup
 mem:∀ e∈L,0<e.1∧e.2≠[]∧e.2=q.filter fun x=>dAb x == e.1
 all:∀ x∈q,0<dAb x→dAb x∈L.map (·.1)
theorem aQn.look{q:Lqq}{L:List (Int × Lqq)}(h:aQn q L){n:Int}(hn:0<n):aBn L n=q.filter fun x=>dAb x == n:=by
 unfold aBn;cases hf:L.find? fun e=>e.1 == n with
 | some e =>
  have h1:=rD hf;have h2:e.1=n:=by simpa using aHh hf
  rw [← h2];exact (h.mem e h1).2.2
 | none =>
  symm;rw [List.filter_eq_nil_iff];intro x hx he;have he:dAb x=n:=by simpa using he
  obtain ⟨e,h1,h2⟩:=dJ.1 (h.all x hx (by omega))
  have:=aCc.1 hf e h1;exact this (by rw [h2,he];exact beq_self_eq_true n)
theorem bPc{L:List (Int × Lqq)}{k:Int}{v:Lqq}{e:Int × Lqq}(h:e∈aHj L k v):e=(k,v)∨(e∈L∧e.1≠k):=by
 unfold aHj at h
 split at h
 ·obtain ⟨z,hz,rfl⟩:=dJ.1 h
  by_cases hk:z.1=k
  ·left;simp [hk]
  ·right;simp [hk,hz]
 ·rename_i hn
  rcases jK.1 h with h | h
  ·right
   refine ⟨h,fun hk=>hn (List.any_eq_true.2 ⟨e,h,by simpa using hk⟩)⟩
  ·left;simpa using h
theorem bHp{L:List (Int × Lqq)}{k:Int}{v:Lqq}:(k∈L.map (·.1)∧(aHj L k v).map (·.1)=L.map (·.1))∨(k∉L.map (·.1)∧(aHj L k v).map (·.1)=L.map (·.1)++[k]):=by
 unfold aHj
 by_cases h:L.any (fun e=>e.1 == k)=true
 ·left
  rw [if_pos h];refine ⟨?_,?_⟩
  ·obtain ⟨e,h1,h2⟩:=List.any_eq_true.1 h
   exact dJ.2 ⟨e,h1,by simpa using h2⟩
  ·rw [vF]
   refine aCb fun e _ => ?_
   by_cases hk:e.1=k
   ·simp [hk]
   ·simp [hk]
 ·right
  rw [if_neg h];refine ⟨fun hm=>h ?_,by simp⟩
  obtain ⟨e,h1,h2⟩:=dJ.1 hm;exact List.any_eq_true.2 ⟨e,h1,by simpa using h2⟩
theorem aQn.step{q:Lqq}{L:List (Int × Lqq)}(h:aQn q L)(x:List Int)(hx:0≤dAb x):aQn (q++[x]) (jR L x):=by
 unfold jR
 by_cases hp:0<dAb x
 ·rw [if_pos hp]
  have hk:=bHp (L:=L) (k:=dAb x) (v:=aBn L (dAb x)++[x]);refine ⟨?_,fun e he => ?_,fun y hy h0 => ?_⟩
  ·rcases hk with ⟨_,hk⟩ | ⟨hn,hk⟩
   ·rw [hk];exact h.nd
   ·rw [hk,List.nodup_append]
    exact ⟨h.nd,by simp,fun a ha b hb he=>hn (by rw [← List.mem_singleton.1 hb,← he];exact ha)⟩
  ·rcases bPc he with rfl | ⟨h1,h2⟩
   ·refine ⟨hp,by simp,?_⟩
    dsimp only;rw [h.look hp,oU];simp
   ·obtain ⟨q1,q2,q3⟩:=h.mem e h1
    refine ⟨q1,q2,?_⟩;rw [oU,← q3];have:[x].filter (fun y=>dAb y == e.1)=[]:=by
     rw [List.filter_eq_nil_iff];intro y hy;simp at hy
     subst hy;simpa using fun he=>h2 he.symm
    rw [this,List.append_nil]
  ·have:dAb y=dAb x∨dAb y∈L.map (·.1):=by
    rcases jK.1 hy with hy | hy
    ·exact .inr (h.all y hy h0)
    ·simp at hy;left;rw [hy]
   rcases hk with ⟨hm,hk⟩ | ⟨hn,hk⟩
   ·rw [hk]
    rcases this with h1 | h1
    ·rw [h1];exact hm
    ·exact h1
   ·rw [hk]
    rcases this with h1 | h1
    ·rw [h1];simp
    ·exact oT _ h1
 ·rw [if_neg hp]
  have h0:dAb x=0:=by omega
  refine ⟨h.nd,fun e he => ?_,fun y hy h1 => ?_⟩
  ·obtain ⟨q1,q2,q3⟩:=h.mem e he
   refine ⟨q1,q2,?_⟩;rw [oU,← q3];have:[x].filter (fun y=>dAb y == e.1)=[]:=by
    rw [List.filter_eq_nil_iff];intro y hy;simp at hy
    subst hy;simp only [beq_iff_eq];omega
   rw [this,List.append_nil]
  ·rcases jK.1 hy with hy | hy
   ·exact h.all y hy h1
   ·simp at hy;rw [hy] at h1;omega
theorem zV:∀ (p q:Lqq) (L:List (Int × Lqq)),aQn q L→(∀ x∈p,0≤dAb x)→aQn (q++p) (p.foldl jR L)
 | [],q,L,h,_=>by simpa using h
 | x::p,q,L,h,hp=>by
  have:=zV p (q++[x]) (jR L x) (h.step x (hp x (jJ ..))) (fun y hy=>hp y (kQ7 _ hy))
  simpa using this
theorem nB{dc:Lqq}(h:bD dc):∀ x∈dc,0≤dAb x∧dAb x≤9998:=fun x hx=>by
 have h1:=iA.1 (h.rng x hx);have ho:=h.ord x hx;unfold orB at ho
 show 0≤x.getD 5 0∧x.getD 5 0≤9998
 split at ho
 ·have:x.getD 5 0=0:=by simpa using ho
  omega
 ·have:=bV.1 ho;omega
theorem aVq{dc:Lqq}(h:bD dc):aQn dc.reverse (abM dc):=by
 have:=zV dc.reverse [] [] ⟨by simp,fun e he=>(by cases he),fun x hx=>(by cases hx)⟩ (fun x hx=>(nB h x (by simpa using hx)).1)
 simpa [abM] using this
theorem bPd{dc:Lqq}(h:bD dc){n:Int}(hn:0<n):aBn (abM dc) n=cC dc n:=(aVq h).look hn
end
section

def stF(dl:Int)(oc:List Int)(dc:Lqq)(x:List Int):DS:=((bH dl oc dc).find? fun s=>s.x == x).getD (mkS dl oc x [])
def dA(dl:Int)(oc:List Int)(dc:Lqq)(x:List Int):Bool:=(stF dl oc dc x).cnt
def nQ(dl:Int)(oc:List Int)(dc:Lqq)(x:List Int):Bool:=(stF dl oc dc x).upd
def nY(dl:Int)(oc:List Int)(dc:Lqq)(x:List Int):Option (List Int):=(stF dl oc dc x).rul
def kA(dl:Int)(oc:List Int)(dc:Lqq)(x:List Int):Option (List Int):=(stF dl oc dc x).chg
def kY(dl:Int)(oc:List Int)(dc:Lqq)(x:List Int):Int:=(stF dl oc dc x).much

theorem aQl{a r:Lqq}{x:List Int}(h:bD (a++x::r)){y:List Int}(hy:y∈a):dN y<dN x:=(List.pairwise_append.1 h.up).2.2 y hy x (by simp)
theorem aQm(dl:Int)(oc:List Int){x:List Int}{r:Lqq}:∀ (a:Lqq),bD (a++x::r)→(bH dl oc (a++x::r)).find? (fun s=>s.x == x)=some (mkS dl oc x (bH dl oc r))
 | [],h=>by
  simp only [List.nil_append,bH];rw [List.find?_cons_of_pos];show (mkS dl oc x (bH dl oc r)).x == x;exact beq_self_eq_true x
 | y::a,h=>by
  simp only [List.cons_append,bH];rw [List.find?_cons_of_neg,aQm dl oc a h.tail];show ¬ ((mkS dl oc y (bH dl oc (a++x::r))).x == x)=true;have h1:=aQl h (y:=y) (by simp)
  intro he;have:y=x:=by simpa [mkS] using he
  rw [this] at h1;omega
theorem aFm{dl:Int}{oc:List Int}{a r:Lqq}{x:List Int}(h:bD (a++x::r)):stF dl oc (a++x::r) x=mkS dl oc x (bH dl oc r):=by
 unfold stF;rw [aQm dl oc a h];rfl
theorem aZx(dl:Int)(oc:List Int)(r:Lqq):∀ a:Lqq,∃ l,bH dl oc (a++r)=l++bH dl oc r
 | []=>⟨[],rfl⟩
 | y::a=>by
  obtain ⟨l,h⟩:=aZx dl oc r a;exact ⟨mkS dl oc y (bH dl oc (a++r))::l,by simp [bH,h]⟩
theorem aZy{dl:Int}{oc:List Int}{s:DS}:∀ {dc:Lqq},s∈bH dl oc dc→∃ a r,dc=a++s.x::r∧s=mkS dl oc s.x (bH dl oc r)
 | [],h=>by simp [bH] at h
 | y::q,h=>by
  simp only [bH,fD] at h
  rcases h with rfl | h
  ·exact ⟨[],q,rfl,rfl⟩
  ·obtain ⟨a,r,h1,h2⟩:=aZy h
   exact ⟨y::a,r,by rw [h1];rfl,h2⟩
theorem aJt{dl:Int}{oc:List Int}{dc:Lqq}{s:DS}(h:bD dc)(hs:s∈bH dl oc dc):stF dl oc dc s.x=s:=by
 obtain ⟨a,r,h1,h2⟩:=aZy hs;subst h1;rw [aFm h,← h2]
theorem aVo{dl:Int}{oc:List Int}{dc:Lqq}{x:List Int}(h:bD dc)(hx:x∈dc):(stF dl oc dc x).x=x:=by
 obtain ⟨a,r,rfl⟩:=List.append_of_mem hx;rw [aFm h];rfl
theorem tW{dl:Int}{oc:List Int}{a r:Lqq}{x:List Int}(h:bD (a++x::r)):dY (bH dl oc r) (dN x)=(cC (a++x::r) (dN x)).map (stF dl oc (a++x::r)):=by
 rw [aVp h,← bVc dl oc r (dN x),vF]
 conv=>lhs;rw [← List.map_id (dY (bH dl oc r) (dN x))]
 refine aCb fun s hs => ?_
 have hs:s∈bH dl oc r:=by
  unfold dY at hs
  exact aCd.1 (kW.1 hs).1
 have e:a++x::r=(a++[x])++r:=by simp
 have:s∈bH dl oc (a++x::r):=by
  obtain ⟨l,hl⟩:=aZx dl oc r (a++[x]);rw [e,hl];exact zG _ hs
 exact (aJt h this).symm

theorem eE{dc:Lqq}{n:Int}{y:List Int}(h:y∈cC dc n):y∈dc∧dAb y=n:=by
 unfold cC at h
 obtain ⟨h1,h2⟩:=kW.1 h;exact ⟨aCd.1 h1,by simpa using h2⟩
section
variable {dl:Int} {oc:List Int} {dc:Lqq} {x:List Int}
theorem cDx(h:bD dc)(l:Lqq)(hl:∀ y∈l,y∈dc)(f:DS→Bool)(g:List Int→Bool)(hfg:∀ y∈dc,f (stF dl oc dc y)=g y):(l.map (stF dl oc dc)).any f=l.any g:=by
 rw [List.any_map]
 induction l with
 | nil=>rfl
 | cons y l ih =>
  rw [List.any_cons,List.any_cons,ih fun z hz=>hl z (kQ7 _ hz)]
  rw [Function.comp,hfg y (hl y (jJ ..))]
theorem aCt(h:bD dc)(l:Lqq)(hl:∀ y∈l,y∈dc)(f:DS→Bool)(g:List Int→Bool)(hfg:∀ y∈dc,f (stF dl oc dc y)=g y):(l.map (stF dl oc dc)).find? f=(l.find? g).map (stF dl oc dc):=by
 induction l with
 | nil=>rfl
 | cons y l ih =>
  rw [gH,List.find?_cons,List.find?_cons,hfg y (hl y (jJ ..)),ih fun z hz=>hl z (kQ7 _ hz)]
  cases g y <;> rfl
theorem cDy(h:bD dc)(hx:x∈dc):dA dl oc dc x=(!iB dl x && !((cC dc (dN x)).any fun y=>vS x y && dA dl oc dc y && (dK y == 5 || nQ dl oc dc y))):=by
 obtain ⟨a,r,rfl⟩:=List.append_of_mem hx;unfold dA;rw [aFm h];simp only [mkS];rw [tW h,cDx (dl:=dl) (oc:=oc) h _ (fun y hy=>(eE hy).1) (sC x) (fun y=>vS x y && dA dl oc (a++x::r) y && (dK y == 5 || nQ dl oc (a++x::r) y)) (fun y hy => ?_)]
 ·rfl
 ·unfold sC dA nQ
  rw [aVo h hy]
theorem vR{l:Lqq}{g:List Int→Bool}{y:List Int}(h:l.find? g=some y):y∈l:=rD h
theorem aFn(h:bD dc)(l:Lqq)(hl:∀ y∈l,y∈dc)(g:List Int→Bool):((l.find? g).map (stF dl oc dc)).map (·.x)=l.find? g:=by
 cases hf:l.find? g with
 | none=>rfl
 | some y=>simp only [Option.map_some];rw [aVo h (hl y (vR hf))]
theorem zU(h:bD dc)(hx:x∈dc):nY dl oc dc x=(cC dc (dN x)).find? fun y=>cR (dK y) && dA dl oc dc y:=by
 obtain ⟨a,r,rfl⟩:=List.append_of_mem hx;unfold nY;rw [aFm h];simp only [mkS];rw [tW h,aCt (dl:=dl) (oc:=oc) h _ (fun y hy=>(eE hy).1) _ (fun y=>cR (dK y) && dA dl oc (a++x::r) y) (fun y hy => ?_),aFn h _ (fun y hy=>(eE hy).1)]
 unfold dA;rw [aVo h hy]
theorem bPa(h:bD dc)(hx:x∈dc):nQ dl oc dc x=match nY dl oc dc x with | some y=>dK y == 8 | none=>oc.contains (dN x):=by
 rw [zU h hx];obtain ⟨a,r,rfl⟩:=List.append_of_mem hx;unfold nQ;rw [aFm h];simp only [mkS];rw [tW h,aCt (dl:=dl) (oc:=oc) h _ (fun y hy=>(eE hy).1) _ (fun y=>cR (dK y) && dA dl oc (a++x::r) y) (fun y hy => ?_)]
 ·cases hf:(cC (a++x::r) (dN x)).find? fun y=>cR (dK y) && dA dl oc (a++x::r) y with
  | none=>rfl
  | some y=>simp only [Option.map_some];rw [aVo h (eE (vR hf)).1]
 ·unfold dA;rw [aVo h hy]
theorem wV(h:bD dc)(hx:x∈dc):kA dl oc dc x=(cC dc (dN x)).find? fun y=>dK y == 6 && dA dl oc dc y:=by
 obtain ⟨a,r,rfl⟩:=List.append_of_mem hx;unfold kA;rw [aFm h];simp only [mkS];rw [tW h,aCt (dl:=dl) (oc:=oc) h _ (fun y hy=>(eE hy).1) _ (fun y=>dK y == 6 && dA dl oc (a++x::r) y) (fun y hy => ?_),aFn h _ (fun y hy=>(eE hy).1)]
 unfold dA;rw [aVo h hy]
theorem aZz(h:bD dc)(hx:x∈dc):kY dl oc dc x=match kA dl oc dc x with | some y=>kY dl oc dc y | none=>dMu x:=by
 rw [wV h hx];obtain ⟨a,r,rfl⟩:=List.append_of_mem hx;unfold kY;rw [aFm h];simp only [mkS];rw [tW h,aCt (dl:=dl) (oc:=oc) h _ (fun y hy=>(eE hy).1) _ (fun y=>dK y == 6 && dA dl oc (a++x::r) y) (fun y hy => ?_)]
 ·cases hf:(cC (a++x::r) (dN x)).find? fun y=>dK y == 6 && dA dl oc (a++x::r) y with
  | none=>rfl
  | some y=>rfl
 ·unfold dA;rw [aVo h hy]
theorem bPb(h:bD dc){y:List Int}(hy:y∈dc){n:Int}(hn:dAb y=n)(h1:1≤n):n<dN y:=by
 have ho:=h.ord y hy;unfold orB at ho
 split at ho
 ·have:y.getD 5 0=0:=by simpa using ho
  rw [show y.getD 5 0=dAb y from rfl] at this;omega
 ·have:=bV.1 ho
  rw [show y.getD 5 0=dAb y from rfl] at this
  rw [show y.getD 0 0=dN y from rfl] at this
  omega
end
end
section
abbrev Acc:=Bool × Bool × Int × Int × Int × Bool
def aUl(n kx:Int)(A:Acc)(s:DS):Acc :=
 (if (dAb s.x=n∧s.cnt=true)∧(dK s.x=5∨(dK s.x=7∧s.upd=true∧kx<8)) then false else A.1,
  if (dAb s.x=n∧s.cnt=true)∧7<dK s.x∧A.2.2.2.2.2=false then dK s.x == 8 else A.2.1,
  if (dAb s.x=n∧s.cnt=true)∧dK s.x=6∧A.2.2.2.2.1=0 then s.much else A.2.2.1,
  if (dAb s.x=n∧s.cnt=true)∧7<dK s.x∧A.2.2.2.2.2=false then dN s.x else A.2.2.2.1,
  if (dAb s.x=n∧s.cnt=true)∧dK s.x=6∧A.2.2.2.2.1=0 then dN s.x else A.2.2.2.2.1,
  if (dAb s.x=n∧s.cnt=true)∧7<dK s.x then true else A.2.2.2.2.2)
def bR(dl:Int)(s:DS):RS:=(iB dl s.x,s.cnt,fA (dK s.x) && (s.cnt && s.rul.isNone),s.upd,s.much,(s.rul.map dN).getD 0,(s.chg.map dN).getD 0)
def rs0:RS:=(false,false,false,false,0,0,0)
theorem bTo{α:Type}{E:α→List PV}{k:Nat}(hE:∀ a,(E a).length=k){l:List α}{i:Nat}(hi:i<l.length)(e:α):((l.set i e).map E).flatten=((l.map E).flatten).take (i*k)++E e++((l.map E).flatten).drop (i*k+k):=by
 have h1:l.set i e=l.take i++e::l.drop (i+1):=by rw [List.set_eq_take_append_cons_drop,if_pos hi]
 have h2:l=l.take i++l[i]::l.drop (i+1):=by rw [← aPp hi,aPq]
 have hlen:((l.take i).map E).flatten.length=i*k:=by rw [aCs hE,lU];congr 1;omega
 have h3:(l.map E).flatten=((l.take i).map E).flatten++(E l[i]++((l.drop (i+1)).map E).flatten):=by
  have e2:=congrArg (fun l=>(l.map E).flatten) h2
  simp only [iN,gH,aTu,tE] at e2
  exact e2
 rw [h1,h3,← hlen,List.take_left,iN,gH,aTu,tE];have hd:(((l.take i).map E).flatten++(E l[i]++((l.drop (i+1)).map E).flatten)).drop (((l.take i).map E).flatten.length+k)=((l.drop (i+1)).map E).flatten:=by
  rw [← hE l[i],← gG,← List.append_assoc,List.drop_left]
 rw [hd,List.append_assoc]
theorem cAp(i:Nat)(e:RS)(T:List RS):(List.replicate (i+1) rs0++T).set i e=List.replicate i rs0++e::T:=by
 rw [List.set_append_left _ _ (by simp),List.replicate_succ',List.set_append_right _ _ (by simp)]
 simp
section
variable {dl:Int} {sk dc:Lqq} {q:List Int} {i:Int} {L:List RS} {y100 y101 y102 y103 y104 y105:Int}
theorem bOf{A:Acc}{lt:Bool}(hlt:lt=(fA y101 && decide (dl<y102)))(h0:0≤i)(hx:dc[i.toNat]? = some [y100,y101,y102,y103,y104,y105])(hu:uni 6 dc)(hil:i<(L.length:Int))(hLl:L.length≤1000)
  (H1:∀ l a,aE Tp 0 (sub (cd Tryz.f75) [1,1,0,1,0,0,1,0,0,1,1,1,1,1,1,0,1,0,0]) (cI dl sk dc q i L y100 y101 y102 y103 y104 y105 ((L.length:Int)-(1:Int)) l a (!lt) false y104 0 0 false) (.exit 2) (cI dl sk dc q i L y100 y101 y102 y103 y104 y105 i l a A.1 A.2.1 A.2.2.1 A.2.2.2.1 A.2.2.2.2.1 A.2.2.2.2.2))
  (H2:∀ l c m b f o u,aE Tp 0 (sub (cd Tryz.f75) [1,1,0,1,0,0,1,0,0,1,1,1,1,1,1,1,1,0,1,0,0]) (eP dl sk dc q i L y100 y101 y102 y103 y104 y105 l c m b f A.2.2.2.2.2 0 o u) (.exit 4) (eP dl sk dc q i L y100 y101 y102 y103 y104 y105 l c m b f A.2.2.2.2.2 q.length o (u || (!A.2.2.2.2.2 && q.contains y100)))) :
  aC Tp 0 (sub (cd Tryz.f75) [1,1,0,1,0,0]) (gW dl sk dc q i L.length ((L.map rsE).flatten)) .normal (gW dl sk dc q (i-1) (L.set i.toNat (lt,A.1,fA y101 && (A.1 && !A.2.2.2.2.2),A.2.1 || (!A.2.2.2.2.2 && q.contains y100),A.2.2.1,A.2.2.2.1,A.2.2.2.2.1)).length (((L.set i.toNat (lt,A.1,fA y101 && (A.1 && !A.2.2.2.2.2),A.2.1 || (!A.2.2.2.2.2 && q.contains y100),A.2.2.1,A.2.2.2.1,A.2.2.2.2.1)).map rsE).flatten)):=by
 have hi:i.toNat<L.length:=by omega
 have hin:inR ((L.length:Int)-(1:Int)):=by unfold inR;omega
 have hin2:inR (i-(1:Int)):=by unfold inR;omega
 have hc:∀ o:Bool,[(blP lt),(blP A.1),(blP o),(blP (A.2.1 || (!A.2.2.2.2.2 && q.contains y100))),(aA A.2.2.1),(aA A.2.2.2.1),(aA A.2.2.2.2.1)].length=7∧(i.toNat*7)+7≤((L.map rsE).flatten).length:=fun o=>⟨rfl,by
  rw [aCs (k:=7) (fun _=>rfl)]
  have:=Nat.mul_le_mul_right 7 (show i.toNat+1≤L.length from hi)
  omega⟩
 have hs:=fun e=>bTo (E:=rsE) (k:=7) (fun _=>rfl) hi e
 by_cases h4:y101=4
 ·have e1:lt=decide (y102 > dl):=by rw [hlt,h4];rfl
  have e2:fA y101=true:=by rw [h4];rfl
  have H1':=H1 lt true;have ht:decide (y102 > dl)=lt:=e1.symm;rw [e2];cases hA:A.1 with
  | true =>
   rw [hA] at H1'
   exact bEt (a'108:=true) (c'109:=true) h0 hx h0 hu h4 hin (by rw [ht];exact H1') rfl rfl (H2 _ _ _ _ _ _ _) ⟨h0,hil⟩ (by have:=hc (!A.2.2.2.2.2);rw [hA] at this;exact this) hin2 rfl (by rw [nJ]) (hs _)
  | false =>
   rw [hA] at H1'
   exact bEu (a'108:=true) (c'109:=false) h0 hx h0 hu h4 hin (by rw [ht];exact H1') rfl rfl (H2 _ _ _ _ _ _ _) ⟨h0,hil⟩ (by have:=hc false;rw [hA] at this;exact this) hin2 rfl (by rw [nJ]) (hs _)
 ·by_cases h7:y101=7
  ·have e1:lt=decide (y102 > dl):=by rw [hlt,h7];rfl
   have e2:fA y101=true:=by rw [h7];rfl
   have H1':=H1 lt (y101 == 7);have ht:decide (y102 > dl)=lt:=e1.symm;have ha:(y101 == 7)=true:=by rw [h7];rfl
   rw [e2];cases hA:A.1 with
   | true =>
    rw [hA] at H1'
    exact bEv (c'109:=true) h0 hx h0 hu h4 h7 hin (by rw [ht];exact H1') ha rfl (H2 _ _ _ _ _ _ _) ⟨h0,hil⟩ (by have:=hc (!A.2.2.2.2.2);rw [hA] at this;exact this) hin2 rfl (by rw [nJ]) (hs _)
   | false =>
    rw [hA] at H1'
    exact bEw (c'109:=false) h0 hx h0 hu h4 h7 hin (by rw [ht];exact H1') ha rfl (H2 _ _ _ _ _ _ _) ⟨h0,hil⟩ (by have:=hc false;rw [hA] at this;exact this) hin2 rfl (by rw [nJ]) (hs _)
  ·have e2:fA y101=false:=by unfold fA;simp [h4,h7]
   have e1:lt=false:=by rw [hlt,e2];rfl
   have ha:(y101 == 7)=false:=by simpa using h7
   rw [e1] at H1 hc ⊢
   rw [e2];exact bEx h0 hx h0 hu h4 h7 hin (H1 false (y101 == 7)) ha (H2 _ _ _ _ _ _ _) ⟨h0,hil⟩ (hc false) hin2 rfl (by rw [nJ]) (hs _)
theorem bTp(l c:Bool)(m b f:Int)(r o:Bool)(u:Bool)(hq:q.length≤1000):aE Tp 0 (sub (cd Tryz.f75) [1,1,0,1,0,0,1,0,0,1,1,1,1,1,1,1,1,0,1,0,0]) (eP dl sk dc q i L y100 y101 y102 y103 y104 y105 l c m b f r 0 o u) (.exit 4) (eP dl sk dc q i L y100 y101 y102 y103 y104 y105 l c m b f r q.length o (u || (!r && q.contains y100))):=by
 have:=aE.range (P:=Tp) (k:=0) (b:=sub (cd Tryz.f75) [1,1,0,1,0,0,1,0,0,1,1,1,1,1,1,1,1,0,1,0,0]) (e := .exit 4) (fun n u=>eP dl sk dc q i L y100 y101 y102 y103 y104 y105 l c m b f r n o u) (fun u=>eP dl sk dc q i L y100 y101 y102 y103 y104 y105 l c m b f r q.length o u) (fun u (y:Int)=>u || (!r && y == y100)) (fun _ _=>True) (by simp) q (a0:=u) trivial
  (fun n y u hy _=>by
   have hn:=aL hy;refine ⟨trivial,?_⟩;cases r with
   | true=>rw [show (u || (!true && y == y100))=u by simp];exact bFd (by omega) rfl (aH (by omega)) rfl
   | false =>
    by_cases he:y=y100
    ·rw [show (u || (!false && y == y100))=true by simp [he]];exact bFb (by omega) rfl hy he (aH (by omega)) rfl
    ·rw [show (u || (!false && y == y100))=u by simp [he]];exact bFc (by omega) rfl hy he (aH (by omega)) rfl)
  (fun u _=>bFe (by omega))
 have e:∀ (q:List Int) (u:Bool),q.foldl (fun u (y:Int)=>u || (!r && y == y100)) u=(u || (!r && q.contains y100)):=by
  intro q
  induction q with
  | nil=>intro u;simp
  | cons a q ih =>
   intro u;rw [nK,ih,List.contains_cons];cases u <;> cases r <;> simp [Bool.or_assoc,eq_comm,BEq.comm]
 rw [e] at this
 exact this
end
end
section
theorem aUk(s:DS)(T:List DS)(n:Int):dY (s::T) n=dY T n++(if dAb s.x=n then [s] else []):=by
 unfold dY;rw [List.reverse_cons,oU]
 congr 1
 by_cases h:dAb s.x=n
 ·rw [if_pos h,List.filter_cons_of_pos (by simpa using h)];rfl
 ·rw [if_neg h,List.filter_cons_of_neg (by simpa using h)];rfl
abbrev prB(s:DS):Bool:=cR (dK s.x) && s.cnt
abbrev pcB(s:DS):Bool:=dK s.x == 6 && s.cnt
def uOf:Option DS→Bool
 | some s=>dK s.x == 8
 | none=>false
def mOf(x:List Int):Option DS→Int
 | some s=>s.much
 | none=>dMu x
def nOf:Option DS→Int
 | some s=>dN s.x
 | none=>0
def nM(x:List Int)(c0:Bool)(l:List DS):Acc :=
 (c0 && !(l.any (sC x)),uOf (l.find? prB),mOf x (l.find? pcB),nOf (l.find? prB),nOf (l.find? pcB),(l.find? prB).isSome)
theorem find1(p:DS→Bool)(s:DS):[s].find? p=if p s=true then some s else none:=by
 cases h:p s with
 | true=>rw [List.find?_cons_of_pos h];rfl
 | false=>rw [List.find?_cons_of_neg (by rw [h];simp)];rfl
theorem aQa{x:List Int}(hx:dK x≤9){s:DS}(hc:s.cnt=true):sC x s=true↔(dK s.x=5∨dK s.x=7∧s.upd=true∧dK x<8):=by
 have hx8:(dK x<8)↔cR (dK x)=false:=by
  unfold cR;rw [Bool.or_eq_false_iff,beq_eq_false_iff_ne,beq_eq_false_iff_ne];constructor
  ·intro h;constructor <;> omega
  ·rintro ⟨h2,h3⟩;omega
 rw [hx8];unfold sC vS;rw [hc];simp only [kQ6,aCe,beq_iff_eq,Bool.not_eq_true',and_true];constructor
 ·rintro ⟨h2 | ⟨h2,h3⟩,h4 | h4⟩
  ·exact .inl h2
  ·exact .inl h2
  ·exact .inl h4
  ·exact .inr ⟨h2,h4,h3⟩
 ·rintro (h2 | ⟨h2,h3,h4⟩)
  ·exact ⟨.inl h2,.inl h2⟩
  ·exact ⟨.inr ⟨h2,h4⟩,.inr h3⟩
theorem bEs{x:List Int}(hx:dK x≤9)(c0:Bool){l:List DS}(hl:∀ s∈l,1≤dN s.x){s:DS}(hs:dK s.x≤9):aUl (dN x) (dK x) (nM x c0 l) s=nM x c0 (l++(if dAb s.x=dN x then [s] else [])):=by
 by_cases h1:dAb s.x=dN x
 ·rw [if_pos h1]
  have hr7:(7<dK s.x)↔cR (dK s.x)=true:=by
   unfold cR;rw [aCe,beq_iff_eq,beq_iff_eq];omega
  have hf:(nOf (l.find? pcB)=0)↔(l.find? pcB)=none:=by
   cases hc:l.find? pcB with
   | none=>exact ⟨fun _=>rfl,fun _=>rfl⟩
   | some y =>
    have:=hl y (rD hc);exact ⟨fun h=>absurd (show dN y.x=0 from h) (by omega),fun h=>by cases h⟩
  unfold nM;rw [List.any_append,List.find?_append,List.find?_append,find1,find1,List.any_cons,List.any_nil,Bool.or_false];cases hc:s.cnt with
  | false =>
   have e1:sC x s=false:=by unfold sC;rw [hc,Bool.and_false,Bool.false_and]
   have e2:¬ prB s=true:=by show ¬ (cR (dK s.x) && s.cnt)=true;rw [hc,Bool.and_false];simp
   have e3:¬ pcB s=true:=by show ¬ (dK s.x == 6 && s.cnt)=true;rw [hc,Bool.and_false];simp
   rw [if_neg e2,if_neg e3,e1,Bool.or_false,Option.or_none,Option.or_none];unfold aUl;have hn:¬ (dAb s.x=dN x∧s.cnt=true):=by rw [hc];simp
   rw [if_neg (fun q=>hn q.1),if_neg (fun q=>hn q.1),if_neg (fun q=>hn q.1),if_neg (fun q=>hn q.1),if_neg (fun q=>hn q.1),if_neg (fun q=>hn q.1)]
  | true =>
   have hh:dAb s.x=dN x∧s.cnt=true:=⟨h1,hc⟩;have p1:(prB s=true)↔7<dK s.x:=by
    rw [hr7];show (cR (dK s.x) && s.cnt)=true↔_;rw [hc,Bool.and_true]
   have p2:(pcB s=true)↔dK s.x=6:=by
    show (dK s.x == 6 && s.cnt)=true↔_;rw [hc,Bool.and_true,beq_iff_eq]
   unfold aUl;refine Prod.ext ?_ (Prod.ext ?_ (Prod.ext ?_ (Prod.ext ?_ (Prod.ext ?_ ?_))))
   ·show (if (dAb s.x=dN x∧s.cnt=true)∧(dK s.x=5∨dK s.x=7∧s.upd=true∧dK x<8) then false else (c0 && !(l.any (sC x))))=(c0 && !(l.any (sC x) || sC x s))
    by_cases h:dK s.x=5∨dK s.x=7∧s.upd=true∧dK x<8
    ·rw [if_pos ⟨hh,h⟩,(aQa hx hc).2 h];simp
    ·rw [if_neg (fun q=>h q.2),show sC x s=false from Bool.eq_false_iff.2 fun q=>h ((aQa hx hc).1 q)];simp
   ·show (if (dAb s.x=dN x∧s.cnt=true)∧7<dK s.x∧(l.find? prB).isSome=false then dK s.x == 8 else uOf (l.find? prB))=uOf ((l.find? prB).or (if prB s=true then some s else none))
    cases hr:l.find? prB with
    | some y=>rw [if_neg (fun q=>by cases q.2.2)];rfl
    | none =>
     by_cases h7:7<dK s.x
     ·rw [if_pos ⟨hh,h7,rfl⟩,if_pos (p1.2 h7)];rfl
     ·rw [if_neg (fun q=>h7 q.2.1),if_neg (fun q=>h7 (p1.1 q))];rfl
   ·show (if (dAb s.x=dN x∧s.cnt=true)∧dK s.x=6∧nOf (l.find? pcB)=0 then s.much else mOf x (l.find? pcB))=mOf x ((l.find? pcB).or (if pcB s=true then some s else none))
    cases hr:l.find? pcB with
    | some y =>
     rw [hr] at hf
     rw [if_neg (fun q=>by cases hf.1 q.2.2)];rfl
    | none =>
     by_cases h7:dK s.x=6
     ·rw [if_pos ⟨hh,h7,rfl⟩,if_pos (p2.2 h7)];rfl
     ·rw [if_neg (fun q=>h7 q.2.1),if_neg (fun q=>h7 (p2.1 q))];rfl
   ·show (if (dAb s.x=dN x∧s.cnt=true)∧7<dK s.x∧(l.find? prB).isSome=false then dN s.x else nOf (l.find? prB))=nOf ((l.find? prB).or (if prB s=true then some s else none))
    cases hr:l.find? prB with
    | some y=>rw [if_neg (fun q=>by cases q.2.2)];rfl
    | none =>
     by_cases h7:7<dK s.x
     ·rw [if_pos ⟨hh,h7,rfl⟩,if_pos (p1.2 h7)];rfl
     ·rw [if_neg (fun q=>h7 q.2.1),if_neg (fun q=>h7 (p1.1 q))];rfl
   ·show (if (dAb s.x=dN x∧s.cnt=true)∧dK s.x=6∧nOf (l.find? pcB)=0 then dN s.x else nOf (l.find? pcB))=nOf ((l.find? pcB).or (if pcB s=true then some s else none))
    cases hr:l.find? pcB with
    | some y =>
     rw [hr] at hf
     rw [if_neg (fun q=>by cases hf.1 q.2.2)];rfl
    | none =>
     by_cases h7:dK s.x=6
     ·rw [if_pos ⟨hh,h7,rfl⟩,if_pos (p2.2 h7)];rfl
     ·rw [if_neg (fun q=>h7 q.2.1),if_neg (fun q=>h7 (p2.1 q))];rfl
   ·show (if (dAb s.x=dN x∧s.cnt=true)∧7<dK s.x then true else (l.find? prB).isSome)=((l.find? prB).or (if prB s=true then some s else none)).isSome
    by_cases h7:7<dK s.x
    ·rw [if_pos ⟨hh,h7⟩,if_pos (p1.2 h7)]
     cases l.find? prB <;> rfl
    ·rw [if_neg (fun q=>h7 q.2),if_neg (fun q=>h7 (p1.1 q)),Option.or_none]
 ·rw [if_neg h1,List.append_nil]
  unfold aUl;rw [if_neg (fun q=>h1 q.1.1),if_neg (fun q=>h1 q.1.1),if_neg (fun q=>h1 q.1.1),if_neg (fun q=>h1 q.1.1),if_neg (fun q=>h1 q.1.1),if_neg (fun q=>h1 q.1.1)]
theorem aQb{x:List Int}(hx:dK x≤9)(c0:Bool):∀ {T:List DS},(∀ s∈T,1≤dN s.x∧dK s.x≤9)→T.reverse.foldl (aUl (dN x) (dK x)) (c0,false,dMu x,0,0,false)=nM x c0 (dY T (dN x))
 | [],_=>by
  show (c0,false,dMu x,(0:Int),(0:Int),false)=(c0 && true,false,dMu x,(0:Int),(0:Int),false);rw [Bool.and_true]
 | s::T,h=>by
  rw [List.reverse_cons,aEs,aQb hx c0 (fun y hy=>h y (kQ7 _ hy)),nK,List.foldl_nil,aUk]
  refine bEs hx c0 (fun y hy => ?_) (h s (jJ ..)).2
  unfold dY at hy
  exact (h y (kQ7 _ (aCd.1 (kW.1 hy).1))).1
end
section

theorem cJg{dc:Lqq}{base:Nat}:FV Tp 147 [(.p (fS dc))] base (.fn 187 [] [(.rp [(fS dc)] 0)]) []:=by
 exact FV.fi Tryz.func147 [.g 3 ⟨[],[],[0],[]⟩] gn
end
section
variable {P:Program} {C C0:Cx} {M M0:Mem} {w w0:World}

theorem cG{w:World}{b:Nat}{o:Obj}(h:w.heap[b]? = some o):b<w.heap.size:=(mR.1 h).1

theorem aFu(hM:aU P C M w){w':World}(hsz:w.heap.size≤w'.heap.size)(hF:∀ b,C.F b→w'.heap[b]? = w.heap[b]?)(hL:∀ (id:Nat) (o:AO) (b:Nat),M[id]? = some (some o)→o.live=true→C.ι id=some b→w'.heap[b]? = w.heap[b]?) :
  aU P C M w'∧Le C C M M w w':=by
 have hle:Le C C M M w w':=⟨fun _ o h=>⟨o,h⟩,fun _ _ _ _ _ cs h=>⟨cs,h⟩,fun _ o h o' h' hl=>by rw [h] at h';cases h';exact ⟨hl,rfl,rfl⟩,fun _ h=>h,hF⟩
 refine ⟨⟨fun i ty' n cs hm => ?_,fun i ty' cs hm => ?_,fun i es cl hm => ?_,hM.inj,hM.nF,fun b hb=>fY (hM.Fs b hb) hsz,fun i x b hm hl hb=>fY (hM.lt i x b hm hl hb) hsz⟩,hle⟩
 ·rcases hM.row _ _ _ _ hm with h4 | ⟨b,arr,inf,q0,q1,q2,q3,q4,q5,q6,q7,q8⟩
  ·exact .inl h4
  ·exact .inr ⟨b,arr,inf,q0,by rw [hL _ _ _ hm rfl q0];exact q1,q2,q3,q4,q5,q6,fun j hj=>(q7 j hj).mono hle.F hle.fz,q8⟩
 ·obtain ⟨b,arr,q0,q1,q2,q3,q4⟩:=hM.box _ _ _ hm
  exact ⟨b,arr,q0,by rw [hL _ _ _ hm rfl q0];exact q1,q2,fun j hj=>(q3 j hj).mono hle,q4⟩
 ·obtain ⟨b,arr,q0,q1,q2,q3⟩:=hM.mp _ _ _ hm
  refine ⟨b,arr,q0,by rw [hL _ _ _ hm rfl q0];exact q1,q2,fun j hj => ?_⟩
  obtain ⟨en,r1,r2,r3,r4⟩:=q3 j hj;exact ⟨en,r1,r2,r3,r4.mono hle.F hle.fz⟩

theorem Sim.beside{R R':List (Nat × Obj)}{st:St}{a:Act}{w':World}(h:Sim P (C0.with R) M0 w0 st a w)(X:Nat→Prop)(hX:∀ b,X b→∃ o,(b,o)∈R)(h1:w'.os=w.os)(h2:w'.tape=w.tape)(h3:w'.output=w.output)
  (hsz:w.heap.size≤w'.heap.size) (hk:∀ b,b<w.heap.size→¬ X b→w'.heap[b]? = w.heap[b]?)
  (hR':∀ p∈R',(p∈R∧¬ X p.1)∨(w'.heap[p.1]? = some p.2∧p.2 ≠ .deferred (some [])∧(w.heap.size≤p.1∨∃ o,(p.1,o)∈R))):Sim P (C0.with R') M0 w0 st a w':=by
 obtain ⟨C,hS,hM,hF,⟨l,m1,m2,m3⟩,hR,hP⟩:=h;have hXR:∀ b,X b→∃ o,w.heap[b]? = some o∧w0.heap.size≤b∧o ≠ .deferred (some [])∧¬ C.F b∧∀ (id:Nat) (o:AO),st.m[id]? = some (some o)→o.live=true→C.ι id≠some b:=fun b hb=>by
  obtain ⟨o,ho⟩:=hX b hb;exact ⟨o,hR _ ho⟩
 have hFz:∀ b,C.F b→w'.heap[b]? = w.heap[b]? := fun b hb=>hk b (hM.Fs b hb) (fun hx=>by obtain ⟨_,_,_,_,q,_⟩:=hXR b hx;exact q hb)
 have hLv:∀ (id:Nat) (o:AO) (b:Nat),st.m[id]? = some (some o)→o.live=true→C.ι id=some b→w'.heap[b]? = w.heap[b]? := fun id o b ho hl hb=>hk b (hM.lt _ _ _ ho hl hb) (fun hx=>by obtain ⟨_,_,_,_,_,q⟩:=hXR b hx;exact q id o ho hl hb)
 obtain ⟨hM',hle⟩:=aFu hM hsz hFz hLv;refine ⟨C,hS.le hle,hM',⟨h1.trans hF.os,h2.trans hF.tape,h3.trans hF.out,gU hF.size hsz,fun b hb hn=>(hk b (fY hb hF.size) (fun hx=>by obtain ⟨_,_,q,_⟩:=hXR b hx;omega)).trans (hF.keep b hb hn),hF.ids,hF.row,hF.liv,hF.new,hF.F1,hF.F2⟩,⟨l,m1,m2,fun D hD => ?_⟩,fun p hp => ?_,fun i to ti sz L hm => ?_,hP.2⟩
 ·obtain ⟨q1,q2,q3⟩:=m3 D hD
  refine ⟨(hk D (cG q1) (fun hx => ?_)).trans q1,q2,q3⟩
  obtain ⟨o,r1,_,r3,_⟩:=hXR D hx;rw [q1] at r1;cases r1;exact r3 rfl
 ·rcases hR' p hp with ⟨hin,hx⟩ | ⟨r1,r2,r3⟩
  ·obtain ⟨q1,q2,q3,q4,q5⟩:=hR p hin
   exact ⟨(hk _ (cG q1) hx).trans q1,q2,q3,q4,q5⟩
  ·rcases r3 with r3 | ⟨o,ho⟩
   ·refine ⟨r1,gU hF.size r3,r2,fun hf => ?_,fun id o ho hl hb => ?_⟩
    ·have:=hM.Fs _ hf;omega
    ·have:=hM.lt _ _ _ ho hl hb;omega
   ·obtain ⟨q1,q2,q3,q4,q5⟩:=hR _ ho
    exact ⟨r1,q2,r2,q4,q5⟩
 ·obtain ⟨p,p0,p1⟩:=hP.1 _ _ _ _ _ hm
  refine ⟨p.move p.io rfl (fun _ h=>h) hFz fun b hb=>⟨hk b (p.lt hb).1 fun hx => ?_,p.own b hb⟩,p0,fun b hb=>⟨(p1 b hb).1,fun q hq e => ?_⟩⟩
  ·obtain ⟨o,ho⟩:=hX b hx
   exact (p1 b hb).2 _ ho rfl
  ·rcases hR' q hq with ⟨hin,_⟩ | ⟨_,_,r3⟩
   ·exact (p1 b hb).2 q hin e
   ·rcases r3 with r3 | ⟨o,ho⟩
    ·have:=(p.lt hb).1;omega
    ·exact (p1 b hb).2 _ ho e

theorem Sim.has{R:List (Nat × Obj)}{st:St}{a:Act}(h:Sim P (C0.with R) M0 w0 st a w):∀ p∈R,w.heap[p.1]? = some p.2:=fun p hp=>by
 obtain ⟨C,_,_,_,_,hR,_⟩:=h;exact (hR p hp).1

end
section
open Go.Maps Go.MapKept
open Go.ChangeMaps (setBlock)

structure Ent where
 k:Int
 l:Lqq
 b:Nat
 cap:Nat
 arr:Array Value

def Ent.val(e:Ent):Value := .slice (some ⟨e.b,0,none⟩) e.l.length e.cap
def Ent.blk(e:Ent):Nat × Obj:=(e.b,.cells e.arr 44 (0,0))
structure Ent.OK (e:Ent):Prop where
 key:(Lit.int .i64 e.k).wf=true
 sz:e.arr.size=e.cap*6
 le:e.l.length≤e.cap
 cap:e.cap≤maxLen
 at_:e.arr.toList.take (e.l.length*6)=e.l.flatten.map (Value.int .i64)
 u:uni 6 e.l

structure mM (mb:Nat) (es:Array MapEntry) (L:List Ent):Prop where
 e1:∀ x∈es.toList,∃ e∈L,x.key = .int .i64 e.k∧x.val=e.val
 e2:∀ e∈L,∃ x∈es.toList,x.key = .int .i64 e.k∧x.val=e.val
 nd:es.toList.Pairwise (fun x y=>x.key≠y.key)
 ok:∀ e∈L,e.OK
 keys:(L.map (·.k)).Nodup
 blks:(mb::L.map (·.b)).Nodup
 ord:es.toList.map (fun x=>(x.key,x.val))=L.map fun e=>(Value.int .i64 e.k,e.val)

theorem mM.nil(mb:Nat):mM mb #[] []:=⟨fun x h=>by simp at h,fun e h=>by simp at h,by simp,fun e h=>by simp at h,by simp,by simp,rfl⟩

def uD(L:List Ent)(k:Int):Option Ent:=L.find? fun e=>e.k == k
def sF(L:List Ent)(k:Int):Value:=match uD L k with
 | some e=>e.val
 | none => .slice none 0 0

theorem wZ{L:List Ent}{k:Int}{e:Ent}(h:uD L k=some e):e∈L∧e.k=k:=⟨rD h,by simpa using aHh h⟩
theorem aWm{L:List Ent}{k:Int}(h:uD L k=none):∀ e∈L,e.k≠k:=fun e he hk=>by
 have:=aCc.1 h e he;simp [hk] at this
theorem bJj{L:List Ent}{k:Int}{e:Ent}(hn:(L.map (·.k)).Nodup)(he:e∈L)(hk:e.k=k):uD L k=some e:=by
 cases h:uD L k with
 | none=>exact absurd hk (aWm h e he)
 | some e' =>
  obtain ⟨h1,h2⟩:=wZ h;have:∀ (l:List Ent),(l.map (·.k)).Nodup→e∈l→e'∈l→e=e':=by
   intro l
   induction l with
   | nil=>intro _ h;simp at h
   | cons x r ih =>
    intro hn h3 h4;rw [gH,List.nodup_cons] at hn
    rcases fD.1 h3 with e1 | h5
    ·rcases fD.1 h4 with e2 | h6
     ·rw [e1,e2]
     ·exact absurd (dJ.2 ⟨e',h6,by rw [h2,← hk,e1]⟩) hn.1
    ·rcases fD.1 h4 with e2 | h6
     ·exact absurd (dJ.2 ⟨e,h5,by rw [hk,← h2,e2]⟩) hn.1
     ·exact ih hn.2 h5 h6
  rw [this L hn he h1]

section
variable {P:Program} {w:World} {t kt et:TypeId} {mb:Nat} {es:Array MapEntry} {cl:Nat} {L:List Ent}

theorem aMo(hkt:P.underlying kt=some (.int .i64)){k:Int}(hk:(Lit.int .i64 k).wf=true):keyOf P kt (.int .i64 k)=some (.int .i64 k):=keyOf_int_mk hkt hk

theorem bQe(ht:P.underlying t=some (.map kt et))(hkt:P.underlying kt=some (.int .i64))(hz:(zeroValue et).run P w = .ok (.slice none 0 0) w)(hb:w.heap[mb]? = some (.map es cl))(hM:mM mb es L){k:Int}(hk:(Lit.int .i64 k).wf=true) :
  (Instr.lookup t (.map (some mb)) (.int .i64 k) false).run P w = .ok (sF L k) w:=by
 have K:=int_keyed hkt;have hkey:=aMo hkt hk;have hes:∀ e∈es.toList,∃ l,keyOf P kt e.key=some l:=fun x hx=>by
  obtain ⟨e,he,h1,_⟩:=hM.e1 x hx;exact ⟨_,by rw [h1];exact aMo hkt (hM.ok e he).key⟩
 rcases K.find w hkey es.toList hes with ⟨h1,h2⟩ | ⟨j,e0,h1,h2,h3⟩
 ·have:uD L k=none:=by
   rw [uD,aCc];intro e he;obtain ⟨x,hx,h4,_⟩:=hM.e2 e he;have:=h2 x hx;rw [h4] at this
   intro hk';exact this (by rw [eq_of_beq hk'])
  unfold sF;rw [this];simp [Instr.lookup,run_underlying ht,MapKept.run_getObj_map hb,K.check w _ hkey,h1,hz,Result.andThen]
 ·obtain ⟨e,he,h4,h5⟩:=hM.e1 e0 (kQ1 h2)
  rw [h3] at h4
  have hk':e.k=k:=by injection h4 with _ h;exact h.symm
  unfold sF;rw [bJj hM.keys he hk'];simp [Instr.lookup,run_underlying ht,MapKept.run_getObj_map hb,K.check w _ hkey,h1,Result.andThen,h5]

def qH(L:List Ent)(e:Ent):List Ent:=if L.any (fun x=>x.k == e.k) then L.map (fun x=>if x.k == e.k then e else x) else L++[e]
theorem yM{L:List Ent}{e:Ent}(h:∀ x∈L,x.k≠e.k):qH L e=L++[e]:=by
 unfold qH;rw [if_neg];intro h1;obtain ⟨x,hx,he⟩:=List.any_eq_true.1 h1;exact h x hx (by simpa using he)
theorem uE{L:List Ent}{e x:Ent}(hx:x∈L)(he:x.k=e.k):qH L e=L.map (fun x=>if x.k == e.k then e else x):=by
 unfold qH;rw [if_pos (List.any_eq_true.2 ⟨x,hx,by simpa using he⟩)]
theorem iK{L:List Ent}{e x:Ent}:x∈qH L e↔(x∈L∧x.k≠e.k)∨x=e:=by
 by_cases h:∃ y∈L,y.k=e.k
 ·obtain ⟨y,hy,he⟩:=h
  rw [uE hy he,dJ];constructor
  ·rintro ⟨z,hz,rfl⟩
   by_cases hk:z.k=e.k
   ·rw [if_pos (by simpa using hk)];exact .inr rfl
   ·rw [if_neg (by simpa using hk)];exact .inl ⟨hz,hk⟩
  ·rintro (⟨h1,h2⟩ | rfl)
   ·exact ⟨x,h1,by rw [if_neg (by simpa using h2)]⟩
   ·exact ⟨y,hy,by rw [if_pos (by simpa using he)]⟩
 ·have h':∀ y∈L,y.k≠e.k:=fun y hy he=>h ⟨y,hy,he⟩
  rw [yM h',jK,List.mem_singleton];constructor
  ·rintro (h1 | h1)
   ·exact .inl ⟨h1,h' x h1⟩
   ·exact .inr h1
  ·rintro (⟨h1,_⟩ | h1)
   ·exact .inl h1
   ·exact .inr h1
theorem bJk{L:List Ent}{e:Ent}(hn:(L.map (·.k)).Nodup):((qH L e).map (·.k)).Nodup:=by
 by_cases h:∃ y∈L,y.k=e.k
 ·obtain ⟨y,hy,he⟩:=h
  rw [uE hy he,vF];have:L.map ((fun x=>x.k) ∘ fun x=>if x.k == e.k then e else x)=L.map (·.k):=aCb fun x _=>by
   by_cases hk:x.k=e.k
   ·simp [hk]
   ·simp [hk]
  rw [this];exact hn
 ·have h':∀ y∈L,y.k≠e.k:=fun y hy he=>h ⟨y,hy,he⟩
  rw [yM h',iN,List.nodup_append];refine ⟨hn,by simp,fun x hx y hy => ?_⟩
  obtain ⟨z,hz,rfl⟩:=dJ.1 hx;simp at hy
  subst hy;exact h' z hz
theorem bJl{mb:Nat}{L:List Ent}{e:Ent}(hn:(L.map (·.k)).Nodup)(hb:(mb::L.map (·.b)).Nodup)(h1:e.b≠mb)(h2:∀ x∈L,x.k≠e.k→x.b≠e.b):(mb::(qH L e).map (·.b)).Nodup:=by
 obtain ⟨b1,b2⟩:=List.nodup_cons.1 hb;refine List.nodup_cons.2 ⟨?_,?_⟩
 ·intro hin
  obtain ⟨x,hx,hxb⟩:=dJ.1 hin
  rcases iK.1 hx with ⟨h1,_⟩ | rfl
  ·exact b1 (dJ.2 ⟨x,h1,hxb⟩)
  ·exact h1 hxb
 ·by_cases h:∃ y∈L,y.k=e.k
  ·obtain ⟨y,hy,he⟩:=h
   rw [uE hy he,vF,List.Nodup,List.pairwise_map];rw [List.Nodup,List.pairwise_map] at hn b2
   refine List.Pairwise.imp_of_mem ?_ (hn.and b2);intro x z hx hz ⟨q1,q2⟩;dsimp only [Function.comp]
   by_cases hk:x.k=e.k
   ·rw [if_pos (by simpa using hk),if_neg (by simp;rw [← hk];exact fun h=>q1 h.symm)]
    exact fun he=>h2 z hz (fun h=>q1 (by rw [hk,h])) he.symm
   ·rw [if_neg (by simpa using hk)]
    by_cases hk2:z.k=e.k
    ·rw [if_pos (by simpa using hk2)];exact h2 x hx hk
    ·rw [if_neg (by simpa using hk2)];exact q2
  ·have h':∀ y∈L,y.k≠e.k:=fun y hy he=>h ⟨y,hy,he⟩
   rw [yM h',iN,List.nodup_append];refine ⟨b2,by simp,fun x hx y hy => ?_⟩
   obtain ⟨z,hz,rfl⟩:=dJ.1 hx;simp at hy
   subst hy;exact h2 z hz (h' z hz)

theorem bWe(ht:P.underlying t=some (.map kt et))(hkt:P.underlying kt=some (.int .i64))(hb:w.heap[mb]? = some (.map es cl))(hM:mM mb es L)(e:Ent)(he:e.OK)
  (hblk:e.b≠mb∧∀ x∈L,x.k≠e.k→x.b≠e.b) :
  ∃ es' cl',(Instr.mapUpdate t (.map (some mb)) (.int .i64 e.k) e.val).run P w = .ok () (setBlock w mb (.map es' cl'))∧mM mb es' (qH L e)∧((∀ x∈es.toList,x.born<cl)→∀ x∈es'.toList,x.born<cl'):=by
 have K:=int_keyed hkt;have hkey:=aMo hkt he.key;have hes:∀ e∈es.toList,∃ l,keyOf P kt e.key=some l:=fun x hx=>by
  obtain ⟨e,he,h1,_⟩:=hM.e1 x hx;exact ⟨_,by rw [h1];exact aMo hkt (hM.ok e he).key⟩
 have hok:∀ x∈qH L e,x.OK:=fun x hx=>by
  rcases iK.1 hx with ⟨h1,_⟩ | rfl
  ·exact hM.ok x h1
  ·exact he
 have hkeys:((qH L e).map (·.k)).Nodup:=bJk hM.keys
 have hblks:(mb::(qH L e).map (·.b)).Nodup:=bJl hM.keys hM.blks hblk.1 hblk.2
 rcases K.find w hkey es.toList hes with ⟨h1,h2⟩ | ⟨j,e0,h1,h2,h3⟩
 ·refine ⟨es.push ⟨.int .i64 e.k,e.val,cl⟩,cl+1,?_,⟨fun x hx => ?_,fun x hx => ?_,?_,hok,hkeys,hblks,?_⟩,fun hbn x hx => ?_⟩
  ·simp [Instr.mapUpdate,run_underlying ht,MapKept.run_getObj_map hb,K.check w false hkey,h1,MapKept.run_setObj_map _ hb,Result.andThen,setBlock]
  ·simp only [Array.toList_push,jK,List.mem_singleton] at hx
   rcases hx with hx | rfl
   ·obtain ⟨y,hy,q1,q2⟩:=hM.e1 x hx
    refine ⟨y,iK.2 (.inl ⟨hy,fun hk=>h2 x hx (by rw [q1,hk])⟩),q1,q2⟩
   ·exact ⟨e,iK.2 (.inr rfl),rfl,rfl⟩
  ·rcases iK.1 hx with ⟨q1,_⟩ | rfl
   ·obtain ⟨y,hy,q2⟩:=hM.e2 x q1
    exact ⟨y,by simp [hy],q2⟩
   ·exact ⟨⟨.int .i64 x.k,x.val,cl⟩,by simp,rfl,rfl⟩
  ·rw [Array.toList_push,List.pairwise_append]
   exact ⟨hM.nd,by simp,fun x hx y hy=>by simp at hy;subst hy;exact h2 x hx⟩
  ·have hno:∀ x∈L,x.k≠e.k:=fun x hx hk=>by
    obtain ⟨y,hy,q2,_⟩:=hM.e2 x hx;exact h2 y hy (by rw [q2,hk])
   rw [yM hno,Array.toList_push,iN,iN,hM.ord];rfl
  ·simp only [Array.toList_push,jK,List.mem_singleton] at hx
   rcases hx with hx | rfl
   ·exact Nat.lt_succ_of_lt (hbn x hx)
   ·exact Nat.lt_succ_self _
 ·have hj:es[j]? = some e0:=by simpa using h2
  have hlist:(es.modify j (fun e'=>{ e' with key := .int .i64 e.k,val:=e.val })).toList=es.toList.set j { e0 with key := .int .i64 e.k,val:=e.val }:=by
   rw [Array.toList_modify,Go.ChangeMaps.modify_eq_set _ _ _ _ h2]
  have hjl:j<es.toList.length:=(kQ3.1 h2).1;have hother:∀ i x,es.toList[i]? = some x→i≠j→x.key ≠ .int .i64 e.k:=fun i x hi hij=>by
   rw [← h3];obtain ⟨hi1,rfl⟩:=kQ3.1 hi;obtain ⟨hj1,hje⟩:=kQ3.1 h2;have:=List.pairwise_iff_getElem.1 hM.nd
   rcases Nat.lt_or_ge i j with h | h
   ·rw [← hje];exact this i j hi1 hj1 h
   ·rw [← hje];exact (this j i hj1 hi1 (by omega)).symm
  have who:∀ x∈es.toList.set j { e0 with key := .int .i64 e.k,val:=e.val },x={ e0 with key := .int .i64 e.k,val:=e.val }∨(x∈es.toList∧x.key ≠ .int .i64 e.k):=fun x hx=>by
   obtain ⟨i,hi,ex⟩:=List.getElem_of_mem hx;rw [zH] at ex
   split at ex
   ·exact .inl ex.symm
   ·rename_i hne
    have hi':i<es.toList.length:=by simpa using hi
    exact .inr ⟨ex ▸ gD hi',hother i x (by rw [kQ0 hi',ex]) (fun e=>hne e.symm)⟩
  refine ⟨es.modify j (fun e'=>{ e' with key := .int .i64 e.k,val:=e.val }),cl,?_,⟨fun x hx => ?_,fun x hx => ?_,?_,hok,hkeys,hblks,?_⟩,fun hbn x hx => ?_⟩
  ·simp [Instr.mapUpdate,run_underlying ht,MapKept.run_getObj_map hb,K.check w false hkey,h1,hj,h3,K.stays w hkey,MapKept.run_setObj_map _ hb,Result.andThen,setBlock]
  ·rw [hlist] at hx
   rcases who x hx with rfl | ⟨q1,q2⟩
   ·exact ⟨e,iK.2 (.inr rfl),rfl,rfl⟩
   ·obtain ⟨y,hy,r1,r2⟩:=hM.e1 x q1
    exact ⟨y,iK.2 (.inl ⟨hy,fun hk=>q2 (by rw [r1,hk])⟩),r1,r2⟩
  ·rw [hlist]
   rcases iK.1 hx with ⟨q1,q2⟩ | rfl
   ·obtain ⟨y,hy,r1,r2⟩:=hM.e2 x q1
    obtain ⟨i,hi,rfl⟩:=List.getElem_of_mem hy;have hij:i≠j:=fun hij=>by
     subst hij;rw [kQ0 hi] at h2;cases h2
     rw [h3] at r1;injection r1 with _ r1;exact q2 r1.symm
    exact ⟨es.toList[i],List.mem_iff_getElem.2 ⟨i,by simpa using hi,by rw [zH,if_neg (Ne.symm hij)]⟩,r1,r2⟩
   ·exact ⟨_,List.mem_iff_getElem.2 ⟨j,by simpa using hjl,by rw [zH,if_pos rfl]⟩,rfl,rfl⟩
  ·rw [hlist,List.pairwise_iff_getElem]
   intro i1 i2 hi1 hi2 hlt;simp only [nJ] at hi1 hi2
   have h0:=List.pairwise_iff_getElem.1 hM.nd i1 i2 hi1 hi2 hlt;rw [zH,zH]
   split
   ·rename_i e1
    rw [if_neg (by omega)]
    exact (hother i2 _ (kQ0 hi2) (by omega)).symm
   ·split
    ·exact hother i1 _ (kQ0 hi1) (by omega)
    ·exact h0
  ·obtain ⟨y,hy,q1,q2⟩:=hM.e1 e0 (kQ1 h2)
   have hyk:y.k=e.k:=by rw [h3] at q1;injection q1 with _ q1;exact q1.symm
   rw [hlist,uE hy hyk,vF];apply List.ext_getElem?;intro i;rw [kQ9,kQ9,List.getElem?_set];have hoi:(es.toList.map fun x=>(x.key,x.val))[i]? = (L.map fun e=>(Value.int .i64 e.k,e.val))[i]? := by rw [hM.ord]
   rw [kQ9,kQ9] at hoi
   by_cases hij:j=i
   ·subst hij
    rw [if_pos rfl,if_pos hjl];rw [h2] at hoi
    cases hL:L[j]? with
    | none=>rw [hL] at hoi;cases hoi
    | some z =>
     rw [hL] at hoi
     have hz:z.k=e.k:=by
      simp at hoi
      rw [h3] at hoi
      have:=hoi.1;injection this with _ h;exact h.symm
     simp [hz]
   ·rw [if_neg hij]
    cases hL:L[i]? with
    | none=>rw [hL] at hoi;rw [hoi];rfl
    | some z =>
     rw [hL] at hoi
     rw [hoi];have hz:z.k≠e.k:=fun hz=>by
      cases he:es.toList[i]? with
      | none=>rw [he] at hoi;cases hoi
      | some x =>
       rw [he] at hoi
       simp at hoi
       exact hother i x he (fun h=>hij h.symm) (by rw [hoi.1,hz])
     simp [hz]
  ·rw [hlist] at hx
   rcases who x hx with rfl | ⟨q1,_⟩
   ·exact hbn e0 (kQ1 h2)
   ·exact hbn x q1

theorem Ent.owns{e:Ent}(he:e.OK)(h:w.heap[e.b]? = some (.cells e.arr 44 (0,0))):w.ownsRow 0 44 6 e.val e.l.length (e.l.flatten.map (Value.int .i64)) :=
 ⟨by rw [kQ8,oW he.u],.inr ⟨e.b,e.cap,e.arr,rfl,Nat.zero_le _,h,he.le,he.cap,he.sz,he.at_⟩⟩
theorem bQf:w.ownsRow 0 44 6 (.slice none 0 0) 0 []:=⟨rfl,.inl ⟨rfl,rfl⟩⟩
theorem bQg{v:Value}{l:Lqq}{k:Int}(hk:(Lit.int .i64 k).wf=true)(hl:l≠[])(hu:uni 6 l)(h:w.ownsRow 0 44 6 v l.length (l.flatten.map (Value.int .i64))):∃ e:Ent,e.k=k∧e.l=l∧e.val=v∧e.OK∧w.heap[e.b]? = some (.cells e.arr 44 (0,0)):=by
 rcases h.2 with ⟨_,h0⟩ | ⟨g,cap,cur,rfl,_,h1,h2,h3,h4,h5⟩
 ·exact absurd (aHd h0) hl
 ·exact ⟨⟨k,l,g,cap,cur⟩,rfl,rfl,rfl,⟨hk,h4,h2,h3,h5,hu⟩,h1⟩
end
end
section
variable {P:Program} {C C0:Cx} {M M0:Mem} {w w0:World}

abbrev SR:=St→List (Nat × Obj)→Prop
section
variable {k:Nat} {a b c:Code} {Ψ Ψ1 Ψ':SR} {e:Ex}
end

theorem Sim.slot{st:St}{a:Act}(h:Sim P C0 M0 w0 st a w){i:Nat}{v:Value}(hi:st.t[i]? = some (.p (.v v))):a.tmps.getD i undef=v:=by
 obtain ⟨C,hS,_⟩:=h;have:=hS.at hi
 cases this with
 | p _ _ h=>cases h;rfl
theorem Sim.size{st:St}{a:Act}(h:Sim P C0 M0 w0 st a w):a.tmps.size=st.t.length:=by
 obtain ⟨C,hS,_⟩:=h;exact hS.size
end
section
variable {P:Program} {ops:Array Oper} {md:Region.Mode} {S:World→Prop} {Q:Exit→Act→World→Prop} {L:Nat}

def uC(P:Program)(md:Region.Mode)(ops:Array Oper)(Q:Exit→Act→World→Prop)(S:World→Prop)(L:Nat):Nat→Array Bool→Act→World→Prop
 | 0,listed,a,w=>Region.ready md ops listed=[]∧Q .normal a w
 | fuel+1,listed,a,w=>(Region.ready md ops listed=[]→Q .normal a w) ∧
  ∀ i∈Region.ready md ops listed,wpOp P ops Q i (fun a' w'=>(i≠L→S w')∧uC P md ops Q S L fuel (listed.setIfInBounds i true) a' w') a w

theorem aFt:∀ (fuel:Nat) (listed:Array Bool) (a:Act) (w:World),uC P md ops Q S L fuel listed a w→wpAny P md ops Q fuel listed a w
 | 0,_,_,_,h=>h
 | fuel+1,_,_,_,h=>⟨h.1,fun i hi=>wpOp_mono (fun a' w' h'=>aFt fuel _ a' w' h'.2) (h.2 i hi)⟩

theorem aMl{i:Nat}{oi:Oper}{v:Value}(hi:ops[i]? = some oi)(hsel:∀ (j:Nat) (o:Oper) cs b,ops[j]? = some o→o.op ≠ .select cs b)
  (hQ:∀ c a w,Q (.panic c) (a.put oi.dst v) w→Q (.panic c) a w) (hL:∀ oL,ops[L]? = some oL→∃ e∈oL.after,Region.binds md e=true∧e.on=i) :
  ∀ (fuel:Nat) (listed:Array Bool) (a:Act) (w:World),
   (∀ j oj,ops[j]? = some oj→j≠i→listed.getD j true=false→(∀ e∈oj.after,Region.binds md e=true→e.on≠i)→oi.apart ops oj=true) →
   i∈Region.ready md ops listed→YieldsIf P ops S oi v a→S w →
   uC P md ops Q S L fuel (listed.setIfInBounds i true) (a.put oi.dst v) w→uC P md ops Q S L (fuel+1) listed a w:=by
 intro fuel
 induction fuel with
 | zero =>
  intro listed a w _ hr hy hS H;refine ⟨fun h=>(by rw [h] at hr;cases hr),fun j hj => ?_⟩
  by_cases hji:j=i
  ·subst hji;exact hy.wpOp hi hS ⟨fun _=>hS,H⟩
  ·have:=ready_mono hj hji
   rw [H.1] at this
   cases this
 | succ fuel ih =>
  intro listed a w hfree hr hy hS H;refine ⟨fun h=>(by rw [h] at hr;cases hr),fun j hj => ?_⟩
  by_cases hji:j=i
  ·subst hji;exact hy.wpOp hi hS ⟨fun _=>hS,H⟩
  ·have h1:=H.2 j (ready_mono hj hji)
   obtain ⟨hjun,oj,hoj,hall⟩:=mem_ready.1 hj;have hnot:∀ e∈oj.after,Region.binds md e=true→e.on≠i:=fun e he hb heq=>by
    have h1:=hall e he hb;have h0:=(mem_ready.1 hr).1;rw [heq] at h1
    rcases Nat.lt_or_ge i listed.size with h' | h'
    ·simp [h'] at h0 h1;rw [h0] at h1;cases h1
    ·simp [Array.getElem?_eq_none h'] at h1
   have hjL:j≠L:=fun e=>by
    subst e;obtain ⟨e,he,hb,ho⟩:=hL oj hoj;exact hnot e he hb ho
   have h2:=wpOp_putIf hoj (hfree j oj hoj hji hjun hnot) (fun cs b=>hsel i oi cs b hi) (fun cs b=>hsel j oj cs b hoj) hQ hy h1
   have hfree':∀ k ok,ops[k]? = some ok→k≠i→(listed.setIfInBounds j true).getD k true=false →
     (∀ e∈ok.after,Region.binds md e=true→e.on≠i)→oi.apart ops ok=true:=fun k ok hk hki hun hno=>by
    refine hfree k ok hk hki ?_ hno
    by_cases hjk:j=k
    ·subst hjk;exact hjun
    ·rw [getD_set_ne true hjk] at hun;exact hun
   refine wpOp_mono (fun a' w' h3=>⟨h3.2.1,ih (listed.setIfInBounds j true) a' w' hfree' (ready_mono hr (Ne.symm hji)) h3.1 (h3.2.1 hjL) ?_⟩) h2
   rw [Array.setIfInBounds_comm _ _ hji];exact h3.2.2

def aMm(P:Program)(S:World→Prop):List (Oper × Value)→Act→Prop
 | [],_=>True
 | (o,v)::r,a=>(∀ W,S W→(execOp a.eval o).run P W = .ok (.value v) W)∧aMm P S r (a.put o.dst v)
def aBq:List (Oper × Value)→Act→Act
 | [],a=>a
 | (o,v)::r,a=>aBq r (a.put o.dst v)

def aJw(md:Region.Mode)(ops:Array Oper)(L:Nat)(rs:List Nat):List Nat→Array Bool→Bool
 | [],listed=>chain rs listed
 | t::ts,listed=>(match ops[t]? with | some o=>o.guard.isNone | none=>false) && (Region.ready md ops listed).contains t && Region.free md ops listed t &&
   (match ops[L]? with | some oL=>oL.after.any fun e=>Region.binds md e && e.on == t | none=>false) && aJw md ops L rs ts (listed.setIfInBounds t true)
where chain:List Nat→Array Bool→Bool
 | [],listed=>(Region.ready md ops listed).isEmpty
 | r::rs,listed=>(match ops[r]? with | some o=>o.guard.isNone | none=>false) && decide (Region.ready md ops listed=[r]) && chain rs (listed.setIfInBounds r true)

theorem wY{r fuel:Nat}{listed:Array Bool}{o:Oper}{a:Act}{w:World}(hr:Region.ready md ops listed=[r])(ho:ops[r]? = some o)(hg:o.guard=none){v:Value}{w':World}
  (hrun:(execOp a.eval o).run P w = .ok (.value v) w'∨(execOp a.eval o).run P w = .ok .skip w'∧v=undef) (hS:r≠L→S w') (h:uC P md ops Q S L fuel (listed.setIfInBounds r true) (a.put o.dst v) w'):uC P md ops Q S L (fuel+1) listed a w:=by
 refine ⟨fun h0=>(by rw [hr] at h0;cases h0),fun i hi => ?_⟩
 rw [hr] at hi
 obtain rfl:i=r:=by simpa using hi
 unfold wpOp;simp only [ho];have hw:Region.wanted o (yielded ops a.tmps)=true:=by simp [Region.wanted,hg]
 rw [if_pos hw];refine .inl ?_;unfold Oper.wp
 rcases hrun with hrun | ⟨hrun,rfl⟩
 ·rw [hrun];exact ⟨hS,h⟩
 ·rw [hrun];exact ⟨hS,h⟩

theorem aJx(hsel:Region.noSelect ops=true)(hQ:∀ c a w,¬ Q (.panic c) a w)(rs:List Nat){w:World}(hS:S w):∀ (ts:List Nat) (vs:List Value) (listed:Array Bool) (a:Act),vs.length=ts.length→aJw md ops L rs ts listed=true →
  aMm P S ((ts.filterMap fun i=>ops[i]?).zip vs) a→(∀ listed',aJw.chain md ops rs listed'=true→uC P md ops Q S L rs.length listed' (aBq ((ts.filterMap fun i=>ops[i]?).zip vs) a) w)→uC P md ops Q S L (ts.length+rs.length) listed a w
 | [],vs,listed,a,hl,hB,hy,h=>by
  have:vs=[]:=by simpa using hl
  subst this;simp only [List.length_nil,gT];exact h listed hB
 | t::ts,[],listed,a,hl,hB,hy,h=>by simp at hl
 | t::ts,v::vs,listed,a,hl,hB,hy,h=>by
  simp only [aJw,kQ6] at hB
  obtain ⟨⟨⟨⟨hp,hrd⟩,hf⟩,hlast⟩,hB'⟩:=hB;cases ho:ops[t]? with
  | none=>rw [ho] at hp;cases hp
  | some o =>
   rw [ho] at hp
   simp only [Option.isNone_iff_eq_none] at hp
   have e0:(t::ts).filterMap (fun i=>ops[i]?)=o::ts.filterMap (fun i=>ops[i]?):=by simp [ho]
   rw [e0,List.zip_cons_cons] at hy h
   have hw:Region.wanted o (yielded ops a.tmps)=true:=by simp [Region.wanted,hp]
   have e:(t::ts).length+rs.length=(ts.length+rs.length)+1:=by simp;omega
   rw [e];refine aMl ho (Region.noSelect_spec hsel) (fun c a w hq=>absurd hq (hQ _ _ _)) (fun oL hoL => ?_) _ _ _ _ (Region.free_spec ho hf) (by simpa using hrd) (.inl ⟨hw,hy.1⟩) hS ?_
   ·rw [hoL] at hlast
    obtain ⟨e,he,hb⟩:=Array.any_eq_true'.1 hlast;simp only [kQ6,beq_iff_eq] at hb
    exact ⟨e,he,hb.1,hb.2⟩
   ·exact aJx hsel hQ rs hS ts vs _ _ (by simpa using hl) hB' hy.2 h

def aMn(l:List Oper)(ts:List Nat)(r1 r2 r3:Nat):Bool :=
 Region.noSelect l.toArray && aJw .any l.toArray r3 [r1,r2,r3] ts (Array.replicate l.toArray.size false) && decide (ts.length+3=l.toArray.size) && decide (r1≠r3∧r2≠r3)

theorem bN{a:Act}{i:Nat}{v:Value}(h:i<a.tmps.size):(a.put (some i) v).eval (.tmp i)=v:=by
 simp [Act.eval,Act.put,h]
theorem bU{a:Act}{i j:Nat}{v:Value}(h:(i == j)=false):(a.put (some i) v).eval (.tmp j)=a.eval (.tmp j):=by
 have:i≠j:=by simpa using h
 simp [Act.eval,Act.put,this]
theorem dO{a:Act}{i:Nat}{v:Value}:(a.put (some i) v).tmps.size=a.tmps.size:=by simp [Act.put]
end
section
open Go.Maps Go.MapKept
open Go.ChangeMaps (setBlock)
variable {P:Program} {C C0:Cx} {M M0:Mem} {w w0:World}

section
variable {o:Oper} {a:Act} {W W':World}
theorem rQ{t:TypeId}{x:Operand}{v r:Value}(ho:o.op = .load t x)(hx:a.eval x=v)(hr:(Instr.loadAt t v).run P W = .ok r W):(execOp a.eval o).run P W = .ok (.value r) W:=by
 unfold execOp;rw [ho];simp [hx,hr,Result.andThen]
theorem bJe{t:TypeId}{x k:Operand}{v u r:Value}(ho:o.op = .lookup t x k false)(hx:a.eval x=v)(hk:a.eval k=u)(hr:(Instr.lookup t v u false).run P W = .ok r W):(execOp a.eval o).run P W = .ok (.value r) W:=by
 unfold execOp;rw [ho];simp [hx,hk,hr,Result.andThen]
theorem bJf{t:TypeId}{x:Operand}{v r:Value}(ho:o.op = .buildSlice t 1 #[(0,x)])(hx:a.eval x=v)(hr:(Instr.buildSlice t 1 #[(0,v)]).run P W = .ok r W'):(execOp a.eval o).run P W = .ok (.value r) W':=by
 unfold execOp;rw [ho];simp [hx,hr,Result.andThen]
theorem bJg{t:TypeId}{s x:Operand}{v u r:Value}(ho:o.op = .call { callee := .builtin .append,args := #[s,x],argTypes := #[t,t] })(hs:a.eval s=v)(hx:a.eval x=u)(hr:(Builtin.append_ #[t,t] o.type #[v,u]).run P W = .ok r W') :
  (execOp a.eval o).run P W = .ok (.value r) W':=by
 unfold execOp;simp only [ho,resolve,invoke,builtin,Sem.run_bind,Sem.run_pure,Result.andThen_ok,List.map_toArray,gH,List.map_nil,hs,hx,hr]
theorem bJh{t:TypeId}{m k x:Operand}{v u y:Value}(ho:o.op = .mapUpdate t m k x)(hm:a.eval m=v)(hk:a.eval k=u)(hx:a.eval x=y)(hr:(Instr.mapUpdate t v u y).run P W = .ok () W'):(execOp a.eval o).run P W = .ok .skip W':=by
 unfold execOp;rw [ho];simp [hm,hk,hx,hr,Result.andThen]
end

theorem aAd{t:Nat}{i:TI}(hi:cP P t=some i)(ha:i.agg=false){b o:Nat}{v:Value}(h:w.cell? ⟨b,o,none⟩=some v):(Instr.loadAt t (.pointer (some ⟨b,o,none⟩))).run P w = .ok v w:=by
 unfold Instr.loadAt Instr.sureAddr;simpa using mA hi ha h

def iU(mb:Nat)(es:Array MapEntry)(cl:Nat)(L:List Ent):List (Nat × Obj):=(mb,.map es cl)::L.map Ent.blk
theorem dD{mb:Nat}{es:Array MapEntry}{cl:Nat}{L:List Ent}{p:Nat × Obj}:p∈iU mb es cl L↔p=(mb,.map es cl)∨∃ e∈L,e.blk=p:=by simp [iU]
def qG(L:List Ent)(k:Int):Lqq:=match uD L k with
 | some e=>e.l
 | none=>[]
theorem yL{α β:Type}(f:α→β){x y:α}:∀ (L:List α),(L.map f).Nodup→x∈L→y∈L→f x=f y→x=y
 | [],_,h,_,_=>by simp at h
 | a::r,hn,hx,hy,he=>by
  rw [gH,List.nodup_cons] at hn
  rcases fD.1 hx with e1 | h1
  ·rcases fD.1 hy with e2 | h2
   ·rw [e1,e2]
   ·exact absurd (dJ.2 ⟨y,h2,by rw [← he,e1]⟩) hn.1
  ·rcases fD.1 hy with e2 | h2
   ·exact absurd (dJ.2 ⟨x,h1,by rw [he,e2]⟩) hn.1
   ·exact yL f r hn.2 h1 h2 he
theorem mM.b_inj{mb:Nat}{es:Array MapEntry}{L:List Ent}(h:mM mb es L){e e':Ent}(he:e∈L)(he':e'∈L)(hb:e.b=e'.b):e=e':=yL (·.b) L (List.nodup_cons.1 h.blks).2 he he' hb
theorem mM.b_mb{mb:Nat}{es:Array MapEntry}{L:List Ent}(h:mM mb es L){e:Ent}(he:e∈L):e.b≠mb:=fun hb=>(List.nodup_cons.1 h.blks).1 (dJ.2 ⟨e,he,hb⟩)

abbrev zD6:Value := .agg #[.int .i64 0,.int .i64 0,.int .i64 0,.int .i64 0,.int .i64 0,.int .i64 0]
def vsL(x:List Int):List Value:=x.map (Value.int .i64)
theorem bJi(w:World)(x:List Int):∀ j u,(vsL x)[j]? = some u→(w.alloc (.cells (vsL x).toArray 44)).cell? ((⟨w.heap.size,0,none⟩:Addr).add j)=some u:=fun j u h=>by
 have hj:j<(vsL x).length:=(kQ3.1 h).1;have e:(⟨w.heap.size,0,none⟩:Addr).add j=⟨w.heap.size,j,none⟩:=by unfold Addr.add;split <;> simp_all
 rw [e];unfold World.cell? World.alloc;simp [h]
theorem bWd{t kt:TypeId}{S22 ty:TypeId}{st:St}{a:Act}{mb cl:Nat}{es:Array MapEntry}{L:List Ent}{k:Int}{x:List Int}(hx6:x.length=6)(ht:P.underlying t=some (.map kt S22))(hkt:P.underlying kt=some (.int .i64))(h22:P.underlying S22=some (.slice 44))
  (hi3:(P.info? 44).map (fun i=>(i.zero,i.size,i.bytes))=some (some zD6,6,48))
  (hs:Sim P (C0.with (iU mb es cl L++C0.R)) M0 w0 st a w) (hd:∀ p∈iU mb es cl L,∀ q∈C0.R,p.1≠q.1) (hM:mM mb es L) (hk:(Lit.int .i64 k).wf=true) (hl:∀ e∈L,e.l.length≤1000) :
  ∃ v2 w2 es' cl' e,(Builtin.append_ #[S22,S22] ty #[sF L k,.slice (some ⟨w.heap.size,0,none⟩) 1 1]).run P (w.alloc (.cells (vsL x).toArray 44)) = .ok v2 w2 ∧
   (∀ b,b<w.heap.size→(∀ q∈iU mb es cl L,q.1≠b)→w2.heap[b]? = w.heap[b]?)∧w2.heap[mb]? = w.heap[mb]? ∧
   (w.heap.size≤w2.heap.size∧((∀ x∈es.toList,x.born<cl)→∀ x∈es'.toList,x.born<cl')∧∀ p∈iU mb es' cl' (qH L e),(∃ p0∈iU mb es cl L,p0.1=p.1)∨w.heap.size≤p.1) ∧
   (Instr.mapUpdate t (.map (some mb)) (.int .i64 k) v2).run P w2 = .ok () (setBlock w2 mb (.map es' cl'))∧mM mb es' (qH L e)∧e.k=k∧e.l=qG L k++[x] ∧
   (∀ p∈iU mb es' cl' (qH L e),∀ q∈C0.R,p.1≠q.1)∧Sim P (C0.with (iU mb es' cl' (qH L e)++C0.R)) M0 w0 st a (setBlock w2 mb (.map es' cl')):=by
 obtain ⟨i,hi,hz,hz1,hz2⟩:=info_parts hi3;have hhas:=hs.has;have hmb:w.heap[mb]? = some (.map es cl):=hhas (mb,.map es cl) (by simp [iU])
 have hmlt:=cG hmb;have hblkh:∀ e∈L,w.heap[e.b]? = some (.cells e.arr 44 (0,0)):=fun e he=>hhas e.blk (by simp [iU];exact .inr (.inl ⟨e,he,rfl⟩))
 obtain ⟨n1,n2,n3⟩:=jW w (.cells (vsL x).toArray 44);have hown:(w.alloc (.cells (vsL x).toArray 44)).ownsRow 0 44 6 (sF L k) (qG L k).length ((qG L k).flatten.map (Value.int .i64))∧((sF L k).ownBlock=none∨∃ e0∈L,e0.k=k∧(sF L k).ownBlock=some e0.b)∧(qG L k).length≤1000:=by
  unfold sF qG;cases h:uD L k with
  | none=>exact ⟨bQf,.inl rfl,by simp⟩
  | some e0 =>
   obtain ⟨q1,q2⟩:=wZ h;exact ⟨Ent.owns (hM.ok e0 q1) ((n3 _ (cG (hblkh e0 q1))).trans (hblkh e0 q1)),.inr ⟨e0,q1,q2,rfl⟩,hl e0 q1⟩
 obtain ⟨ho,hbk,hlen⟩:=hown;have hu6:uni 6 (qG L k++[x]):=by
  intro y hy
  rcases jK.1 hy with h | h
  ·unfold qG at h
   cases hq:uD L k with
   | none=>rw [hq] at h;cases h
   | some e0=>rw [hq] at h;exact (hM.ok e0 (wZ hq).1).u y h
  ·simp at h;rw [h];exact hx6
 obtain ⟨v2,w2,hrun,ho2,hg2,hnil,hat⟩:=run_append_own_at (P:=P) (w:=w.alloc (.cells (vsL x).toArray 44)) 0 S22 ty 44 i zD6 6 48 h22 hi hz hz1 hz2 rfl (by decide) (sF L k) (qG L k).length _ ho
  ⟨w.heap.size,0,none⟩ 1 1 (vsL x) (by simp [vsL,hx6]) (bJi w x) (fun u hu=>by obtain ⟨z,_,rfl⟩:=dJ.1 hu;rfl) (by unfold maxLen;omega) (by omega) (Nat.zero_le _)
 have ho2':w2.ownsRow 0 44 6 v2 (qG L k++[x]).length ((qG L k++[x]).flatten.map (Value.int .i64)):=by
  rw [gG,aTu,iN,List.flatten_singleton];exact ho2
 obtain ⟨e,rfl,hel,rfl,heo,heh⟩:=bQg hk (by simp) hu6 ho2'
 have hvb:e.val.ownBlock=some e.b:=rfl;have hwhere:(∃ e0∈L,e0.k=e.k∧e0.b=e.b)∨e.b=w.heap.size+1:=by
  rcases hat with h | h
  ·rcases hbk with h0 | ⟨e0,q1,q2,q3⟩
   ·rw [h0,hvb] at h;cases h
   ·rw [q3,hvb] at h;exact .inl ⟨e0,q1,q2,(Option.some.inj h).symm⟩
  ·rw [hvb] at h
   right
   have:=Option.some.inj h;rw [this];simp
 have hrow:∀ b,b<w.heap.size→(∀ e0∈L,e0.k=e.k→e0.b≠b)→w2.heap[b]? = w.heap[b]? := fun b hb hno=>by
  refine (hg2.block b (by omega) (fun he => ?_)).trans (n3 b hb)
  rcases hbk with h0 | ⟨e0,q1,q2,q3⟩
  ·rw [h0] at he;cases he
  ·rw [q3] at he;exact hno e0 q1 q2 (Option.some.inj he).symm
 have hblk:e.b≠mb∧∀ y∈L,y.k≠e.k→y.b≠e.b:=by
  rcases hwhere with ⟨e0,q1,q2,q3⟩ | h
  ·refine ⟨q3 ▸ hM.b_mb q1,fun y hy hyk hb=>hyk ?_⟩
   have:=hM.b_inj hy q1 (hb.trans q3.symm);rw [this];exact q2
  ·refine ⟨by omega,fun y hy _ hb => ?_⟩
   have:=cG (hblkh y hy);omega
 have hmb2:w2.heap[mb]? = w.heap[mb]? := hrow mb hmlt fun e0 he0 _=>hM.b_mb he0
 obtain ⟨es',cl',hup,hM',hbn⟩:=bWe (P:=P) (w:=w2) ht hkt (hmb2.trans hmb) hM e heo hblk;refine ⟨e.val,w2,es',cl',e,hrun,fun b hb hno=>hrow b hb fun e0 he0 _=>hno e0.blk (by simp [iU];exact .inr ⟨e0,he0,rfl⟩),hmb2,⟨by have:=hg2.size;omega,hbn,fun p hp => ?_⟩,hup,hM',rfl,hel,?_,?_⟩
 ·rcases dD.1 hp with rfl | ⟨y,hy,rfl⟩
  ·exact .inl ⟨_,dD.2 (.inl rfl),rfl⟩
  ·rcases iK.1 hy with ⟨q1,_⟩ | rfl
   ·exact .inl ⟨_,dD.2 (.inr ⟨y,q1,rfl⟩),rfl⟩
   ·rcases hwhere with ⟨e0,r1,_,r3⟩ | h
    ·exact .inl ⟨_,dD.2 (.inr ⟨e0,r1,rfl⟩),r3⟩
    ·exact .inr (by show w.heap.size≤y.b;omega)
 ·intro p hp q hq
  rcases dD.1 hp with rfl | ⟨y,hy,rfl⟩
  ·exact hd (mb,.map es cl) (by simp [iU]) q hq
  ·rcases iK.1 hy with ⟨q1,q2⟩ | rfl
   ·exact hd y.blk (dD.2 (.inr ⟨y,q1,rfl⟩)) q hq
   ·rcases hwhere with ⟨e0,q1,q2,q3⟩ | h
    ·exact fun hpq=>hd e0.blk (dD.2 (.inr ⟨e0,q1,rfl⟩)) q hq (by rw [← hpq];exact q3)
    ·have:=cG (hhas q (zG _ hq))
     intro hpq;change y.b=q.1 at hpq
     omega
 ·have hne:∀ p∈C0.R,p.1≠mb∧∀ e0∈L,p.1≠e0.b:=fun p hp=>⟨fun h=>hd (mb,.map es cl) (by simp [iU]) p hp h.symm,fun e0 he0 h=>hd e0.blk (dD.2 (.inr ⟨e0,he0,rfl⟩)) p hp h.symm⟩
  have hset:∀ b,b≠mb→(setBlock w2 mb (.map es' cl')).heap[b]? = w2.heap[b]? := fun b hb=>by
   unfold setBlock;simp only [Array.getElem?_setIfInBounds];rw [if_neg (Ne.symm hb)]
  have hsetm:(setBlock w2 mb (.map es' cl')).heap[mb]? = some (.map es' cl'):=by
   unfold setBlock;have:mb<w2.heap.size:=cG (hmb2.trans hmb);simp [this]
  refine hs.beside (fun b=>b=mb∨∃ e0∈L,e0.k=e.k∧e0.b=b) (fun b hb => ?_) hg2.os hg2.tape hg2.output (by have:=hg2.size;unfold setBlock;simp only [Array.size_setIfInBounds];omega) (fun b hb hX => ?_) (fun p hp => ?_)
  ·rcases hb with rfl | ⟨e0,q1,q2,rfl⟩
   ·exact ⟨_,oT _ (dD.2 (.inl rfl))⟩
   ·exact ⟨_,oT _ (dD.2 (.inr ⟨e0,q1,rfl⟩))⟩
  ·rw [hset b (fun h=>hX (.inl h))]
   exact hrow b hb fun e0 q1 q2 q3=>hX (.inr ⟨e0,q1,q2,q3⟩)
  ·rcases jK.1 hp with hp | hp
   ·rcases dD.1 hp with rfl | ⟨y,hy,rfl⟩
    ·exact .inr ⟨hsetm,(fun h=>by cases h),.inr ⟨_,oT _ (dD.2 (.inl rfl))⟩⟩
    ·rcases iK.1 hy with ⟨q1,q2⟩ | rfl
     ·refine .inl ⟨oT _ (dD.2 (.inr ⟨y,q1,rfl⟩)),fun hX => ?_⟩
      rcases hX with hX | ⟨e0,r1,r2,r3⟩
      ·exact hM.b_mb q1 hX
      ·have:=hM.b_inj q1 r1 r3.symm
       exact q2 (this ▸ r2)
     ·refine .inr ⟨(hset _ hblk.1).trans heh,(fun h=>by cases h),?_⟩
      rcases hwhere with ⟨e0,r1,r2,r3⟩ | h
      ·exact .inr ⟨.cells e0.arr 44 (0,0),oT _ (dD.2 (.inr ⟨e0,r1,by unfold Ent.blk;rw [r3]⟩))⟩
      ·exact .inl (by show w.heap.size≤y.b;omega)
   ·refine .inl ⟨zG _ hp,fun hX => ?_⟩
    rcases hX with hX | ⟨e0,r1,r2,r3⟩
    ·exact (hne p hp).1 hX
    ·exact (hne p hp).2 e0 r1 r3.symm
end
section
open Go.ChangeMaps (setBlock)
variable {P:Program} {C:Cx} {M:Mem} {w:World}

def aHk(P:Program)(C:Cx)(M:Mem)(w:World)(C':Cx)(M':Mem)(W:World):Prop:=(∀ b,C'.F b↔C.F b)∧aU P C' M' W∧Fr C M w C' M' W
def aMk(M M':Mem):Prop:=(∀ (i:Nat) (es:List (Value × PV)) (cl:Nat),M'[i]? = some (some (.mp es cl))→∃ o,M[i]? = some (some o)∧o.live=true)∧aSq M'

theorem aHk.same{M':Mem}{W W':World}{C':Cx}(hn:aMk M M')(hM0:aU P C M w)(h:aHk P C M w C' M' W)(hsz:W.heap.size≤W'.heap.size)(ho:W'.os=W.os)(ht:W'.tape=W.tape)(hu:W'.output=W.output)
  (hs:∀ b,b<W.heap.size→(b<w.heap.size∧(∀ (id:Nat) (o:AO),M[id]? = some (some o)→o.live=true→C.ι id=some b→∃ o',M'[id]? = some (some o')∧o'.live=true))∨(mK W b∧∃ (id:Nat) (o:AO),M'[id]? = some (some o)∧o.live=true∧C'.ι id=some b)→W'.heap[b]? = W.heap[b]?):aHk P C M w C' M' W':=by
 obtain ⟨hF,hM,f⟩:=h;have old:∀ (i:Nat) (o:AO),M[i]? = some (some o)→C'.ι i=C.ι i:=fun i o h=>(f.ids i o h).2.1
 have hFz:∀ b,C'.F b→W'.heap[b]? = W.heap[b]? := fun b hb=>hs b (hM.Fs b hb) (.inl ⟨hM0.Fs b ((hF b).1 hb),fun id o ho hl he=>absurd ((hF b).1 hb) (hM0.nF id o b ho hl he)⟩)
 have hL:Le C' C' M' M' W W':=⟨fun _ o h=>⟨o,h⟩,fun _ _ _ _ _ cs h=>⟨cs,h⟩,fun _ o h o' h' hl=>by rw [h] at h';cases h';exact ⟨hl,rfl,rfl⟩,fun _ h=>h,hFz⟩
 refine ⟨hF,⟨fun i ty n cs hm => ?_,fun i ty cs hm => ?_,fun i es cl hm => ?_,hM.inj,hM.nF,fun b hb=>fY (hM.Fs b hb) hsz,fun i o b ho hl hb=>fY (hM.lt i o b ho hl hb) hsz⟩,
  ⟨ho.trans f.os,ht.trans f.tape,hu.trans f.out,gU f.size hsz,fun b hb hno=>(hs b (fY hb f.size) (.inl ⟨hb,fun id o ho hl he=>absurd he (hno id o ho hl)⟩)).trans (f.keep b hb hno),f.ids,f.row,f.liv,f.new,f.F1,f.F2⟩⟩
 ·rcases hM.row _ _ _ _ hm with h4 | ⟨b,arr,inf,q0,q1,q2,q3,q4,q5,q6,q7,q8⟩
  ·exact .inl h4
  ·exact .inr ⟨b,arr,inf,q0,(hs b (cG q1) (.inr ⟨fU q1,i,_,hm,rfl,q0⟩)).trans q1,q2,q3,q4,q5,q6,fun j hj=>(q7 j hj).mono hL.F hL.fz,q8⟩
 ·obtain ⟨b,arr,q0,q1,q2,q3,q4⟩:=hM.box _ _ _ hm
  exact ⟨b,arr,q0,(hs b (cG q1) (.inr ⟨fU q1,i,_,hm,rfl,q0⟩)).trans q1,q2,fun j hj=>(q3 j hj).mono hL,q4⟩
 ·obtain ⟨b,arr,q0,q1,q2,q3⟩:=hM.mp _ _ _ hm
  obtain ⟨o,ho',hl⟩:=hn.1 _ _ _ hm;have hb:C.ι i=some b:=by rw [← old i o ho'];exact q0
  refine ⟨b,arr,q0,(hs b (cG q1) (.inl ⟨hM0.lt i o b ho' hl hb,fun id o2 ho2 hl2 he => ?_⟩)).trans q1,q2,fun j hj => ?_⟩
  ·obtain rfl:=hM0.inj id i o2 o b ho2 hl2 ho' hl he hb
   exact ⟨_,hm,rfl⟩
  ·obtain ⟨en,r1,r2,r3,r4⟩:=q3 j hj
   exact ⟨en,r1,r2,r3,r4.mono hL.F hL.fz⟩

theorem aHk.own{M':Mem}{W W':World}{C':Cx}{row:Option Nat}(hn:aMk M M')(hM0:aU P C M w)(h:aHk P C M w C' M' W)(hg:W.grownBy W' row)
  (hr:∀ r,row=some r→w.heap.size≤r∧∃ o:Obj,W.heap[r]? = some o∧o.isCells=false):aHk P C M w C' M' W' :=
 h.same hn hM0 hg.size hg.os hg.tape hg.output fun b hb hd=>hg.block b hb fun e=>by
  obtain ⟨q1,o,q2,q3⟩:=hr b e.symm
  rcases hd with ⟨hd,_⟩ | ⟨hd,_⟩
  ·omega
  ·exact jY q2 q3 hd
end
end KV
end Go.Proofs
section
namespace Go.Proofs
open Go.RowKit Go.Lib
namespace KV
attribute [local go_sem] Oper.semAt_some

def bk(n i:Nat):List Nat:=((List.range n).drop i).reverse
theorem bWb{n i:Nat}(h:i<n):bk n i=bk n (i+1)++[i]:=by
 unfold bk;rw [aPp (by simpa using h),List.reverse_cons]
 simp
theorem cFn(n:Nat):bk n n=[]:=by unfold bk;rw [List.drop_eq_nil_of_le (by simp)];rfl
theorem bWc(n:Nat):bk n 0=(List.range n).reverse:=rfl
theorem aWl{n i:Nat}:(bk n i).length=n-i:=by simp [bk]
theorem bJd{n i:Nat}(h:i≤n):bk n i <+: bk n 0:=by
 unfold bk;rw [List.drop_zero];refine ⟨((List.range n).take i).reverse,?_⟩;rw [← List.reverse_append,aPq]
theorem cJh{n i:Nat}(h:i<n):(bk n (i+1)).length<(bk n 0).length:=by rw [aWl,aWl];omega
end KV
end Go.Proofs
end
section
namespace Go.Proofs
open Go.RowKit Go.Lib Go.Shelf
namespace KV
attribute [local go_sem] Oper.semAt_some
def Hid(p:Prop):Prop:=p
theorem hid{p:Prop}(h:p):Hid p:=h
theorem Hid.out{p:Prop}(h:Hid p):p:=h
def vals6(x:List Int):Array Value:=(x.map (Value.int .i64)).toArray
set_option maxRecDepth 1000000 in
set_option maxHeartbeats 2000000 in
theorem aWj(dc:Lqq)(hl:dc.length≤1000)(F0:Nat→Prop)(n l b1 o1 b2 o2 cap:Nat)(hn:1≤n)(J Jx:List Nat→World→Prop)
  (hY:∀ pre (k:Nat) (a b c d e f:Int) W,dc[k]? = some [a,b,c,d,e,f]→J pre W→pre.length<(bk dc.length 0).length→YieldAt Fence.wide (n-1) Tp l #[.int .i64 k,.agg #[.int .i64 a,.int .i64 b,.int .i64 c,.int .i64 d,.int .i64 e,.int .i64 f]] W fun e W' =>
   (e = .returned (.bool true)∧J (pre++[k]) W'∧KpG F0 W W')∨(e = .returned (.bool false)∧Jx (pre++[k]) W'))
  (W:World) (hJ:AbidesFrom W.heap.size J) (hF:∀ b,F0 b→b<W.heap.size)
  (hc:∀ W',KpG F0 W W'→∀ k:Nat,k<dc.length→∃ a b c d e f,dc[k]? = some [a,b,c,d,e,f]∧W'.cell? ⟨b2,o2+k*6,none⟩=some (.int .i64 a)∧W'.cell? ⟨b2,o2+k*6+1,none⟩=some (.int .i64 b)∧W'.cell? ⟨b2,o2+k*6+2,none⟩=some (.int .i64 c)∧W'.cell? ⟨b2,o2+k*6+3,none⟩=some (.int .i64 d)∧W'.cell? ⟨b2,o2+k*6+4,none⟩=some (.int .i64 e)∧W'.cell? ⟨b2,o2+k*6+5,none⟩=some (.int .i64 f))
  (hk:∀ W',KpG F0 W W'→W'.cell? ⟨b1,o1,none⟩=some (.slice (some ⟨b2,o2,none⟩) dc.length cap)) (h0:J [] W) :
  CallsIn Fence.wide n Tp 187 #[.func (.yield l) #[] #[],.pointer (some ⟨b1,o1,none⟩)] W fun e W'=>(∃ v,e = .returned v) ∧
   ((∃ ys,ys=bk dc.length 0∧J ys W')∨(∃ pre,pre <+: bk dc.length 0∧Jx pre W')):=by
 have HJ:=hid hJ;have HY:=hid hY;have HC:=hid hc;have HKC:=hid hk;have HF0:=hid hF;have HJ0:=hid h0;have k0:=hk W (KpG.refl _ _);clear hJ hY hc h0 hk hF;refine callsIn_of_wp Tryz.func187 rfl trivial ?_ rfl;simp only [Tryz.ntmps187,List.size_toArray,nW,List.length_nil,Nat.reduceAdd,Nat.reduceSub,Array.replicate_succ,Array.replicate_zero,List.push_toArray,List.append_toArray,List.nil_append,List.cons_append]
 gi_wp2
 clear k0
 gi_loopw [3] (fun i wr=>∃ k:Nat,k≤dc.length∧i = .int .i64 ((k:Int)-1)∧J (bk dc.length k) wr∧KpG F0 W wr)
  (fun i _=>(intOf i+1).toNat)
 case atStart=>exact ⟨dc.length,dX _,by go_num,by rw [cFn];exact HJ0.out,KpG.refl _ _⟩
 case round =>
  obtain ⟨k,hk,rfl,hJk,hK⟩:=hrel;have HJK:=hid hJk;have HK:=hid hK;have k0:=HKC.out wr hK;have HFR:=hid (fun b (hb:F0 b)=>fY (HF0.out b hb) HK.out.size)
  clear hJk hK
  rcases Nat.eq_zero_or_pos k with rfl | hpos
  ·gi_wp2
   go_end0
   exact ⟨⟨_,rfl⟩,.inl ⟨_,rfl,HJK.out⟩⟩
  ·obtain ⟨k,rfl⟩:∃ j,k=j+1:=⟨k-1,by omega⟩
   have e1:((k+1:Nat):Int)-1=(k:Int):=by omega
   have hlt:(k:Int)<(dc.length:Int):=by omega
   have hlt2:(dc.length:Int)≤1000:=by omega
   rw [e1];obtain ⟨a,b,c,d,e,f,hx0,c0,c1,c2,c3,c4,c5⟩:=HC.out wr HK.out k (by omega)
   have HL:=hid (cJh (n:=dc.length) (i:=k) (by omega))
   have HB:=hid (bWb (n:=dc.length) (i:=k) (by omega))
   have HP:=hid (bJd (n:=dc.length) (i:=k) (by omega))
   have hge:(k:Int) ≥ 0:=by omega
   obtain ⟨fn,tmps,assign,body,hy,hR⟩:=HY.out _ k a b c d e f wr hx0 HJK.out HL.out;clear hx0
   gi_wp2_with (refine hR.mono ?_;clear hR;rintro e w3 (⟨rfl,hJ3,hK3⟩ | ⟨rfl,hx⟩))
   ·go_roundw
    case rel=>exact ⟨k,by omega,by go_num,by rw [HB.out];exact hJ3,HK.out.trans hK3⟩
    case measure=>simp [intOf]
   ·refine bodyPost_ret (results_none rfl _ _ _) rfl ?_
    exact ⟨⟨_,rfl⟩,.inr ⟨bk dc.length (k+1)++[k],HB.out ▸ HP.out,hx⟩⟩
set_option maxRecDepth 1000000 in
set_option maxHeartbeats 2000000 in
theorem aWk(n l b1 o1 cap:Nat)(p:Option Addr)(hn:1≤n)(J:World→Prop)(W:World)(hk:W.cell? ⟨b1,o1,none⟩=some (.slice p 0 cap))(h0:J W) :
  CallsIn Fence.wide n Tp 187 #[.func (.yield l) #[] #[],.pointer (some ⟨b1,o1,none⟩)] W fun e W'=>(∃ v,e = .returned v)∧J W':=by
 have HJ0:=hid h0;have k0:=hk;clear h0 hk;refine callsIn_of_wp Tryz.func187 rfl trivial ?_ rfl;simp only [Tryz.ntmps187,List.size_toArray,nW,List.length_nil,Nat.reduceAdd,Nat.reduceSub,Array.replicate_succ,Array.replicate_zero,List.push_toArray,List.append_toArray,List.nil_append,List.cons_append]
 gi_wp2
 clear k0
 gi_loopw [3] (fun i wr=>i = .int .i64 (-1)∧J wr) (fun i _=>(intOf i+1).toNat)
 case atStart=>exact ⟨by go_num,HJ0.out⟩
 case round =>
  obtain ⟨rfl,hJk⟩:=hrel;have HJK:=hid hJk;clear hJk
  gi_wp2
  go_end0
  exact ⟨⟨_,rfl⟩,HJK.out⟩
end KV
end Go.Proofs
end
namespace Go.Proofs
namespace KV
section
variable {P:Program} {ops:Array Oper} {md:Region.Mode} {Q:Exit→Act→World→Prop} {F:Fence} {n:Nat}

def VS(P:Program)(m:Sem Next):Prop:=∀ w,(∃ v w',m.run P w = .ok (.value v) w')∨(∃ w',m.run P w = .ok .skip w')∨∃ x w',m.run P w = .halt x w'
theorem VS.val(m:Sem Value):VS P (do pure (.value (← m))):=fun w=>by
 cases h:m.run P w with
 | ok v w'=>exact .inl ⟨v,w',by simp [h,Result.andThen]⟩
 | halt x w'=>exact .inr (.inr ⟨x,w',by simp [h,Result.andThen]⟩)
theorem VS.unit(m:Sem Unit):VS P (do m;pure .skip):=fun w=>by
 cases h:m.run P w with
 | ok v w'=>exact .inr (.inl ⟨w',by simp [h,Result.andThen]⟩)
 | halt x w'=>exact .inr (.inr ⟨x,w',by simp [h,Result.andThen]⟩)
theorem VS.bind{α:Type}(m:Sem α)(f:α→Sem Next)(h:∀ x,VS P (f x)):VS P (m >>= f):=fun w=>by
 cases e:m.run P w with
 | ok v w' =>
  rcases h v w' with ⟨u,w2,q⟩ | ⟨w2,q⟩ | ⟨x,w2,q⟩
  ·exact .inl ⟨u,w2,by simp [e,Result.andThen,q]⟩
  ·exact .inr (.inl ⟨w2,by simp [e,Result.andThen,q]⟩)
  ·exact .inr (.inr ⟨x,w2,by simp [e,Result.andThen,q]⟩)
 | halt x w'=>exact .inr (.inr ⟨x,w',by simp [e,Result.andThen]⟩)
theorem VS.pure(v:Value):VS P (Pure.pure (.value v):Sem Next):=fun w => .inl ⟨v,w,rfl⟩
def aBp(o:Oper):Bool:=match o.op with
 | .move _=>true
 | .assign _=>true
 | .indexAddr _ _ _=>true
 | .fieldAddr _ _ _=>true
 | .field _ _ _=>true
 | .load _ _=>true
 | .store _ _ _=>true
 | .lookup _ _ _ _=>true
 | .buildSlice _ _ _=>true
 | .mapUpdate _ _ _ _=>true
 | .nilCheck _=>true
 | .call c=>match c.callee with
  | .builtin .append=>true
  | _=>false
 | _=>false
theorem bWa{o:Oper}(h:aBp o=true)(ρ:Operand→Value):VS P (execOp ρ o):=by
 unfold aBp at h
 unfold execOp;cases ho:o.op <;> rw [ho] at h <;> first | exact absurd h Bool.false_ne_true | exact VS.val _ | exact VS.unit _ | skip
 case move x=>exact fun w => .inl ⟨_,w,rfl⟩
 case assign x=>exact fun w => .inl ⟨_,w,rfl⟩
 case nilCheck x =>
  dsimp only
  split
  ·exact fun w => .inr (.inr ⟨_,_,rfl⟩)
  ·exact fun w => .inr (.inr ⟨_,_,rfl⟩)
  ·exact fun w => .inr (.inr ⟨_,_,rfl⟩)
  ·split
   ·exact fun w => .inr (.inr ⟨_,_,rfl⟩)
   ·refine VS.bind _ _ fun p=>VS.bind _ _ fun q => ?_
    split
    ·exact VS.bind _ _ fun _=>VS.pure _
    ·exact VS.pure _
   ·exact VS.pure _
  ·exact VS.pure _
 case call c =>
  dsimp only at h
  show VS P (resolve ρ c o.type >>= fun d=>invoke d.target d.args)
  split at h
  ·rename_i hc
   unfold resolve;rw [hc];exact VS.val _
  ·cases h
theorem aWi{o:Oper}(h:aBp o=true):∀ c,o.op ≠ .defer c:=fun c hc=>by unfold aBp at h;rw [hc] at h;cases h

theorem aRb(hall:∀ f,F.fn f){i:Nat}{K:Act→World→Prop}{a:Act}{w:World}(hL:¬ LetsOut Q)(hc:∀ o,ops[i]? = some o→aBp o=true)(h:wpOp P ops Q i K a w):wpOpIn F n P ops Q i K a w:=by
 unfold wpOp at h
 unfold wpOpIn;cases ho:ops[i]? with
 | none=>rw [ho] at h;exact h
 | some o =>
  rw [ho] at h
  dsimp only at h ⊢
  split
  ·rename_i hw
   rw [if_pos hw] at h
   rcases h with h | h
   ·unfold Oper.wp at h
    unfold Oper.wpIn;refine ⟨fun f _=>hall f,?_⟩
    rw [Oper.semAt_plain _ _ _ (aWi (hc o ho))]
    rcases bWa (P:=P) (hc o ho) a.eval w with ⟨v,w',e⟩ | ⟨w',e⟩ | ⟨x,w',e⟩
    ·rw [e] at h ⊢;exact h
    ·rw [e] at h ⊢;exact h
    ·rw [e] at h ⊢
     cases x <;> first | exact h | exact h.elim
   ·exact absurd h.2 hL
  ·rename_i hw
   rw [if_neg hw] at h
   exact ⟨fun f _=>hall f,h⟩
theorem yK(hall:∀ f,F.fn f)(hL:¬ LetsOut Q)(hc:∀ (i:Nat) (o:Oper),ops[i]? = some o→aBp o=true):∀ (fuel:Nat) (listed:Array Bool) (a:Act) (w:World),wpAny P md ops Q fuel listed a w→wpAnyIn F n P md ops Q fuel listed a w
 | 0,_,_,_,h=>h
 | fuel+1,listed,a,w,h=>⟨h.1,fun i hi=>wpOpIn_mono (fun a' w' h'=>yK hall hL hc fuel _ a' w' h') (aRb hall hL (hc i) (h.2 i hi))⟩

theorem bJc{S:World→Prop}{id:Nat}{l:List Oper}{a:Act}{w:World}{o1 o2 o3:Oper}(hall:∀ f,F.fn f)(hL:¬ LetsOut Q)(hcalm:l.all aBp=true)(ts:List Nat)(r1 r2 r3:Nat)(hm:P.follows .mixedOrders=true)(hB:aMn l ts r1 r2 r3=true)(h1:l[r1]? = some o1)(h2:l[r2]? = some o2)(h3:l[r3]? = some o3)
  (hQ:∀ c a w,¬ Q (.panic c) a w) (hS:S { w with drawn:=w.drawn+1 }) (vs:List Value) (hl:vs.length=ts.length) (hy:aMm P S ((ts.filterMap fun i=>l[i]?).zip vs) a)
  (h:∀ a',a'=aBq ((ts.filterMap fun i=>l[i]?).zip vs) a→∃ v1 w1 v2 w2 w3,(execOp a'.eval o1).run P { w with drawn:=w.drawn+1 } = .ok (.value v1) w1∧S w1∧(execOp (a'.put o1.dst v1).eval o2).run P w1 = .ok (.value v2) w2∧S w2 ∧
   (execOp ((a'.put o1.dst v1).put o2.dst v2).eval o3).run P w2 = .ok .skip w3∧Q .normal (((a'.put o1.dst v1).put o2.dst v2).put o3.dst undef) w3):(Code.region id l.toArray true).wpIn F n P Q a w:=by
 unfold aMn at hB
 simp only [kQ6,decide_eq_true_eq] at hB
 obtain ⟨⟨⟨hsel,ht⟩,hsz⟩,hne⟩:=hB;refine wpIn_region_any hm (yK hall hL (fun i o ho=>gQ.1 hcalm o (kQ1 (by simpa using ho))) _ _ _ _ (aFt (S:=S) (L:=r3) _ _ _ _ ?_))
 rw [← hsz];refine aJx (rs:=[r1,r2,r3]) hsel hQ hS ts vs _ a hl (by rw [hsz];exact ht) (by simpa using hy) (fun listed' hc => ?_)
 obtain ⟨v1,w1,v2,w2,w3,e1,s1,e2,s2,e3,hq⟩:=h _ rfl;simp only [aJw.chain,kQ6,decide_eq_true_eq] at hc
 obtain ⟨⟨g1,c1⟩,⟨g2,c2⟩,⟨g3,c3⟩,c4⟩:=hc;have k1:l.toArray[r1]? = some o1:=by simpa using h1
 have k2:l.toArray[r2]? = some o2:=by simpa using h2
 have k3:l.toArray[r3]? = some o3:=by simpa using h3
 rw [k1] at g1;rw [k2] at g2;rw [k3] at g3
 simp only [Option.isNone_iff_eq_none] at g1 g2 g3
 have e1':((ts.filterMap fun i=>l.toArray[i]?))=(ts.filterMap fun i=>l[i]?):=by simp
 rw [e1'];refine wY c1 k1 g1 (.inl e1) (fun _=>s1) ?_
 refine wY c2 k2 g2 (.inl e2) (fun _=>s2) ?_
 refine wY c3 k3 g3 (.inr ⟨e3,rfl⟩) (fun h=>absurd rfl h) ?_
 exact ⟨by simpa using c4,hq⟩
end
section
open Go.ChangeMaps (setBlock)
variable {P:Program} {C:Cx} {M:Mem} {w:World}

theorem bVz{M':Mem}(hM:aU P C M w)(h1:∀ (i:Nat) (o:AO),M'[i]? = some (some o)→M[i]? = some (some o))
  (h2:∀ (i ty:Nat) (cs:List AV),M'[i]? = some (some (.box ty cs))→∀ x∈cs,∀ u,Rep C M w x u→Rep C M' w x u):aU P C M' w:=by
 refine ⟨fun i ty n cs hm=>hM.row _ _ _ _ (h1 _ _ hm),fun i ty cs hm => ?_,fun i es cl hm=>hM.mp _ _ _ (h1 _ _ hm),fun i i' o o' b q1 q2 q3 q4=>hM.inj i i' o o' b (h1 _ _ q1) q2 (h1 _ _ q3) q4,fun i o b q1=>hM.nF i o b (h1 _ _ q1),hM.Fs,fun i o b q1=>hM.lt i o b (h1 _ _ q1)⟩
 obtain ⟨b,arr,q0,q1,q2,q3,q4⟩:=hM.box _ _ _ (h1 _ _ hm);exact ⟨b,arr,q0,q1,q2,fun j hj=>h2 _ _ _ hm _ (gD hj) _ (q3 j hj),q4⟩
theorem aQz{M':Mem}{i off:Nat}{u:Value}(hi:M'[i]? = M[i]?)(h:Rep C M w (.ptr i off) u):Rep C M' w (.ptr i off) u:=by
 cases h with
 | ptr _ _ _ h0 ha h hp=>exact .ptr i off u h0 (by rw [hi];exact ha) (by rw [hi];exact h) hp
theorem aWh{M':Mem}{i:Nat}{u:Value}(hi:M'[i]? = M[i]?)(h:Rep C M w (.mp i) u):Rep C M' w (.mp i) u:=by
 cases h with
 | mp _ _ h0 ha h=>exact .mp i u h0 (by rw [hi];exact ha) (by rw [hi];exact h)
theorem vC{M':Mem}{x:PV}{u:Value}(h:Rep C M w (.p x) u):Rep C M' w (.p x) u:=by
 cases h with
 | p _ _ h=>exact .p _ _ h

theorem aRa{b ty k:Nat}{cs:List PV}{arr:Array Value}(hM:aU P C M w)(hf:aBz M k)(hh:w.heap[b]? = some (.cells arr ty (0,0)))(hnF:¬ C.F b)(hnl:∀ (id:Nat) (o:AO),M[id]? = some (some o)→o.live=true→C.ι id≠some b)
  (hs:arr.size=cs.length) (hrep:∀ j (h:j<cs.length),cT C.F w cs[j] (arr.getD j undef)) (h1:∀ j,j<cs.length→(arr.getD j undef).oneCell'=true) :
  aU P (C.grow k b 1) (bA M k (some (.box ty (cs.map .p)))) w∧Le C (C.grow k b 1) M (bA M k (some (.box ty (cs.map .p)))) w w:=by
 have hne:∀ (j:Nat) (o':AO),M[j]? = some (some o')→j≠k:=fun j o' h e=>hf o' (e ▸ h)
 have hold:∀ (j:Nat) (o':AO),j≠k→(bA M k (some (.box ty (cs.map .p))))[j]? = some (some o')→M[j]? = some (some o'):=fun j o' h=>(aT M k j _ o' (fun e=>h e.symm)).1
 have hfw:∀ (j:Nat) (o':AO),M[j]? = some (some o')→(bA M k (some (.box ty (cs.map .p))))[j]? = some (some o'):=fun j o' h=>(aT M k j _ o' (fun e=>hne j o' h e.symm)).2 h
 have hι:∀ j,j≠k→(C.grow k b 1).ι j=C.ι j:=fun j h=>by simp [Cx.grow,h]
 have hκ:∀ j,j≠k→(C.grow k b 1).κ j=C.κ j:=fun j h=>by simp [Cx.grow,h]
 have hιs:(C.grow k b 1).ι k=some b:=by simp [Cx.grow]
 have hle:Le C (C.grow k b 1) M (bA M k (some (.box ty (cs.map .p)))) w w:=by
  refine ⟨fun j o h=>⟨o,hfw j o h⟩,fun j o h ty' n' cs' hm=>⟨cs',hold j _ (hne j o h) hm⟩,fun j o h o' hm hl => ?_,fun _ h=>h,fun _ _=>rfl⟩
  have:=hold j _ (hne j o h) hm;rw [h] at this;cases this
  exact ⟨hl,hι j (hne j o h),hκ j (hne j o h)⟩
 have hnew:∀ (o':AO),(bA M k (some (.box ty (cs.map .p))))[k]? = some (some o')→o' = .box ty (cs.map .p):=fun o' h=>by rw [aZ] at h;cases h;rfl
 refine ⟨⟨fun j ty' n' cs' hm => ?_,fun j ty' cs' hm => ?_,fun j es cl hm => ?_,fun j j' o1 o2 b' hm hl hm' hl' hb1 hb2 => ?_,fun j o' b' hm hl hb' => ?_,hM.Fs,fun j o' b' hm hl hb' => ?_⟩,hle⟩
 ·by_cases e:j=k
  ·subst e;cases hnew _ hm
  ·rw [hι j e,hκ j e]
   rcases hM.row _ _ _ _ (hold j _ e hm) with h4 | ⟨b,arr,inf,q0,q1,q2,q3,q4,q5,q6,q7,q8⟩
   ·exact .inl h4
   ·exact .inr ⟨b,arr,inf,q0,q1,q2,q3,q4,q5,q6,fun j hj=>(q7 j hj).mono hle.F hle.fz,q8⟩
 ·by_cases e:j=k
  ·subst e
   cases hnew _ hm;refine ⟨b,arr,hιs,hh,by simpa using hs,fun i hi => ?_,fun i hi=>h1 i (by simpa using hi)⟩
   rw [nI];exact .p _ _ (hrep i (by simpa using hi))
  ·rw [hι j e]
   obtain ⟨b,arr,q0,q1,q2,q3,q4⟩:=hM.box _ _ _ (hold j _ e hm);exact ⟨b,arr,q0,q1,q2,fun j hj=>(q3 j hj).mono hle,q4⟩
 ·by_cases e:j=k
  ·subst e;cases hnew _ hm
  ·rw [hι j e]
   obtain ⟨b,arr,q0,q1,q2,q3⟩:=hM.mp _ _ _ (hold j _ e hm);refine ⟨b,arr,q0,q1,q2,fun j hj => ?_⟩
   obtain ⟨en,r1,r2,r3,r4⟩:=q3 j hj;exact ⟨en,r1,r2,r3,r4.mono hle.F hle.fz⟩
 ·by_cases e:j=k
  ·by_cases e':j'=k
   ·rw [e,e']
   ·subst e
    rw [hιs] at hb1;cases hb1
    rw [hι j' e'] at hb2
    exact absurd hb2 (hnl _ _ (hold j' _ e' hm') hl')
  ·by_cases e':j'=k
   ·subst e'
    rw [hιs] at hb2;cases hb2
    rw [hι j e] at hb1
    exact absurd hb1 (hnl _ _ (hold j _ e hm) hl)
   ·rw [hι j e] at hb1;rw [hι j' e'] at hb2
    exact hM.inj _ _ _ _ _ (hold j _ e hm) hl (hold j' _ e' hm') hl' hb1 hb2
 ·by_cases e:j=k
  ·subst e
   rw [hιs] at hb';cases hb'
   exact hnF
  ·rw [hι j e] at hb'
   exact hM.nF _ _ _ (hold j _ e hm) hl hb'
 ·by_cases e:j=k
  ·subst e
   rw [hιs] at hb';cases hb'
   exact cG hh
  ·rw [hι j e] at hb'
   exact hM.lt _ _ _ (hold j _ e hm) hl hb'
end
end KV
end Go.Proofs
section
namespace Go.Proofs
open Go.RowKit Go.Lib Go.Shelf
namespace KV
abbrev Bk(dc:Lqq):={ k:Nat // k<dc.length }
def nS(dc:Lqq)(k:Nat):List Int:=dc.getD k []
abbrev aQy(dc:Lqq):AV := .fn 187 [] [(.rp [(.sl dc.length (dc.flatten.map aA))] 0)]
theorem cJf{F:Nat→Prop}{w:World}{n:Int}{u:Value}(h:cT F w (aA n) u):u = .int .i64 n:=by unfold aA at h;cases h;rfl
theorem bVy{dc:Lqq}(hu:uni 6 dc){k j:Nat}{x:List Int}(hx:dc[k]? = some x)(hj:j<6):dc.flatten[k*6+j]? = some (x.getD j 0):=by
 have hk:k<dc.length:=(kQ3.1 hx).1
 induction dc generalizing k with
 | nil=>simp at hk
 | cons y r ih =>
  have hy:y.length=6:=hu y (jJ ..);rw [tE];cases k with
  | zero =>
   simp at hx;subst hx
   rw [Nat.zero_mul,gT,aEr (by omega),kQ4,kQ0 (by omega)];rfl
  | succ k =>
   rw [zF (by omega),hy,show (k+1)*6+j-6=k*6+j by omega]
   exact ih (fun z hz=>hu z (kQ7 _ hz)) (by simpa using hx) (by simpa using hk)
theorem cFm{F:Nat→Prop}{w:World}{n:Nat}{cs:List PV}{v:Value}(h:cT F w (.sl n cs) v):∃ (p:Option Addr) (cap:Nat) (us:Nat→Value),v = .slice p n cap∧(∀ i,i<cs.length→∃ b o,p=some ⟨b,o,none⟩∧F b∧w.cell? ⟨b,o+i,none⟩=some (us i))∧∀ i (h:i<cs.length),cT F w cs[i] (us i):=by
 cases h with
 | sl _ _ p cap us g1 g2 g3 g4 g5=>exact ⟨p,cap,us,rfl,g3,g4⟩
theorem bJb(dc:Lqq)(hu:uni 6 dc)(hl:dc.length≤1000):cDw Tp (aQy dc) (fun x:Bk dc => #[Value.int .i64 (x.1:Nat),.agg (vals6 (nS dc x.1))]) 187 dc.length (fun ys=>ys.map (fun x=>x.1)=bk dc.length 0):=fun C M w u hu0 hFs=>by
 cases hu0 with
 | fn _ _ _ us vs h1 h2 h3 h4 =>
  obtain rfl:us = #[]:=by simpa using h1
  have q0:=h4 0 (by simp)
  simp only [List.getElem_cons_zero] at q0
  obtain ⟨x0,rfl⟩:∃ x0,vs = #[x0]:=by
   have:vs.toList.length=1:=by simpa using h2
   match hv:vs.toList,this with
   | [x0],_=>exact ⟨x0,by rw [← hv]⟩
  change Rep C M w (.rp [.sl dc.length (dc.flatten.map aA)] 0) x0 at q0
  cases q0 with
  | rp _ _ b1 o1 u1 e1 e2 e3 =>
   have r0:=e2 0 (by simp)
   change cT C.F w (.sl dc.length (dc.flatten.map aA)) (u1 0) at r0
   have c0:=e1 0 (by simp)
   obtain ⟨p,cap,us2,hv,g3,g4⟩:=cFm r0;rw [hv] at c0
   clear r0 hv
   ·have hlf:(dc.flatten.map aA).length=dc.length*6:=by rw [kQ8,oW hu]
    refine ⟨_,fun pre=>True,rfl,fun l J Jx W hW hJ _ hY h0 => ?_⟩
    have hsame:∀ W',KpG C.F W W'→∀ b,C.F b→W'.heap[b]? = w.heap[b]? := fun W' hk b hb=>(hk.same b hb).trans (hW.block b (hFs b hb))
    obtain ⟨b2,o2,hp⟩:∃ b2 o2,dc.length=0∨p=some ⟨b2,o2,none⟩:=by
     by_cases hz:dc.length=0
     ·exact ⟨0,0,.inl hz⟩
     ·obtain ⟨b,o,h,_⟩:=g3 0 (by omega)
      exact ⟨b,o,.inr h⟩
    have hcell:∀ W',KpG C.F W W'→∀ k:Nat,k<dc.length→∃ a b c d e f,dc[k]? = some [a,b,c,d,e,f]∧W'.cell? ⟨b2,o2+k*6,none⟩=some (.int .i64 a)∧W'.cell? ⟨b2,o2+k*6+1,none⟩=some (.int .i64 b)∧W'.cell? ⟨b2,o2+k*6+2,none⟩=some (.int .i64 c)∧W'.cell? ⟨b2,o2+k*6+3,none⟩=some (.int .i64 d)∧W'.cell? ⟨b2,o2+k*6+4,none⟩=some (.int .i64 e)∧W'.cell? ⟨b2,o2+k*6+5,none⟩=some (.int .i64 f):=fun W' hk k hkn=>by
     obtain ⟨a,b,c,d,e,f,hx⟩:=at6 hu (i:=k) (by omega)
     have one:∀ j,j<6→W'.cell? ⟨b2,o2+(k*6+j),none⟩=some (.int .i64 ([a,b,c,d,e,f].getD j 0)):=fun j hj=>by
      have hi:k*6+j<(dc.flatten.map aA).length:=by omega
      obtain ⟨b',o',q1,q2,q3⟩:=g3 (k*6+j) hi
      rcases hp with hp | hp
      ·omega
      ·rw [hp] at q1
       cases q1;rw [eT (hsame W' hk b2 q2),q3];have:=g4 (k*6+j) hi;have he:(dc.flatten.map aA)[k*6+j]=aA ([a,b,c,d,e,f].getD j 0):=by
        have h5:=bVy hu hx hj;rw [nI]
        congr 1
        obtain ⟨_,h6⟩:=kQ3.1 h5;exact h6
       rw [he] at this
       rw [cJf this]
     exact ⟨a,b,c,d,e,f,hx,one 0 (by omega),one 1 (by omega),one 2 (by omega),one 3 (by omega),one 4 (by omega),one 5 (by omega)⟩
    by_cases hz:dc.length=0
    ·-- nothing to yield: any address will do
     have h2:bk dc.length 0=[]:=by unfold bk;rw [hz];rfl
     rw [hz] at c0
     refine (aWk 2 l b1 o1 cap p (by omega) (J []) W ((eT (hsame W (KpG.refl _ _) b1 c0.1) _).trans c0.2) h0).mono ?_
     rintro e W' ⟨h5,h6⟩;exact ⟨h5,.inl ⟨[],by rw [h2];rfl,h6⟩⟩
    ·have hp:p=some ⟨b2,o2,none⟩:=hp.resolve_left hz
     subst hp;have:=aWj dc hl C.F 2 l b1 o1 b2 o2 cap (by omega) (fun ys W=>∃ zs:List (Bk dc),zs.map (fun x=>x.1)=ys∧J zs W) (fun ys W=>∃ zs:List (Bk dc),zs.map (fun x=>x.1)=ys∧Jx zs W)
      (fun pre k a b c d e f W1 hx hj hlt=>by
       obtain ⟨zs,rfl,hj⟩:=hj;have hk:k<dc.length:=(kQ3.1 hx).1;obtain ⟨fn,tmps,assign,body,hy,hR⟩:=hY zs ⟨k,hk⟩ W1 hj (by simpa [aWl] using hlt)
       have ev:vals6 (nS dc k) = #[.int .i64 a,.int .i64 b,.int .i64 c,.int .i64 d,.int .i64 e,.int .i64 f]:=by
        unfold nS;rw [kQ4,hx];rfl
       dsimp only at hy
       rw [ev] at hy
       refine ⟨fn,tmps,assign,body,hy,hR.mono ?_⟩;rintro e w3 (⟨rfl,hJ3,hK3⟩ | ⟨rfl,hx3⟩)
       ·exact .inl ⟨rfl,⟨zs++[⟨k,hk⟩],by rw [iN];rfl,hJ3⟩,hK3⟩
       ·exact .inr ⟨rfl,⟨zs++[⟨k,hk⟩],by rw [iN];rfl,hx3⟩⟩)
      W (fun ys A B row hs hg hr=>by obtain ⟨zs,h1,h2⟩:=hs;exact ⟨zs,h1,hJ _ _ _ _ h2 hg hr⟩) (fun b hb=>fY (hFs b hb) hW.size)
      hcell
      (fun W' hk=>(eT (hsame W' hk b1 c0.1) _).trans c0.2)
      ⟨[],rfl,h0⟩
     refine this.mono ?_;rintro e W' ⟨h5,h6⟩;refine ⟨h5,?_⟩
     rcases h6 with ⟨ys,rfl,zs,h7,h8⟩ | ⟨pre,_,zs,h7,h8⟩
     ·exact .inl ⟨zs,h7,h8⟩
     ·exact .inr ⟨zs,trivial,h8⟩
end KV
end Go.Proofs
end
section
namespace Go.Proofs
open Go.RowKit
namespace KV
variable {P:Program} {T:TT} {E:Env} {C C0:Cx} {M M0:Mem} {w w0:World}
def fG(P:Program)(k:Nat)(c:Code)(st:St)(e:Ex)(st':St):Prop:=∀ (C0:Cx) (M0:Mem) (w0:World) (a:Act) (w:World),M0.length≤k→Sim P C0 M0 w0 st a w→∀ (ro:Option Nat) (n:Nat),c.wpIn (Fen ro) n P (fun e' a' w'=>e'=e.toExit∧Sim P C0 M0 w0 st' a' w') a w
theorem fG.cast{k:Nat}{c:Code}{st st1 st2:St}{e:Ex}(h:fG P k c st e st1)(q:st1=st2):fG P k c st e st2:=q ▸ h
theorem bQh(hT:∀ t i,T t=some i→cP P t=some i)(hE:mG P E)(hm:P.follows .mixedOrders=true){id:Nat}{ops:Array Oper}{d:Bool}{st st':St}{s s':AS}(h:aNz P T E ops d st s=some (st',s'))(g:bC s'){k:Nat}:fG P k (.region id ops d) st .normal st':=by
 intro C0 M0 w0 a w _ hs ro n;cases d with
 | false =>
  refine wpIn_region ?_;have:=wA hT hE ops.toList 0 (fun j=>by simp) h g C0 M0 w0 a w hs ro n (fun e' a' w'=>e'=Ex.normal.toExit∧Sim P C0 M0 w0 st' a' w') (fun a' w' h'=>⟨rfl,h'⟩)
  simpa using this
 | true =>
  obtain ⟨_,s1,h1,k1⟩:=aD h;obtain ⟨e1,rfl⟩:=aF h1;obtain ⟨r,s2,h2,k2⟩:=aD k1;obtain ⟨_,s3,h3,k3⟩:=aD k2;obtain ⟨e3,rfl⟩:=aF h3;obtain ⟨rfl,rfl⟩:=aI k3;obtain ⟨hB,_⟩:=bS e1;obtain ⟨hA,_⟩:=bS e3;obtain ⟨os,hfts,hlex⟩:=sL ops.toList _ (fts:=r.1) (fin:=r.2) h2 g
  replace hB:=yW hB
  unfold Region.lexB at hB
  rw [kQ6] at hB
  have hlen:os.length=ops.toList.length:=by
   have:∀ {l:List Oper} {id:Nat} {st:St} {os:List xK} {fin:St},aOa P T E ops.toList id l st os fin→os.length=l.length:=by
    intro l
    induction l with
    | nil=>intro id st os fin h;cases h;rfl
    | cons o l ih=>intro id st os fin h;cases h with | cons _ _ _ _ q os _ h hr=>simp [ih hr]
   exact this hlex
  have key:pY P T E ops.toList st.m.length (fun k=>os.getD k (.any,[],none)) r.2 ops.toList.length (Array.replicate ops.size false) st:=by
   refine pY.lex ops.toList 0 _ st os (fun j=>by simp) (fun j q hj=>by simp [kQ4,hj]) (fun j hj=>absurd hj (aTv _)) (fun j oj hj hl => ?_) (fun i j _ hij hj => ?_) (by simpa using hB.2) (by simpa [ido] using hlex)
   ·exfalso
    rcases Nat.lt_or_ge j ops.size with h' | h'
    ·simp [h'] at hl
    ·simp [Nat.not_lt.2 h'] at hl
   have hj2:j<os.length:=by
    rw [hlen];obtain ⟨o,ho⟩:=Option.isSome_iff_exists.1 hj;exact (kQ3.1 ho).1
   have:=oA r.1 0 hA i j (aDi os[i]) (aDi os[j]) hij (by rw [hfts,kQ9,kQ0 (by omega)];rfl) (by rw [hfts,kQ9,kQ0 hj2];rfl)
   rw [gT,gT] at this
   simp only [kQ4,kQ0 hj2,kQ0 (show i<os.length by omega),Option.getD_some,Array.toArray_toList]
   exact this
  refine wpIn_region_any hm ?_;have:=pY.sound hT hE (C0:=C0) (M0:=M0) (w0:=w0) (ro:=ro) (n:=n) (Q:=fun e' a' w'=>e'=Ex.normal.toExit∧Sim P C0 M0 w0 r.2 a' w') (fun a' w' h'=>⟨rfl,h'⟩) _ _ _ a _ key (hs.drawn (w.drawn+1))
  simpa using this


noncomputable def bQi(c:Code)(st:St):Ask (Ex × St):=match c with
 | .region _ ops d=>do
  let st' ← aNz Tp tT EO ops d st
  pure (.normal,st')
 | _=>fail
theorem fG.fin{k:Nat}{c:Code}{st st':St}{e:Ex}{g:Gh}{o:List OI}{l:List Prop}(h:aCf k g (bQi c st (asg o))=some (e,st',l,[]))(gd:bC (out l)):fG Tp k c st e st':=by
 unfold aCf at h
 split at h
 ·rename_i e1 st1 s hr
  split at h
  ·rename_i st2 hg
   simp only [Option.some.injEq,Prod.mk.injEq] at h
   obtain ⟨rfl,rfl,rfl,hs⟩:=h;unfold bQi at hr
   split at hr
   ·rename_i id ops d
    obtain ⟨st3,s1,h1,k1⟩:=aD hr;obtain ⟨he,rfl⟩:=aI k1;cases he;intro C0 M0 w0 a w hk hsm ro n;exact wpIn_mono (bQh (k:=k) aIu aIt mixed h1 (fun p hp=>gd p hp) C0 M0 w0 a w hk hsm ro n) (fun _ _ _ hq=>⟨hq.1,eW hk hg hq.2⟩)
   ·exact (aY hr).elim
  ·cases h
 ·cases h
theorem fG.fi{k:Nat}{c:Code}{st st':St}{e:Ex}(g:Gh)(o:List OI){l:List Prop}(gd:bC (out l))(h:aCf k g (bQi c st (asg o))=some (e,st',l,[]):=by kernel_rfl):fG Tp k c st e st':=fG.fin h gd
end KV
end Go.Proofs
end
namespace Go.Proofs
namespace KV
section
variable {dl x0 x1 x2 x3 x4 x5:Int}{cl mb:Nat}

theorem bVv{v1 v2:Value}{es:List (Value × PV)}(h0:cN .i64 es (.int .i64 x0))(h1:(dR es (.int .i64 x0))=true):fG Tp 5 (sub (cd Tryz.f82) [1,1,1,1,0,1,0,1,0,0]) ⟨fr 57 [(6,(.ptr 0 0)),(8,(.ptr 4 0))],[some (.box 130 [(.ptr 1 0)]),some (.box 176 [(pI dl),(.p (.v v1)),(.p (.v v2)),(.mp 2),(.p (.v (.map (some mb))))]),some (.mp es cl),some .dead,some (.box 44 [(pI x0),(pI x1),(pI x2),(pI x3),(pI x4),(pI x5)])]⟩ .normal ⟨fr 57 [(6,(.ptr 0 0)),(8,(.ptr 4 0))],[some (.box 130 [(.ptr 1 0)]),some (.box 176 [(pI dl),(.p (.v v1)),(.p (.v v2)),(.mp 2),(.p (.v (.map (some mb))))]),some (.mp (qR es (.int .i64 x0) (dcE x0 x1 x2 x3 x4 x5)) cl),some .dead,some (.box 44 [(pI x0),(pI x1),(pI x2),(pI x3),(pI x4),(pI x5)])]⟩:=by
 exact fG.fi ⟨[0,1,2,3,4,5,7,9,10,11,12,13,14,15,16,17,18,19,20,21,22,23,24,25,26,27,28,29,30,31,32,33,34,35,36,37,38,39,40,41,42,43,44,45,46,47,48,49,50,51,52,53,54,55,56],[],[],[]⟩ [bT] (gc h1 (gc h0 gn))
theorem bVw{v1 v2:Value}{es:List (Value × PV)}(h0:cN .i64 es (.int .i64 x0))(h1:(dR es (.int .i64 x0))=false):fG Tp 5 (sub (cd Tryz.f82) [1,1,1,1,0,1,0,1,0,0]) ⟨fr 57 [(6,(.ptr 0 0)),(8,(.ptr 4 0))],[some (.box 130 [(.ptr 1 0)]),some (.box 176 [(pI dl),(.p (.v v1)),(.p (.v v2)),(.mp 2),(.p (.v (.map (some mb))))]),some (.mp es cl),some .dead,some (.box 44 [(pI x0),(pI x1),(pI x2),(pI x3),(pI x4),(pI x5)])]⟩ .normal ⟨fr 57 [(6,(.ptr 0 0)),(8,(.ptr 4 0))],[some (.box 130 [(.ptr 1 0)]),some (.box 176 [(pI dl),(.p (.v v1)),(.p (.v v2)),(.mp 2),(.p (.v (.map (some mb))))]),some (.mp (es++[((.int .i64 x0),(dcE x0 x1 x2 x3 x4 x5))]) (cl+1)),some .dead,some (.box 44 [(pI x0),(pI x1),(pI x2),(pI x3),(pI x4),(pI x5)])]⟩:=by
 exact fG.fi ⟨[0,1,2,3,4,5,7,9,10,11,12,13,14,15,16,17,18,19,20,21,22,23,24,25,26,27,28,29,30,31,32,33,34,35,36,37,38,39,40,41,42,43,44,45,46,47,48,49,50,51,52,53,54,55,56],[],[],[]⟩ [bF] (gc h1 (gc h0 gn))
theorem bVx{v1 v2:Value}{es:List (Value × PV)}:fG Tp 5 (sub (cd Tryz.f82) [1,1,1,1,0,1,0,1,0,1,0]) ⟨fr 57 [(6,(.ptr 0 0)),(8,(.ptr 4 0))],[some (.box 130 [(.ptr 1 0)]),some (.box 176 [(pI dl),(.p (.v v1)),(.p (.v v2)),(.mp 2),(.p (.v (.map (some mb))))]),some (.mp es cl),some .dead,some (.box 44 [(pI x0),(pI x1),(pI x2),(pI x3),(pI x4),(pI x5)])]⟩ .normal ⟨fr 57 [(6,(.ptr 0 0)),(8,(.ptr 4 0)),(39,(pB (decide (x5 > 0))))],[some (.box 130 [(.ptr 1 0)]),some (.box 176 [(pI dl),(.p (.v v1)),(.p (.v v2)),(.mp 2),(.p (.v (.map (some mb))))]),some (.mp es cl),some .dead,some (.box 44 [(pI x0),(pI x1),(pI x2),(pI x3),(pI x4),(pI x5)])]⟩:=by
 exact fG.fi ⟨[0,1,2,3,4,5,7,9,10,11,12,13,14,15,16,17,18,19,20,21,22,23,24,25,26,27,28,29,30,31,32,33,34,35,36,37,38,40,41,42,43,44,45,46,47,48,49,50,51,52,53,54,55,56],[],[],[]⟩ [] gn
end
end KV
end Go.Proofs
section
namespace Go.Proofs
open Go.RowKit
namespace KV
open Go.ChangeMaps (setBlock)
open Go.Maps Go.MapKept

section
variable {P:Program} {o:Oper} {a:Act} {W W':World}
theorem bQd{x:Operand}{p:Addr}(ho:o.op = .nilCheck x)(hv:a.eval x = .pointer (some p)):(execOp a.eval o).run P W = .ok (.value (.pointer (some p))) W:=by
 unfold execOp;rw [ho];simp [hv]
theorem yI{t:TypeId}{x:Operand}{f:Nat}{v r:Value}(ho:o.op = .fieldAddr t x f)(hx:a.eval x=v)(hr:(Instr.fieldAt t v f).run P W = .ok r W):(execOp a.eval o).run P W = .ok (.value r) W:=by
 unfold execOp;rw [ho];simp [hx,hr,Result.andThen]
theorem yJ{t:TypeId}{fs:Array Field}{f:Nat}{fl:Field}{j:TI}(hd:P.underlying t=some (.struct fs))(hf:fs[f]? = some fl)(hj:cP P fl.type=some j)(h0:j.size≠0)(b off:Nat) :
  (Instr.fieldAt t (.pointer (some ⟨b,off,none⟩)) f).run P W = .ok (.pointer (some ⟨b,off+fl.offset,none⟩)) W:=by
 unfold Instr.fieldAt;rw [Sem.run_bind,run_underlying hd,Result.andThen_ok];simp only [hf];rw [Sem.run_bind];show ((pure (⟨b,off,none⟩:Addr):Sem Addr).run P W).andThen _=_;rw [Sem.run_pure,Result.andThen_ok,Sem.run_bind,sX hj h0,Result.andThen_ok];rfl
theorem bJa{t:Nat}{i:TI}(hi:cP P t=some i)(ha:i.agg=true){b:Nat}{l:List Value}{ty:TypeId}{fr:Nat × Nat}(hl:l.length=i.size)(h:W.heap[b]? = some (.cells l.toArray ty fr)):(Instr.loadAt t (.pointer (some ⟨b,0,none⟩))).run P W = .ok (.agg l.toArray) W:=by
 have:=lZ (P:=P) (w:=W) hi ha (b:=b) (o:=0) (f:=fun j=>l.getD j undef) (fun j hj=>by
  rw [gT,cB h (by simpa using (by omega:j<l.length))]
  simp [kQ4,kQ0 (show j<l.length by omega),kQ2])
 have e:((List.range i.size).map fun j=>l.getD j undef).toArray=l.toArray:=by
  rw [← hl]
  congr 1
  apply List.ext_getElem
  ·simp
  ·intro j h1 h2
   simp [kQ4,kQ0 h2]
 rw [e] at this
 unfold Instr.loadAt Instr.sureAddr;simpa using this
end
theorem fill6{x:List Int}(hx:x.length=6):Instr.fill (fun i=>some (i*6,6)) ((Array.range (1*6)).map (zD6.cells[· % zD6.cells.size]!)) [(0,.agg (vsL x).toArray)]=some (vsL x).toArray:=by
 obtain ⟨a,b,c,d,e,f,rfl⟩:=len6 hx
 kernel_rfl
theorem tiq{P:Program}{t:Nat}{b:Bool}{n:Nat}(h:(cP P t).map (fun i=>(i.agg,i.size))=some (b,n)):∃ i,cP P t=some i∧i.agg=b∧i.size=n:=by
 cases h2:cP P t with
 | none=>rw [h2] at h;simp at h
 | some i=>rw [h2] at h;simp at h;exact ⟨i,rfl,h.1,h.2⟩
theorem tq130:(cP Tp 130).map (fun i=>(i.agg,i.size))=some (false,1):=by kernel_rfl
theorem tq174:(cP Tp 174).map (fun i=>(i.agg,i.size))=some (false,1):=by kernel_rfl
theorem tq3:(cP Tp 3).map (fun i=>(i.agg,i.size))=some (false,1):=by kernel_rfl
theorem tq44:(cP Tp 44).map (fun i=>(i.agg,i.size))=some (true,6):=by kernel_rfl
theorem info44z:(Tryz.prog.info? 44).map (fun i=>(i.zero,i.size,i.bytes))=some (some zD6,6,48):=by kernel_rfl

structure bVt (mb:Nat) (es:Array MapEntry) (cl:Nat) (L:List Ent) (k:Int) (x:List Int) (W W':World) (es':Array MapEntry) (cl':Nat) (e:Ent):Prop where
 ok:mM mb es' (qH L e)
 ky:e.k=k
 li:e.l=qG L k++[x]
 born:(∀ y∈es.toList,y.born<cl)→∀ y∈es'.toList,y.born<cl'
 has:∀ p∈iU mb es' cl' (qH L e),W'.heap[p.1]? = some p.2∧((∃ p0∈iU mb es cl L,p0.1=p.1)∨W.heap.size≤p.1)
 size:W.heap.size≤W'.heap.size
 os:W'.os=W.os
 tape:W'.tape=W.tape
 out:W'.output=W.output
 keep:∀ b,b<W.heap.size→(∀ q∈iU mb es cl L,q.1≠b)→W'.heap[b]? = W.heap[b]?

theorem bVu:∃ l:List Oper,sub (cd Tryz.f82) [1,1,1,1,0,1,0,1,0,1,1,0] = .region 9 l.toArray true∧aMn l [0,1,2,3,4,5,6,7,8,9,10,11,12,13] 14 15 16=true∧l.all aBp=true∧l.map (fun o=>(o.op,o.dst))=[(.load 130 (.tmp 6),some 40),(.nilCheck (.tmp 40),some 41),(.fieldAddr 176 (.tmp 41) 2,some 42),(.load 174 (.tmp 42),some 43),(.fieldAddr 44 (.tmp 8) 5,some 44),(.load 3 (.tmp 44),some 45),(.load 130 (.tmp 6),some 46),(.nilCheck (.tmp 46),some 47),(.fieldAddr 176 (.tmp 47) 2,some 48),(.load 174 (.tmp 48),some 49),(.fieldAddr 44 (.tmp 8) 5,some 50),(.load 3 (.tmp 50),some 51),(.lookup 174 (.tmp 49) (.tmp 51) false,some 52),(.load 44 (.tmp 8),some 53),(.buildSlice 24 1 #[(0,.tmp 53)],some 54),(.call { callee := .builtin .append,args := #[.tmp 52,.tmp 54],argTypes := #[24,24] },some 55),(.mapUpdate 174 (.tmp 43) (.tmp 45) (.tmp 55),none)] :=
 ⟨match sub (cd Tryz.f82) [1,1,1,1,0,1,0,1,0,1,1,0] with | .region _ ops _=>ops.toList | _=>[],by kernel_rfl,by kernel_rfl,by kernel_rfl,by kernel_rfl⟩
set_option maxHeartbeats 4000000 in
theorem ask9{F:Fence}{n:Nat}(hall:∀ f,F.fn f){a:Act}{W:World}{b6 bd b8 mb cl:Nat}{es:Array MapEntry}{L:List Ent}{x:List Int}(hx6:x.length=6){a6 ad:Array Value}{t6 td:TypeId}
  (hsz:a.tmps.size=57) (v6:a.tmps.getD 6 undef = .pointer (some ⟨b6,0,none⟩)) (v8:a.tmps.getD 8 undef = .pointer (some ⟨b8,0,none⟩))
  (h6:W.heap[b6]? = some (.cells a6 t6 (0,0))) (q6:0<a6.size∧a6.getD 0 undef = .pointer (some ⟨bd,0,none⟩)) (hd:W.heap[bd]? = some (.cells ad td (0,0))) (qd:4<ad.size∧ad.getD 4 undef = .map (some mb)) (h8:W.heap[b8]? = some (.cells (vsL x).toArray 44 (0,0)))
  (hM:mM mb es L) (hR:∀ p∈iU mb es cl L,W.heap[p.1]? = some p.2) (hl:∀ e∈L,e.l.length≤1000) (hne:∀ p∈iU mb es cl L,p.1≠b6∧p.1≠bd∧p.1≠b8) (hk:(Lit.int .i64 (dAb x)).wf=true) :
  (sub (cd Tryz.f82) [1,1,1,1,0,1,0,1,0,1,1,0]).wpIn F n Tp (fun e a' W'=>e = .normal∧∃ es' cl' e,bVt mb es cl L (dAb x) x W W' es' cl' e) a W:=by
 obtain ⟨l,hc,hB,hcalm,hops⟩:=bVu;rw [hc];obtain ⟨o0,l0,rfl,h0,hops⟩:=tD.1 hops;obtain ⟨o1,l1,rfl,h1,hops⟩:=tD.1 hops;obtain ⟨o2,l2,rfl,h2,hops⟩:=tD.1 hops;obtain ⟨o3,l3,rfl,h3,hops⟩:=tD.1 hops;obtain ⟨o4,l4,rfl,h4,hops⟩:=tD.1 hops;obtain ⟨o5,l5,rfl,h5,hops⟩:=tD.1 hops;obtain ⟨o6,l6,rfl,h6',hops⟩:=tD.1 hops;obtain ⟨o7,l7,rfl,h7,hops⟩:=tD.1 hops;obtain ⟨o8,l8,rfl,h8',hops⟩:=tD.1 hops;obtain ⟨o9,l9,rfl,h9,hops⟩:=tD.1 hops;obtain ⟨o10,l10,rfl,h10,hops⟩:=tD.1 hops;obtain ⟨o11,l11,rfl,h11,hops⟩:=tD.1 hops;obtain ⟨o12,l12,rfl,h12,hops⟩:=tD.1 hops;obtain ⟨o13,l13,rfl,h13,hops⟩:=tD.1 hops;obtain ⟨o14,l14,rfl,h14,hops⟩:=tD.1 hops;obtain ⟨o15,l15,rfl,h15,hops⟩:=tD.1 hops;obtain ⟨o16,l16,rfl,h16,hops⟩:=tD.1 hops;obtain rfl:=List.map_eq_nil_iff.1 hops;obtain ⟨q0,d0⟩:=Prod.mk.inj h0;obtain ⟨q1,d1⟩:=Prod.mk.inj h1;obtain ⟨q2,d2⟩:=Prod.mk.inj h2;obtain ⟨q3,d3⟩:=Prod.mk.inj h3;obtain ⟨q4,d4⟩:=Prod.mk.inj h4;obtain ⟨q5,d5⟩:=Prod.mk.inj h5;obtain ⟨q6',d6⟩:=Prod.mk.inj h6';obtain ⟨q7,d7⟩:=Prod.mk.inj h7;obtain ⟨q8,d8⟩:=Prod.mk.inj h8';obtain ⟨q9,d9⟩:=Prod.mk.inj h9;obtain ⟨q10,d10⟩:=Prod.mk.inj h10;obtain ⟨q11,d11⟩:=Prod.mk.inj h11;obtain ⟨q12,d12⟩:=Prod.mk.inj h12;obtain ⟨q13,d13⟩:=Prod.mk.inj h13;obtain ⟨q14,d14⟩:=Prod.mk.inj h14;obtain ⟨q15,d15⟩:=Prod.mk.inj h15;obtain ⟨q16,d16⟩:=Prod.mk.inj h16;clear h0 h1 h2 h3 h4 h5 h6' h7 h8' h9 h10 h11 h12 h13 h14 h15 h16;have V6:a.eval (.tmp 6) = .pointer (some ⟨b6,0,none⟩):=v6;have V8:a.eval (.tmp 8) = .pointer (some ⟨b8,0,none⟩):=v8;obtain ⟨i130,t130,a130,_⟩:=tiq tq130;obtain ⟨i174,t174,a174,s174⟩:=tiq tq174;obtain ⟨i3,t3,a3,s3⟩:=tiq tq3;obtain ⟨i44,t44,a44,s44⟩:=tiq tq44;have fd:∀ U:World,(Instr.fieldAt 176 (.pointer (some ⟨bd,0,none⟩)) 2).run Tp U = .ok (.pointer (some ⟨bd,4,none⟩)) U:=fun U =>
  (yJ (P:=Tp) (W:=U) Tryz.underlying176 (f:=2) rfl (by exact t174) (by rw [s174];decide) bd 0)
 have f8:∀ U:World,(Instr.fieldAt 44 (.pointer (some ⟨b8,0,none⟩)) 5).run Tp U = .ok (.pointer (some ⟨b8,5,none⟩)) U:=fun U =>
  (yJ (P:=Tp) (W:=U) Tryz.underlying44 (f:=5) rfl (by exact t3) (by rw [s3];decide) b8 0)
 obtain ⟨S,hSdef⟩:∃ S:World→Prop,S=fun U=>U.heap[b6]? = W.heap[b6]? ∧ U.heap[bd]? = W.heap[bd]? ∧ U.heap[b8]? = W.heap[b8]? ∧ U.heap[mb]? = W.heap[mb]? := ⟨_,rfl⟩
 have hmb:W.heap[mb]? = some (.map es cl):=hR (mb,.map es cl) (by simp [iU])
 have r6:∀ U,S U→(Instr.loadAt 130 (.pointer (some ⟨b6,0,none⟩))).run Tp U = .ok (.pointer (some ⟨bd,0,none⟩)) U:=fun U hU=>by
  rw [hSdef] at hU
  refine aAd t130 a130 ?_;rw [eT hU.1,cB h6 q6.1];have:=q6.2;simp only [kQ2,rE q6.1,Option.getD_some] at this ⊢
  rw [this]
 have rd:∀ U,S U→(Instr.loadAt 174 (.pointer (some ⟨bd,4,none⟩))).run Tp U = .ok (.map (some mb)) U:=fun U hU=>by
  rw [hSdef] at hU
  refine aAd t174 a174 ?_;rw [eT hU.2.1,cB hd qd.1];have:=qd.2;simp only [kQ2,rE qd.1,Option.getD_some] at this ⊢
  rw [this]
 have x5:(vsL x)[5]? = some (.int .i64 (dAb x)):=by
  unfold vsL;rw [kQ9,kQ0 (by omega)]
  simp [dAb,kQ4,kQ0 (show 5<x.length by omega)]
 have r5:∀ U,S U→(Instr.loadAt 3 (.pointer (some ⟨b8,5,none⟩))).run Tp U = .ok (.int .i64 (dAb x)) U:=fun U hU=>by
  rw [hSdef] at hU
  refine aAd t3 a3 ?_;have hs5:5<(vsL x).length:=by simp [vsL,hx6]
  rw [eT hU.2.2.1,cB h8 (j:=5) (by simpa using hs5)]
  simp only [kQ0 hs5,Option.some.injEq] at x5
  simp [kQ2,kQ0 hs5,x5]
 have r8:∀ U,S U→(Instr.loadAt 44 (.pointer (some ⟨b8,0,none⟩))).run Tp U = .ok (.agg (vsL x).toArray) U:=fun U hU=>by
  rw [hSdef] at hU
  exact bJa t44 a44 (by simp [vsL,hx6,s44]) (hU.2.2.1.trans h8)
 have rz:∀ U:World,(zeroValue 24).run Tp U = .ok (.slice none 0 0) U:=fun U=>rfl
 have rl:∀ U,S U→(Instr.lookup 174 (.map (some mb)) (.int .i64 (dAb x)) false).run Tp U = .ok (sF L (dAb x)) U:=fun U hU=>by
  rw [hSdef] at hU
  exact bQe Tryz.underlying174 Tryz.underlying3 (rz U) (hU.2.2.2.trans hmb) hM hk
 obtain ⟨W1,hW1⟩:∃ W1:World,W1={ W with drawn:=W.drawn+1 }:=⟨_,rfl⟩
 have hh1:W1.heap=W.heap:=by rw [hW1]
 have hs:Sim Tp ((⟨fun _=>none,fun _=>0,fun _=>False,[]⟩:Cx).with (iU mb es cl L++[])) [] { W1 with heap := #[] } ⟨List.replicate 57 .any,[]⟩ { tmps:=a.tmps,defers:=[] } W1:=by
  refine ⟨⟨fun _=>none,fun _=>0,fun _=>False,[]⟩,⟨by simpa using hsz,fun j hj=>by rw [List.getElem_replicate];exact .any _⟩,⟨fun _ _ _ _ h=>by simp at h,fun _ _ _ h=>by simp at h,fun _ _ _ h=>by simp at h,fun _ _ _ _ _ h=>by simp at h,fun _ _ _ h=>by simp at h,fun _ h=>h.elim,fun _ _ _ h=>by simp at h⟩,
   ⟨rfl,rfl,rfl,Nat.zero_le _,fun b hb=>by simp at hb,fun _ _ h=>by simp at h,fun _ _ h=>by simp at h,fun _ _ h=>by simp at h,fun _ _ _ h=>by simp at h,fun _ h=>h,fun _ h=>h.elim⟩,?_⟩
  refine ⟨⟨[],rfl,.nil,fun D h=>by cases h⟩,fun p hp => ?_,.no (fun _ _ h=>by simp at h)⟩
  have hp':p∈iU mb es cl L:=by have h2:p∈iU mb es cl L++[]:=hp;rwa [List.append_nil] at h2
  refine ⟨by rw [hh1];exact hR p hp',Nat.zero_le _,?_,fun h=>h,fun _ _ h=>by simp at h⟩
  rcases dD.1 hp' with rfl | ⟨y,_,rfl⟩ <;> (intro h;cases h)
 obtain ⟨v2,w2,es',cl',e,hrun,hkeep,hmb2,⟨hsize,hborn,hold⟩,hup,hM',hek,hel,_,hsim⟩:=bWd (P:=Tp) (C0:=⟨fun _=>none,fun _=>0,fun _=>False,[]⟩) (kt:=3) (S22:=24) (ty:=o15.type) (k:=dAb x) (x:=x) hx6 Tryz.underlying174 Tryz.underlying3 Tryz.underlying24 info44z hs (fun p _ q hq=>by cases hq) hM hk hl
 have hw2:S w2:=by
  rw [hSdef];have hlt:∀ b o,W.heap[b]? = some o→b<W1.heap.size:=fun b o h=>by rw [hh1];exact cG h
  refine ⟨(hkeep b6 (hlt _ _ h6) fun q hq=>(hne q hq).1).trans (by rw [hh1]),(hkeep bd (hlt _ _ hd) fun q hq=>(hne q hq).2.1).trans (by rw [hh1]),(hkeep b8 (hlt _ _ h8) fun q hq=>(hne q hq).2.2).trans (by rw [hh1]),hmb2.trans (by rw [hh1])⟩
 have hS1:S { W with drawn:=W.drawn+1 }:=by rw [hSdef];exact ⟨rfl,rfl,rfl,rfl⟩
 refine bJc (P:=Tp) (o1:=o14) (o2:=o15) (o3:=o16) (S:=S) hall (fun ⟨_,_,h,_⟩=>by cases h) hcalm [0,1,2,3,4,5,6,7,8,9,10,11,12,13] 14 15 16 mixed hB rfl rfl rfl (fun c a w h=>by cases h.1) hS1
  [.pointer (some ⟨bd,0,none⟩),.pointer (some ⟨bd,0,none⟩),.pointer (some ⟨bd,4,none⟩),.map (some mb),.pointer (some ⟨b8,5,none⟩),.int .i64 (dAb x),.pointer (some ⟨bd,0,none⟩),.pointer (some ⟨bd,0,none⟩),.pointer (some ⟨bd,4,none⟩),.map (some mb),.pointer (some ⟨b8,5,none⟩),.int .i64 (dAb x),sF L (dAb x),.agg (vsL x).toArray] rfl ?_ ?_
 ·refine ⟨fun U hU=>rQ q0 V6 (r6 U hU),fun U hU=>bQd q1 (by simp [bU,bN,dO,hsz,V6,V8,d0,d1,d2,d3,d4,d5,d6,d7,d8,d9,d10,d11,d12]),fun U hU=>yI q2 (by simp [bU,bN,dO,hsz,V6,V8,d0,d1,d2,d3,d4,d5,d6,d7,d8,d9,d10,d11,d12]) (fd U),
   fun U hU=>rQ q3 (by simp [bU,bN,dO,hsz,V6,V8,d0,d1,d2,d3,d4,d5,d6,d7,d8,d9,d10,d11,d12]) (rd U hU),fun U hU=>yI q4 (by simp [bU,bN,dO,hsz,V6,V8,d0,d1,d2,d3,d4,d5,d6,d7,d8,d9,d10,d11,d12]) (f8 U),fun U hU=>rQ q5 (by simp [bU,bN,dO,hsz,V6,V8,d0,d1,d2,d3,d4,d5,d6,d7,d8,d9,d10,d11,d12]) (r5 U hU),
   fun U hU=>rQ q6' (by simp [bU,bN,dO,hsz,V6,V8,d0,d1,d2,d3,d4,d5,d6,d7,d8,d9,d10,d11,d12]) (r6 U hU),fun U hU=>bQd q7 (by simp [bU,bN,dO,hsz,V6,V8,d0,d1,d2,d3,d4,d5,d6,d7,d8,d9,d10,d11,d12]),fun U hU=>yI q8 (by simp [bU,bN,dO,hsz,V6,V8,d0,d1,d2,d3,d4,d5,d6,d7,d8,d9,d10,d11,d12]) (fd U),
   fun U hU=>rQ q9 (by simp [bU,bN,dO,hsz,V6,V8,d0,d1,d2,d3,d4,d5,d6,d7,d8,d9,d10,d11,d12]) (rd U hU),fun U hU=>yI q10 (by simp [bU,bN,dO,hsz,V6,V8,d0,d1,d2,d3,d4,d5,d6,d7,d8,d9,d10,d11,d12]) (f8 U),fun U hU=>rQ q11 (by simp [bU,bN,dO,hsz,V6,V8,d0,d1,d2,d3,d4,d5,d6,d7,d8,d9,d10,d11,d12]) (r5 U hU),
   fun U hU=>bJe q12 (by simp [bU,bN,dO,hsz,V6,V8,d0,d1,d2,d3,d4,d5,d6,d7,d8,d9,d10,d11,d12]) (by simp [bU,bN,dO,hsz,V6,V8,d0,d1,d2,d3,d4,d5,d6,d7,d8,d9,d10,d11,d12]) (rl U hU),
   fun U hU=>rQ q13 (by simp [bU,bN,dO,hsz,V6,V8,d0,d1,d2,d3,d4,d5,d6,d7,d8,d9,d10,d11,d12]) (r8 U hU),trivial⟩
 ·intro a' ha'
  have e43:a'.eval (.tmp 43) = .map (some mb):=by rw [ha'];simp [aBq,bU,bN,dO,hsz,V6,V8,d0,d1,d2,d3,d4,d5,d6,d7,d8,d9,d10,d11,d12,d13]
  have e45:a'.eval (.tmp 45) = .int .i64 (dAb x):=by rw [ha'];simp [aBq,bU,bN,dO,hsz,V6,V8,d0,d1,d2,d3,d4,d5,d6,d7,d8,d9,d10,d11,d12,d13]
  have e52:a'.eval (.tmp 52)=sF L (dAb x):=by rw [ha'];simp [aBq,bU,bN,dO,hsz,V6,V8,d0,d1,d2,d3,d4,d5,d6,d7,d8,d9,d10,d11,d12,d13]
  have e53:a'.eval (.tmp 53) = .agg (vsL x).toArray:=by rw [ha'];simp [aBq,bU,bN,dO,hsz,V6,V8,d0,d1,d2,d3,d4,d5,d6,d7,d8,d9,d10,d11,d12,d13]
  have hsz':a'.tmps.size=57:=by rw [ha'];simp [aBq,dO,hsz,d0,d1,d2,d3,d4,d5,d6,d7,d8,d9,d10,d11,d12,d13]
  obtain ⟨inf,hi,hz,hz1,hz2⟩:=info_parts info44z;have hvl:(vsL x).length=6:=by simp [vsL,hx6]
  have hbld:∀ U:World,(Instr.buildSlice 24 1 #[(0,.agg (vsL x).toArray)]).run Tp U = .ok (.slice (some ⟨U.heap.size,0,none⟩) 1 1) (U.alloc (.cells (vsL x).toArray 44)):=fun U =>
   aEi (P:=Tp) 24 44 inf 1 #[(0,.agg (vsL x).toArray)] (vsL x).toArray zD6 Tryz.underlying24 hi hz (by rw [hz1];decide) (by rw [hz1];exact fill6 hx6)
  have hW1':({ W with drawn:=W.drawn+1 }:World)=W1:=hW1.symm
  rw [hW1'] at hS1 ⊢
  refine ⟨_,_,v2,w2,setBlock w2 mb (.map es' cl'),bJf q14 e53 (hbld _),?_,bJg q15 (by rw [d14,bU rfl];exact e52) (by rw [d14,bN (by omega)]) hrun,hw2,bJh q16 (by rw [d14,d15,bU rfl,bU rfl];exact e43) (by rw [d14,d15,bU rfl,bU rfl];exact e45) (by rw [d14,d15,bN (by rw [dO];omega)]) hup,?_⟩
  ·obtain ⟨n1,n2,n3⟩:=jW W1 (.cells (vsL x).toArray 44)
   rw [hSdef] at hS1 ⊢
   have hlt:∀ b o,W.heap[b]? = some o→b<W1.heap.size:=fun b o h=>by rw [hh1];exact cG h
   exact ⟨(n3 b6 (hlt _ _ h6)).trans hS1.1,(n3 bd (hlt _ _ hd)).trans hS1.2.1,(n3 b8 (hlt _ _ h8)).trans hS1.2.2.1,(n3 mb (hlt _ _ hmb)).trans hS1.2.2.2⟩
  ·refine ⟨rfl,es',cl',e,⟨hM',hek,hel,hborn,fun p hp => ?_,?_,?_,?_,?_,fun b hb hno => ?_⟩⟩
   ·refine ⟨hsim.has p (oT _ hp),?_⟩
    rcases hold p hp with h | h
    ·exact .inl h
    ·right;rw [hh1] at h;exact h
   ·unfold setBlock;simp only [Array.size_setIfInBounds];rw [hh1] at hsize;exact hsize
   ·obtain ⟨C,_,_,hF,_⟩:=hsim
    exact hF.os.trans (by rw [hW1])
   ·obtain ⟨C,_,_,hF,_⟩:=hsim
    exact hF.tape.trans (by rw [hW1])
   ·obtain ⟨C,_,_,hF,_⟩:=hsim
    exact hF.out.trans (by rw [hW1])
   ·have hbm:b≠mb:=fun h=>hno (mb,.map es cl) (by simp [iU]) h.symm
    have:(setBlock w2 mb (.map es' cl')).heap[b]? = w2.heap[b]? := by
     unfold setBlock;simp only [Array.getElem?_setIfInBounds];rw [if_neg (Ne.symm hbm)]
    rw [this,hkeep b (by rw [hh1];exact hb) hno,hh1]
end KV
end Go.Proofs
end
section
namespace Go.Proofs
open Go.RowKit
namespace KV
open Go.ChangeMaps (setBlock)

mutual
def ffP:PV→Bool
 | .v _=>true
 | .agg cs=>bIz cs
 | _=>false
def bIz:List PV→Bool
 | []=>true
 | x::r=>ffP x && bIz r
end
theorem bAj:∀ {l:List PV},bIz l=true→∀ (i:Nat) (h:i<l.length),ffP l[i]=true
 | [],_,i,h=>by simp at h
 | x::r,hl,i,h=>by
  rw [bIz,kQ6] at hl
  cases i with
  | zero=>exact hl.1
  | succ i=>exact bAj hl.2 i (by simpa using h)
theorem aQv{α:Type}(g:α→PV)(h:∀ x,ffP (g x)=true):∀ l:List α,bIz (l.map g)=true
 | []=>rfl
 | x::r=>by rw [gH,bIz,h,aQv g h r];rfl
theorem cT.anyF{F F':Nat→Prop}{w w':World}{x:PV}{u:Value}(h:cT F w x u)(hm:ffP x=true):cT F' w' x u:=by
 induction h with
 | v x=>exact .v x
 | agg cs vs h0 h1 _ ih =>
  rw [ffP] at hm
  exact .agg cs vs h0 h1 fun i hi=>ih i hi (bAj hm i hi)
 | sl=>simp [ffP] at hm
 | mp=>simp [ffP] at hm
 | rp=>simp [ffP] at hm

def vI(x:List Int):PV := .agg (x.map aA)
def lK(es:List (Value × PV))(x:List Int):List (Value × PV):=if dR es (.int .i64 (dN x)) then qR es (.int .i64 (dN x)) (vI x) else es++[(.int .i64 (dN x),vI x)]
def atF(q:Lqq):List (Value × PV):=q.foldl lK []
theorem aQw(q:Lqq)(x:List Int):atF (q++[x])=lK (atF q) x:=by unfold atF;rw [aEs];rfl
structure aAb (es:List (Value × PV)):Prop where
 ky:∀ e∈es,aOy .i64 e.1=true
 nd:(es.map fun e=>jI e.1).Nodup
 nm:∀ e∈es,ffP e.2=true
theorem aFr{kv:Value}{x:PV}:∀ (es:List (Value × PV)),((qR es kv x).map fun e=>jI e.1)=es.map fun e=>jI e.1
 | []=>rfl
 | e::r=>by
  unfold qR
  split
  ·rename_i h
   rw [gH,gH,h]
  ·rw [gH,gH,aFr r]
theorem aFs{kv:Value}{x:PV}{e:Value × PV}:∀ {es:List (Value × PV)},e∈qR es kv x→e∈es∨e=(kv,x)
 | [],h=>by unfold qR at h;cases h
 | a::r,h=>by
  unfold qR at h
  split at h
  ·rcases fD.1 h with h | h
   ·exact .inr h
   ·exact .inl (kQ7 _ h)
  ·rcases fD.1 h with h | h
   ·exact .inl (h ▸ jJ ..)
   ·rcases aFs h with h | h
    ·exact .inl (kQ7 _ h)
    ·exact .inr h
theorem bAk(x:List Int):ffP (vI x)=true:=by unfold vI;rw [ffP];exact aQv _ (fun _=>rfl) _
theorem aAb.step{es:List (Value × PV)}(h:aAb es){x:List Int}(hx : -1000000≤dN x∧dN x≤1000000):aAb (lK es x):=by
 unfold lK;cases hb:dR es (.int .i64 (dN x)) with
 | true =>
  rw [if_pos rfl];refine ⟨fun e he => ?_,by rw [aFr];exact h.nd,fun e he => ?_⟩
  ·rcases aFs he with h1 | rfl
   ·exact h.ky e h1
   ·exact pD hx
  ·rcases aFs he with h1 | rfl
   ·exact h.nm e h1
   ·exact bAk x
 | false =>
  rw [if_neg (by simp)]
  refine ⟨fun e he => ?_,?_,fun e he => ?_⟩
  ·rcases jK.1 he with h1 | h1
   ·exact h.ky e h1
   ·rw [List.mem_singleton.1 h1];exact pD hx
  ·rw [iN,List.nodup_append]
   refine ⟨h.nd,by simp,fun a ha b hb' hab => ?_⟩
   simp at hb'
   subst hb';obtain ⟨e,he,rfl⟩:=dJ.1 ha;have:=(List.any_eq_false.1 (show es.any _=false from hb)) e he
   exact this (decide_eq_true hab)
  ·rcases jK.1 he with h1 | h1
   ·exact h.nm e h1
   ·rw [List.mem_singleton.1 h1];exact bAk x
theorem bQa{q:Lqq}(hq:∀ x∈q,-1000000≤dN x∧dN x≤1000000):aAb (atF q):=by
 have key:∀ (q:Lqq) (es:List (Value × PV)),(∀ x∈q,-1000000≤dN x∧dN x≤1000000)→aAb es→aAb (q.foldl lK es):=by
  intro q
  induction q with
  | nil=>intro es _ h;exact h
  | cons x q ih=>intro es hq h;exact ih _ (fun y hy=>hq y (kQ7 _ hy)) (h.step (hq x (jJ ..)))
 exact key q [] hq ⟨fun e h=>(by cases h),by simp,fun e h=>(by cases h)⟩
theorem aAb.keys{es:List (Value × PV)}(h:aAb es){k:Int}(hk : -1000000≤k∧k≤1000000):cN .i64 es (.int .i64 k):=⟨h.ky,pD hk,h.nd⟩
theorem bQb{kv:Value}{x:PV}(es:List (Value × PV)):(qR es kv x).length=es.length:=by
 have:=congrArg List.length (aFr (kv:=kv) (x:=x) es);simpa using this

abbrev dkB(dl:Int)(s1 s2:PV)(a b:AV):AO := .box 176 [.p (aA dl),.p s1,.p s2,a,b]
abbrev mL(dl:Int)(sk dc:Lqq):Mem:=[some (.box 130 [.ptr 1 0]),some (dkB dl (.sl sk.length (sk.flatten.map aA)) (.sl dc.length (dc.flatten.map aA)) (.mp 2) (.mp 3)),some (.mp [] 0),some (.mp [] 0)]
abbrev aAc(dl:Int)(v1 v2:Value)(mb:Nat)(es:List (Value × PV)):Mem:=[some (.box 130 [.ptr 1 0]),some (dkB dl (.v v1) (.v v2) (.mp 2) (.p (.v (.map (some mb))))),some (.mp es es.length),some .dead]
abbrev iJ(dl:Int)(v1 v2:Value)(mb:Nat)(es:List (Value × PV))(x:List Int):Mem:=[some (.box 130 [.ptr 1 0]),some (dkB dl (.v v1) (.v v2) (.mp 2) (.p (.v (.map (some mb))))),some (.mp es es.length),some .dead,some (.box 44 ((x.map aA).map .p))]
theorem at4{α:Type}{a b c d x:α}{i:Nat}(h:[a,b,c,d][i]? = some x):(i=0∧x=a)∨(i=1∧x=b)∨(i=2∧x=c)∨(i=3∧x=d):=by
 match i with
 | 0=>simp at h;exact .inl ⟨rfl,h.symm⟩
 | 1=>simp at h;exact .inr (.inl ⟨rfl,h.symm⟩)
 | 2=>simp at h;exact .inr (.inr (.inl ⟨rfl,h.symm⟩))
 | 3=>simp at h;exact .inr (.inr (.inr ⟨rfl,h.symm⟩))
 | i+4=>simp at h
theorem at5'{α:Type}{a b c d e x:α}{i:Nat}(h:[a,b,c,d,e][i]? = some x):(i=0∧x=a)∨(i=1∧x=b)∨(i=2∧x=c)∨(i=3∧x=d)∨(i=4∧x=e):=by
 match i with
 | 0=>simp at h;exact .inl ⟨rfl,h.symm⟩
 | 1=>simp at h;exact .inr (.inl ⟨rfl,h.symm⟩)
 | 2=>simp at h;exact .inr (.inr (.inl ⟨rfl,h.symm⟩))
 | 3=>simp at h;exact .inr (.inr (.inr (.inl ⟨rfl,h.symm⟩)))
 | 4=>simp at h;exact .inr (.inr (.inr (.inr ⟨rfl,h.symm⟩)))
 | i+5=>simp at h
section
variable {dl:Int} {sk dc:Lqq} {v1 v2:Value} {mb:Nat} {es:List (Value × PV)} {x:List Int} {C C' C3:Cx} {w W W3 W4:World}

theorem vB{i:Nat}{o:AO}(h:(aAc dl v1 v2 mb es)[i]? = some (some o))(hl:o.live=true):i=0∨i=1∨i=2:=by
 rcases at4 h with ⟨rfl,_⟩ | ⟨rfl,_⟩ | ⟨rfl,_⟩ | ⟨rfl,e⟩
 ·exact .inl rfl
 ·exact .inr (.inl rfl)
 ·exact .inr (.inr rfl)
 ·cases e;cases hl
theorem fB(i:Nat)(h:i<4):∃ o,(mL dl sk dc)[i]? = some (some o)∧o.live=true:=by
 match i,h with
 | 0,_=>exact ⟨_,rfl,rfl⟩
 | 1,_=>exact ⟨_,rfl,rfl⟩
 | 2,_=>exact ⟨_,rfl,rfl⟩
 | 3,_=>exact ⟨_,rfl,rfl⟩
theorem bQc:aMk (mL dl sk dc) (aAc dl v1 v2 mb es):=⟨fun i es cl h=>(by
 rcases at4 h with ⟨rfl,e⟩ | ⟨rfl,e⟩ | ⟨rfl,e⟩ | ⟨rfl,e⟩
 ·cases e
 ·cases e
 ·exact ⟨_,rfl,rfl⟩
 ·cases e),fun i o h=>by
 rcases at4 h with ⟨rfl,e⟩ | ⟨rfl,e⟩ | ⟨rfl,e⟩ | ⟨rfl,e⟩ <;> cases e <;> rfl⟩

structure aQx (dl:Int) (sk dc:Lqq) (v1 v2:Value) (C:Cx) (w:World) (mb:Nat) (q:Lqq) (W:World) (C':Cx) (es:Array MapEntry) (cl:Nat) (L:List Ent):Prop where
 inv:aHk Tp C (mL dl sk dc) w C' (aAc dl v1 v2 mb (atF q)) W
 ok:mM mb es L
 ls:L.map (fun e=>(e.k,e.l))=q.foldl jR []
 born:∀ y∈es.toList,y.born<cl
 has:∀ p∈iU mb es cl L,W.heap[p.1]? = some p.2∧¬ C'.F p.1∧(p.1=mb∨w.heap.size≤p.1)

theorem aQx.own{q:Lqq}{W':World}{ea:Array MapEntry}{cl:Nat}{L:List Ent}{row:Option Nat}(hM0:aU Tp C (mL dl sk dc) w)(hmb:C.ι 3=some mb)(h:aQx dl sk dc v1 v2 C w mb q W C' ea cl L)(hg:W.grownBy W' row)
  (hr:∀ r,row=some r→w.heap.size≤r∧∃ o:Obj,W.heap[r]? = some o∧o.isCells=false):aQx dl sk dc v1 v2 C w mb q W' C' ea cl L:=by
 refine ⟨aHk.own bQc hM0 h.inv hg hr,h.ok,h.ls,h.born,fun p hp => ?_⟩
 obtain ⟨h1,h2,h3⟩:=h.has p hp;refine ⟨(hg.block p.1 (cG h1) fun e => ?_).trans h1,h2,h3⟩
 obtain ⟨q1,o,q2,q3⟩:=hr _ e.symm
 rcases dD.1 hp with rfl | ⟨y,_,rfl⟩
 ·have:=hM0.lt 3 _ mb rfl rfl hmb
  dsimp only at q1
  omega
 ·rw [q2] at h1
  cases h1;cases q3

theorem bAl{b:Nat}{X:Nat→Prop}{es':List (Value × PV)}(hM0:aU Tp C (mL dl sk dc) w)(hmb:C.ι 3=some mb)(hI:aHk Tp C (mL dl sk dc) w C' (aAc dl v1 v2 mb es) W)(hb:w.heap.size≤b)(hbs:mK W b)(hes:aAb es')
  (hM3:aU Tp C3 (iJ dl v1 v2 mb es' x) W3) (f:Fr ((C'.grow 4 b 1).with []) (iJ dl v1 v2 mb es x) W C3 (iJ dl v1 v2 mb es' x) W3)
  (hsz:W3.heap.size≤W4.heap.size) (ho:W4.os=W3.os) (ht:W4.tape=W3.tape) (hu:W4.output=W3.output)
  (hX:∀ c,X c→¬ C.F c∧(c=mb∨w.heap.size≤c)∧c<W.heap.size∧c≠b∧(mK W c∨c<w.heap.size)) (hk:∀ c,c<W3.heap.size→¬ X c→W4.heap[c]? = W3.heap[c]?) :
  ∃ C4,aHk Tp C (mL dl sk dc) w C4 (aAc dl v1 v2 mb es') W4∧KeepsFrom w.heap.size W W4∧KpG C.F W W4:=by
 obtain ⟨hFI,hM,fI⟩:=hI;have gι:∀ i,i<4→(C'.grow 4 b 1).ι i=C'.ι i:=fun i hi=>by
  have:i≠4:=by omega
  simp [Cx.grow,this]
 have ιC:∀ i,i<4→C'.ι i=C.ι i:=fun i hi=>by
  obtain ⟨o,h1,_⟩:=fB (dl:=dl) (sk:=sk) (dc:=dc) i hi;exact (fI.ids i o h1).2.1
 have κC:∀ i,i<4→C'.κ i=C.κ i:=fun i hi=>by
  obtain ⟨o,h1,_⟩:=fB (dl:=dl) (sk:=sk) (dc:=dc) i hi;exact (fI.ids i o h1).2.2
 have ι3:∀ i,i<5→C3.ι i=(C'.grow 4 b 1).ι i∧C3.κ i=(C'.grow 4 b 1).κ i:=fun i hi=>by
  have:∃ o,(iJ dl v1 v2 mb es x)[i]? = some (some o):=by
   match i,hi with
   | 0,_=>exact ⟨_,rfl⟩
   | 1,_=>exact ⟨_,rfl⟩
   | 2,_=>exact ⟨_,rfl⟩
   | 3,_=>exact ⟨_,rfl⟩
   | 4,_=>exact ⟨_,rfl⟩
  obtain ⟨o,h⟩:=this;exact ⟨(f.ids i o h).2.1,(f.ids i o h).2.2⟩
 have ι4:(C'.grow 4 b 1).ι 4=some b:=by simp [Cx.grow]
 have live5:∀ (i:Nat) (o:AO) (c:Nat) (es0:List (Value × PV)),(iJ dl v1 v2 mb es0 x)[i]? = some (some o)→o.live=true→(C'.grow 4 b 1).ι i=some c→(∃ i,i<3∧C.ι i=some c)∨c=b:=fun i o c es0 h hl he=>by
  rcases at5' h with ⟨rfl,_⟩ | ⟨rfl,_⟩ | ⟨rfl,_⟩ | ⟨rfl,e⟩ | ⟨rfl,_⟩
  ·rw [gι 0 (by omega),ιC 0 (by omega)] at he;exact .inl ⟨0,by omega,he⟩
  ·rw [gι 1 (by omega),ιC 1 (by omega)] at he;exact .inl ⟨1,by omega,he⟩
  ·rw [gι 2 (by omega),ιC 2 (by omega)] at he;exact .inl ⟨2,by omega,he⟩
  ·cases e;cases hl
  ·rw [ι4] at he;exact .inr (Option.some.inj he).symm
 have lt3:∀ i c,i<3→C.ι i=some c→c<w.heap.size∧c≠mb:=fun i c hi hc=>by
  obtain ⟨o,h1,h2⟩:=fB (dl:=dl) (sk:=sk) (dc:=dc) i (by omega)
  refine ⟨hM0.lt i o c h1 h2 hc,fun e => ?_⟩
  subst e;have:=hM0.inj i 3 o _ c h1 h2 rfl rfl hc hmb;omega
 have Xn3:∀ c,X c→∀ i,i<3→C.ι i≠some c:=fun c hc i hi he=>by
  obtain ⟨h1,h2⟩:=lt3 i c hi he
  rcases (hX c hc).2.1 with h3 | h3
  ·exact h2 h3
  ·omega
 have far:∀ c,c<W.heap.size→c≠b→(∀ i,i<3→C.ι i≠some c)→¬ X c→W4.heap[c]? = W.heap[c]? := fun c hc hcb hn hx=>by
  refine (hk c (fY hc f.size) hx).trans (f.keep c hc fun i o h hl he => ?_)
  rcases live5 i o c _ h hl he with ⟨j,hj,h2⟩ | h2
  ·exact hn j hj h2
  ·exact hcb h2
 have XF3:∀ c,X c→¬ C3.F c:=fun c hc hf=>by
  obtain ⟨h1,h2,h3,h4,_⟩:=hX c hc
  rcases f.F2 c hf with h | h | ⟨i,o,q1,q2,q3⟩
  ·exact h1 ((hFI c).1 h)
  ·omega
  ·rcases live5 i o c _ q1 q2 q3 with ⟨j,hj,h5⟩ | h5
   ·exact Xn3 c hc j hj h5
   ·exact h4 h5
 obtain ⟨hM4,_⟩:=aFu hM3 hsz (fun c hc=>hk c (hM3.Fs c hc) fun hx=>XF3 c hx hc) (fun i o c h hl hc=>hk c (hM3.lt i o c h hl hc) fun hx=>by
  have hi5:i<5:=(kQ3.1 h).1;rw [(ι3 i hi5).1] at hc
  rcases live5 i o c _ h hl hc with ⟨j,hj,h5⟩ | h5
  ·exact Xn3 c hx j hj h5
  ·exact (hX c hx).2.2.2.1 h5)
 have hM5:aU Tp C3 (aAc dl v1 v2 mb es') W4:=bVz hM4 (fun i o h=>by
   have hi:i<4:=(kQ3.1 h).1
   match i,hi with
   | 0,_=>exact h
   | 1,_=>exact h
   | 2,_=>exact h
   | 3,_=>exact h) (fun i ty cs h y hy u hu=>by
   rcases at4 h with ⟨rfl,e⟩ | ⟨rfl,e⟩ | ⟨rfl,e⟩ | ⟨rfl,e⟩
   ·cases e
    rw [List.mem_singleton.1 hy] at hu ⊢
    exact aQz (M:=iJ dl v1 v2 mb es' x) rfl hu
   ·cases e
    simp only [fD,List.not_mem_nil,or_false] at hy
    rcases hy with rfl | rfl | rfl | rfl | rfl
    ·exact vC hu
    ·exact vC hu
    ·exact vC hu
    ·exact aWh (M:=iJ dl v1 v2 mb es' x) rfl hu
    ·exact vC hu
   ·cases e
   ·cases e)
 have lt4:∀ i (c:Nat),i<4→C3.ι i=some c→C.ι i=some c:=fun i c hi hc=>by rw [(ι3 i (by omega)).1,gι i hi,ιC i hi] at hc;exact hc
 have hM6:aU Tp ⟨C3.ι,C3.κ,C.F,[]⟩ (aAc dl v1 v2 mb es') W4:=by
  refine ⟨fun i ty n cs h => ?_,fun i ty cs h => ?_,fun i es0 cl h => ?_,hM5.inj,fun i o c h hl hc => ?_,fun c hc=>fY (hM0.Fs c hc) (gU fI.size (gU f.size hsz)),hM5.lt⟩
  ·rcases at4 h with ⟨rfl,e⟩ | ⟨rfl,e⟩ | ⟨rfl,e⟩ | ⟨rfl,e⟩ <;> cases e
  ·obtain ⟨b',arr,q0,q1,q2,q3,q4⟩:=hM5.box _ _ _ h
   refine ⟨b',arr,q0,q1,q2,fun j hj => ?_,q4⟩
   have hq:=q3 j hj;have hp:∀ (y:PV) (u:Value),ffP y=true→Rep C3 (aAc dl v1 v2 mb es') W4 (.p y) u→Rep ⟨C3.ι,C3.κ,C.F,[]⟩ (aAc dl v1 v2 mb es') W4 (.p y) u:=fun y u hy hu=>by
    cases hu with
    | p _ _ h=>exact .p _ _ (h.anyF hy)
   rcases at4 h with ⟨rfl,e⟩ | ⟨rfl,e⟩ | ⟨rfl,e⟩ | ⟨rfl,e⟩
   ·cases e
    have:j=0:=by simp at hj;exact hj
    subst this;simp only [List.getElem_cons_zero] at hq ⊢
    cases hq with
    | ptr _ _ _ h0 ha h hp=>exact .ptr _ _ _ h0 ha h hp
   ·cases e
    match j,hj with
    | 0,_=>exact hp _ _ rfl hq
    | 1,_=>exact hp _ _ rfl hq
    | 2,_=>exact hp _ _ rfl hq
    | 3,_ =>
     simp only [List.getElem_cons_succ,List.getElem_cons_zero] at hq ⊢
     cases hq with
     | mp _ _ h0 ha h=>exact .mp _ _ h0 ha h
    | 4,_=>exact hp _ _ rfl hq
   ·cases e
   ·cases e
  ·obtain ⟨b',arr,q0,q1,q2,q3⟩:=hM5.mp _ _ _ h
   refine ⟨b',arr,q0,q1,q2,fun j hj => ?_⟩
   obtain ⟨en,r1,r2,r3,r4⟩:=q3 j hj;have hff:ffP es0[j].2=true:=by
    rcases at4 h with ⟨rfl,e⟩ | ⟨rfl,e⟩ | ⟨rfl,e⟩ | ⟨rfl,e⟩
    ·cases e
    ·cases e
    ·cases e;exact hes.nm _ (gD hj)
    ·cases e
   exact ⟨en,r1,r2,r3,r4.anyF hff⟩
  ·have hi:=vB h hl
   obtain ⟨o2,h1,h2⟩:=fB (dl:=dl) (sk:=sk) (dc:=dc) i (by omega)
   exact hM0.nF i o2 c h1 h2 (lt4 i c (by omega) hc)
 refine ⟨⟨C3.ι,C3.κ,C.F,[]⟩,⟨fun c=>Iff.rfl,hM6,⟨ho.trans (f.os.trans fI.os),ht.trans (f.tape.trans fI.tape),hu.trans (f.out.trans fI.out),gU fI.size (gU f.size hsz),fun c hc hno => ?_,fun i o h => ?_,fun i o h ty n cs hm => ?_,fun i o h o' hm hl => ?_,fun i o c hm hl hc => ?_,fun c hc=>hc,fun c hc => .inl hc⟩⟩,⟨gU f.size hsz,fun c o hc ho1 hnc => ?_⟩,⟨gU f.size hsz,fun c hc => ?_⟩⟩
 ·have hn3:∀ i,i<3→C.ι i≠some c:=fun i hi=>by
   obtain ⟨o,h1,h2⟩:=fB (dl:=dl) (sk:=sk) (dc:=dc) i (by omega)
   exact hno i o h1 h2
  have hcm:c≠mb:=fun e=>hno 3 _ rfl rfl (e ▸ hmb)
  refine (far c (fY hc fI.size) (by omega) hn3 fun hx => ?_).trans (fI.keep c hc hno)
  rcases (hX c hx).2.1 with h | h
  ·exact hcm h
  ·omega
 ·have hi:i<4:=(kQ3.1 h).1
  refine ⟨?_,by show C3.ι i=C.ι i;rw [(ι3 i (by omega)).1,gι i hi,ιC i hi],by
   show C3.κ i=C.κ i;rw [(ι3 i (by omega)).2,← κC i hi]
   have:i≠4:=by omega
   simp [Cx.grow,this]⟩
  match i,hi with
  | 0,_=>exact ⟨_,rfl⟩
  | 1,_=>exact ⟨_,rfl⟩
  | 2,_=>exact ⟨_,rfl⟩
  | 3,_=>exact ⟨_,rfl⟩
 ·rcases at4 hm with ⟨rfl,e⟩ | ⟨rfl,e⟩ | ⟨rfl,e⟩ | ⟨rfl,e⟩ <;> cases e
 ·have hi:i<4:=(kQ3.1 h).1
  obtain ⟨o2,h1,h2⟩:=fB (dl:=dl) (sk:=sk) (dc:=dc) i hi;rw [h] at h1;cases h1;exact h2
 ·have hi:=vB hm hl
  have hi4:i<4:=by omega
  obtain ⟨o2,h1,h2⟩:=fB (dl:=dl) (sk:=sk) (dc:=dc) i hi4;exact .inr ⟨i,o2,h1,h2,by rw [← ιC i hi4,← gι i hi4,← (ι3 i (by omega)).1];exact hc⟩
 ·refine (far c (cG ho1) (fun e => ?_) (fun i hi he => ?_) fun hx => ?_).trans ho1
  ·subst e
   obtain ⟨o2,e1,e2⟩:=hbs;rw [ho1] at e1;cases e1;rw [hnc] at e2;cases e2
  ·have:=(lt3 i c hi he).1
   omega
  ·rcases (hX c hx).2.2.2.2 with ⟨o2,h1,h2⟩ | h
   ·rw [ho1] at h1;cases h1;rw [hnc] at h2;cases h2
   ·omega
 ·refine far c (fY (hM0.Fs c hc) fI.size) (fun e => ?_) (fun i hi he => ?_) fun hx=>(hX c hx).1 hc
  ·have:=hM0.Fs c hc;omega
  ·obtain ⟨o,h1,h2⟩:=fB (dl:=dl) (sk:=sk) (dc:=dc) i (by omega)
   exact hM0.nF i o c h1 h2 he hc
end
end KV
end Go.Proofs
end
section
namespace Go.Proofs
open Go.RowKit
namespace KV
open Go.ChangeMaps (setBlock)

def vH(e:Ent):Int × Lqq:=(e.k,e.l)
theorem cFk(L:List Ent)(e:Ent):(qH L e).map vH=aHj (L.map vH) e.k e.l:=by
 by_cases h:∃ y∈L,y.k=e.k
 ·obtain ⟨y,hy,he⟩:=h
  rw [uE hy he];unfold aHj;rw [if_pos (List.any_eq_true.2 ⟨vH y,dJ.2 ⟨y,hy,rfl⟩,by simpa [vH] using he⟩),vF,vF]
  refine aCb fun z _ => ?_
  by_cases hk:z.k=e.k
  ·simp [vH,hk]
  ·simp [vH,hk]
 ·have h':∀ y∈L,y.k≠e.k:=fun y hy he=>h ⟨y,hy,he⟩
  rw [yM h'];unfold aHj;rw [if_neg (fun ha=>by
   obtain ⟨z,hz,he⟩:=List.any_eq_true.1 ha;obtain ⟨y,hy,rfl⟩:=dJ.1 hz;exact h' y hy (by simpa [vH] using he))]
  simp [vH]
theorem bVs(L:List Ent)(k:Int):qG L k=aBn (L.map vH) k:=by
 unfold qG uD aBn
 induction L with
 | nil=>rfl
 | cons y r ih =>
  rw [gH,List.find?_cons,List.find?_cons]
  by_cases hk:y.k=k
  ·simp [vH,hk]
  ·have h1:(y.k == k)=false:=by simpa using hk
   have h2:((vH y).1 == k)=false:=h1;rw [h1,h2];exact ih

structure bPy (x:List Int):Prop where
 len:x.length=6
 n:1≤dN x∧dN x≤9999
 ab:0≤dAb x∧dAb x≤9998
theorem cFl{q:Lqq}(hq:∀ y∈q,bPy y):∀ e∈q.foldl jR [],e.2.length≤q.length:=fun e he=>by
 have:=zV q [] [] ⟨by simp,fun e h=>(by cases h),fun x h=>(by cases h)⟩ (fun x hx=>(hq x hx).ab.1)
 rw [List.nil_append] at this
 rw [(this.mem e he).2.2];exact sG _ _

theorem ask78{dl:Int}{v1 v2:Value}{mb:Nat}{es:List (Value × PV)}{x:List Int}(hx:bPy x)(hes:aAb es):fG Tp 5 (sub (cd Tryz.f82) [1,1,1,1,0,1,0,1,0,0]) ⟨fr 57 [(6,(.ptr 0 0)),(8,(.ptr 4 0))],iJ dl v1 v2 mb es x⟩ .normal ⟨fr 57 [(6,(.ptr 0 0)),(8,(.ptr 4 0))],iJ dl v1 v2 mb (lK es x) x⟩:=by
 obtain ⟨a,b,c,d,e,f,rfl⟩:=len6 hx.len;have hk : -1000000≤dN [a,b,c,d,e,f]∧dN [a,b,c,d,e,f]≤1000000:=by have:=hx.n;omega
 have hK:=hes.keys hk;unfold lK;cases hb:dR es (.int .i64 (dN [a,b,c,d,e,f])) with
 | true =>
  rw [if_pos rfl];exact (bVv hK hb).cast (by unfold iJ;rw [bQb];rfl)
 | false =>
  rw [if_neg (by simp)]
  exact (bVw hK hb).cast (by unfold iJ;rw [gG];rfl)
theorem ask8'{dl:Int}{v1 v2:Value}{mb:Nat}{es:List (Value × PV)}{x:List Int}(hx:x.length=6):fG Tp 5 (sub (cd Tryz.f82) [1,1,1,1,0,1,0,1,0,1,0]) ⟨fr 57 [(6,(.ptr 0 0)),(8,(.ptr 4 0))],iJ dl v1 v2 mb es x⟩ .normal ⟨fr 57 [(6,(.ptr 0 0)),(8,(.ptr 4 0)),(39,(.p (blP (decide (dAb x > (0:Int))))))],iJ dl v1 v2 mb es x⟩:=by
 obtain ⟨a,b,c,d,e,f,rfl⟩:=len6 hx;exact bVx
theorem bIy:sub (cd Tryz.f82) [1,1,1,1,0,1,0,1] = .block 1 (.seq (sub (cd Tryz.f82) [1,1,1,1,0,1,0,1,0,0]) (.seq (sub (cd Tryz.f82) [1,1,1,1,0,1,0,1,0,1,0]) (.cond (.tmp 39) (sub (cd Tryz.f82) [1,1,1,1,0,1,0,1,0,1,1,0]) .skip))):=by kernel_rfl

section
variable {dl:Int} {sk dc:Lqq} {v1 v2:Value} {mb:Nat} {C C':Cx} {w W:World}
set_option maxHeartbeats 1000000 in
theorem bPz{l n b:Nat}{q:Lqq}{x:List Int}{ea:Array MapEntry}{cl:Nat}{L:List Ent}{a:Act}(hx:bPy x)(hq:∀ y∈q,bPy y)(hql:q.length≤1000)(hM0:aU Tp C (mL dl sk dc) w)(hmb:C.ι 3=some mb)(hI:aQx dl sk dc v1 v2 C w mb q W C' ea cl L)
  (hsz:a.tmps.size=57) (hdf:a.defers=[]) (h6:Rep C (mL dl sk dc) w (.ptr 0 0) (a.tmps.getD 6 undef)) (h8:a.tmps.getD 8 undef = .pointer (some ⟨b,0,none⟩)) (hbw:w.heap.size≤b) (hbx:W.heap[b]? = some (.cells (vsL x).toArray 44 (0,0)))
  (hbn:∀ es cl,W.heap[mb]? = some (.map es cl)→∀ y∈es.toList,y.val.ownBlock≠some b) :
  (sub (cd Tryz.f82) [1,1,1,1,0,1,0,1]).wpIn (Fen (some l)) n Tp (fun e _ W4=>e = .normal∧KeepsFrom w.heap.size W W4∧KpG C.F W W4∧∃ C4 ea' cl' L',aQx dl sk dc v1 v2 C w mb (q++[x]) W4 C4 ea' cl' L') a W:=by
 obtain ⟨inv,hok,hls,hborn,hhas⟩:=hI;obtain ⟨hFI,hM,fI⟩:=inv;have hAt:aAb (atF q):=bQa fun y hy=>by have:=(hq y hy).n;omega
 have hmbh:=(hhas (mb,.map ea cl) (by simp [iU])).1
 have hmblt:mb<w.heap.size:=hM0.lt 3 _ mb rfl rfl hmb;have ιC:∀ i,i<4→C'.ι i=C.ι i:=fun i hi=>by
  obtain ⟨o,h1,_⟩:=fB (dl:=dl) (sk:=sk) (dc:=dc) i hi;exact (fI.ids i o h1).2.1
 have lt3:∀ i c,i<3→C.ι i=some c→c<w.heap.size∧c≠mb:=fun i c hi hc=>by
  obtain ⟨o,h1,h2⟩:=fB (dl:=dl) (sk:=sk) (dc:=dc) i (by omega)
  refine ⟨hM0.lt i o c h1 h2 hc,fun e => ?_⟩
  subst e;have:=hM0.inj i 3 o _ c h1 h2 rfl rfl hc hmb;omega
 have hbF:¬ C'.F b:=fun h=>by have:=hM0.Fs b ((hFI b).1 h);omega
 obtain ⟨hM5,hL5⟩:=aRa (b:=b) (ty:=44) (k:=4) (cs:=x.map aA) (arr:=(vsL x).toArray) hM (fun o h=>by have:=(kQ3.1 h).1;simp at this) hbx hbF (fun i o h hl he=>by
   have hi:=vB h hl;rw [ιC i (by omega)] at he
   have:=(lt3 i b (by omega) he).1
   omega) (by simp [vsL]) (fun j hj=>by
   have hj':j<x.length:=by simpa using hj
   rw [nI];have:(vsL x).toArray.getD j undef = .int .i64 x[j]:=by simp [vsL,kQ2,hj']
   rw [this];exact .v _) (fun j hj=>by
   have hj':j<x.length:=by simpa using hj
   have:(vsL x).toArray.getD j undef = .int .i64 x[j]:=by simp [vsL,kQ2,hj']
   rw [this];rfl)
 have hset:bA (aAc dl v1 v2 mb (atF q)) 4 (some (.box 44 ((x.map aA).map .p)))=iJ dl v1 v2 mb (atF q) x:=rfl;rw [hset] at hM5 hL5
 have h6':Rep (C'.grow 4 b 1) (iJ dl v1 v2 mb (atF q) x) W (.ptr 0 0) (a.tmps.getD 6 undef):=(h6.mono (hM0.le fI)).mono hL5;have hSl:eN (C'.grow 4 b 1) (iJ dl v1 v2 mb (atF q) x) W (fr 57 [(6,(.ptr 0 0)),(8,(.ptr 4 0))]) a.tmps:=by
  have s0:eN (C'.grow 4 b 1) (iJ dl v1 v2 mb (atF q) x) W (List.replicate 57 .any) a.tmps:=⟨by simpa using hsz,fun j hj=>by rw [List.getElem_replicate];exact .any _⟩
  have set1:∀ (t:List AV) (i:Nat) (y:AV),eN (C'.grow 4 b 1) (iJ dl v1 v2 mb (atF q) x) W t a.tmps→Rep (C'.grow 4 b 1) (iJ dl v1 v2 mb (atF q) x) W y (a.tmps.getD i undef)→eN (C'.grow 4 b 1) (iJ dl v1 v2 mb (atF q) x) W (t.set i y) a.tmps:=fun t i y ht hy=>by
   refine ⟨by simpa using ht.size,fun j hj => ?_⟩
   rw [zH]
   split
   ·rename_i e;subst e;exact hy
   ·exact ht.rep j (by simpa using hj)
  have h8':Rep (C'.grow 4 b 1) (iJ dl v1 v2 mb (atF q) x) W (.ptr 4 0) (a.tmps.getD 8 undef):=by
   rw [h8];exact .ptr 4 0 _ rfl ⟨_,rfl⟩ (fun o ho hl=>⟨b,rfl,by simp [Cx.grow]⟩) ⟨b,rfl⟩
  exact set1 _ 8 _ (set1 _ 6 _ s0 h6') h8'
 have hs:Sim Tp ((C'.grow 4 b 1).with []) (iJ dl v1 v2 mb (atF q) x) W ⟨fr 57 [(6,(.ptr 0 0)),(8,(.ptr 4 0))],iJ dl v1 v2 mb (atF q) x⟩ a W :=
  ⟨C'.grow 4 b 1,hSl,hM5,(Fr.refl _ _ _).based [],by rw [hdf];exact .nil rfl (fun i o h=>by rcases at5' h with ⟨rfl,e⟩ | ⟨rfl,e⟩ | ⟨rfl,e⟩ | ⟨rfl,e⟩ | ⟨rfl,e⟩ <;> cases e <;> rfl)⟩
 rw [bIy];refine wpIn_block (wpIn_seq (wpIn_mono (ask78 (dl:=dl) (v1:=v1) (v2:=v2) (mb:=mb) hx hAt _ _ _ _ _ (by simp) hs (some l) n) ?_))
 rintro e a7 W7 ⟨rfl,hs7⟩;refine wpIn_seq (wpIn_mono (ask8' (dl:=dl) (v1:=v1) (v2:=v2) (mb:=mb) hx.len _ _ _ _ _ (by simp) hs7 (some l) n) ?_)
 rintro e a8 W3 ⟨rfl,hs8⟩;have v39:a8.eval (.tmp 39) = .bool (decide (dAb x > 0)):=hs8.slot rfl;have hsz8:a8.tmps.size=57:=hs8.size;obtain ⟨C3,hS3,hM3,f3,_⟩:=hs8;have hblkL:∀ p∈iU mb ea cl L,p.1≠b∧p.1<W.heap.size∧(∀ i,i<3→C.ι i≠some p.1):=fun p hp=>by
  obtain ⟨q1,q2,q3⟩:=hhas p hp;refine ⟨?_,cG q1,fun i hi he => ?_⟩
  ·rcases dD.1 hp with rfl | ⟨y,hy,rfl⟩
   ·intro e;simp only at e;omega
   ·intro e
    obtain ⟨z,hz,_,z2⟩:=hok.e2 y hy;exact hbn ea cl hmbh z hz (by rw [z2,← e];rfl)
  ·obtain ⟨h1,h2⟩:=lt3 i _ hi he
   rcases q3 with h | h
   ·exact h2 h
   ·omega
 have gι:∀ i,i<4→(C'.grow 4 b 1).ι i=C'.ι i:=fun i hi=>by
  have:i≠4:=by omega
  simp [Cx.grow,this]
 have hR3:∀ p∈iU mb ea cl L,W3.heap[p.1]? = some p.2:=fun p hp=>by
  obtain ⟨h1,h2,h3⟩:=hblkL p hp;refine (f3.keep p.1 h2 fun i o h hl he => ?_).trans (hhas p hp).1
  change (C'.grow 4 b 1).ι i=some p.1 at he
  rcases at5' h with ⟨rfl,_⟩ | ⟨rfl,_⟩ | ⟨rfl,_⟩ | ⟨rfl,e⟩ | ⟨rfl,_⟩
  ·rw [gι 0 (by omega),ιC 0 (by omega)] at he;exact h3 0 (by omega) he
  ·rw [gι 1 (by omega),ιC 1 (by omega)] at he;exact h3 1 (by omega) he
  ·rw [gι 2 (by omega),ιC 2 (by omega)] at he;exact h3 2 (by omega) he
  ·cases e;cases hl
  ·simp [Cx.grow] at he;exact h1 he.symm
 have hAt':aAb (lK (atF q) x):=hAt.step (by have:=hx.n;omega)
 have hSol:mK W b:=fU hbx;refine wpIn_cond_split v39 (fun ht => ?_) fun hf => ?_
 ·-- it is about another one
  have hpos:0<dAb x:=of_decide_eq_true ht;obtain ⟨b6,a6,r0,r1,r2,r3,_⟩:=hM3.box 0 _ _ rfl;have r3:=r3 0 (by simp)
  simp only [List.getElem_cons_zero] at r3
  have u6:∃ bd,a6.getD 0 undef = .pointer (some ⟨bd,0,none⟩)∧C3.ι 1=some bd:=by
   generalize a6.getD 0 undef=u at r3
   cases r3 with
   | ptr _ _ _ h0 ha h hp=>exact h _ rfl rfl
  obtain ⟨bd,ud,ιd⟩:=u6;obtain ⟨bd',ad,s0,s1,s2,s3,_⟩:=hM3.box 1 _ _ rfl;rw [ιd] at s0;cases s0
  have s3:=s3 4 (by simp)
  simp only [List.getElem_cons_succ,List.getElem_cons_zero] at s3
  have udm:ad.getD 4 undef = .map (some mb):=by
   generalize ad.getD 4 undef=u at s3
   cases s3 with
   | p _ _ h=>cases h;rfl
  obtain ⟨b8,a8',t0,t1,t2,t3,_⟩:=hM3.box 4 _ _ rfl;have ι4:C3.ι 4=some b:=by rw [(f3.ids 4 _ rfl).2.1];simp [Cx.with,Cx.grow]
  rw [ι4] at t0;cases t0
  have ha8:a8'=(vsL x).toArray:=by
   apply Array.ext
   ·rw [t2];simp [vsL]
   ·intro j h1 h2
    have hj:j<x.length:=by rw [t2] at h1;simpa using h1
    have:=t3 j (by simpa using hj)
    rw [nI,nI] at this
    have hu:a8'.getD j undef = .int .i64 x[j]:=by
     generalize a8'.getD j undef=u at this
     cases this with
     | p _ _ h=>cases h;rfl
    simp only [kQ2,rE h1,Option.getD_some] at hu
    rw [hu];simp [vsL]
  subst ha8;have w6:a8.tmps.getD 6 undef = .pointer (some ⟨b6,0,none⟩):=by
   have:=hS3.at (i:=6) (x := .ptr 0 0) rfl
   generalize a8.tmps.getD 6 undef=u at this
   cases this with
   | ptr _ _ _ h0 ha h hp =>
    obtain ⟨b',h1,h2⟩:=h _ rfl rfl;rw [r0] at h2;cases h2
    exact h1
  have w8:a8.tmps.getD 8 undef = .pointer (some ⟨b,0,none⟩):=by
   have:=hS3.at (i:=8) (x := .ptr 4 0) rfl
   generalize a8.tmps.getD 8 undef=u at this
   cases this with
   | ptr _ _ _ h0 ha h hp =>
    obtain ⟨b',h1,h2⟩:=h _ rfl rfl;rw [ι4] at h2;cases h2
    exact h1
  have hLl:∀ e∈L,e.l.length≤1000:=fun e he=>by
   have:vH e∈q.foldl jR []:=by rw [← hls];exact dJ.2 ⟨e,he,rfl⟩
   have:=cFl hq _ this;simp only [vH] at this
   omega
  have ι0:C.ι 0=some b6:=by
   have:=(f3.ids 0 _ rfl).2.1;rw [r0] at this
   rw [← ιC 0 (by omega),← gι 0 (by omega)]
   exact this.symm
  have ι1:C.ι 1=some bd:=by
   have:=(f3.ids 1 _ rfl).2.1;rw [ιd] at this
   rw [← ιC 1 (by omega),← gι 1 (by omega)]
   exact this.symm
  refine wpIn_mono (ask9 (F:=Fen (some l)) (n:=n) (fun _=>trivial) hx.len hsz8 w6 w8 r1 ⟨by rw [r2];simp,ud⟩ s1 ⟨by rw [s2];simp,udm⟩ t1 hok hR3 hLl (fun p hp => ?_) ?_) ?_
  ·obtain ⟨h1,_,h3⟩:=hblkL p hp
   exact ⟨fun e=>h3 0 (by omega) (e ▸ ι0),fun e=>h3 1 (by omega) (e ▸ ι1),h1⟩
  ·have:aOy .i64 (.int .i64 (dAb x))=true:=pD (by have:=hx.ab;omega)
   simp only [aOy,kQ6] at this
   exact this.2
  ·rintro e a9 W4 ⟨rfl,ea',cl',e,A⟩
   obtain ⟨C4,hI4,hK4,hG4⟩:=bAl (x:=x) (X:=fun c=>∃ p∈iU mb ea cl L,p.1=c) (es':=lK (atF q) x) hM0 hmb ⟨hFI,hM,fI⟩ hbw hSol hAt' hM3 f3 A.size A.os A.tape A.out (fun c hc=>by
    obtain ⟨p,hp,rfl⟩:=hc;obtain ⟨h1,h2,h3⟩:=hblkL p hp;obtain ⟨g1,g2,g3⟩:=hhas p hp;refine ⟨fun h=>g2 ((hFI _).2 h),g3,h2,h1,?_⟩
    rcases dD.1 hp with rfl | ⟨y,_,rfl⟩
    ·exact .inr hmblt
    ·exact .inl (fU g1)) (fun c hc hn=>A.keep c hc fun p hp e=>hn ⟨p,hp,e⟩)
   refine ⟨rfl,hK4,hG4,C4,ea',cl',qH L e,by rw [aQw];exact hI4,A.ok,?_,A.born hborn,fun p hp => ?_⟩
   ·show (qH L e).map vH=_
    rw [cFk,A.ky,A.li,bVs,aEs];change aHj (L.map vH) _ _=jR (q.foldl jR []) x;have:L.map vH=q.foldl jR []:=hls;rw [this];unfold jR;rw [if_pos hpos]
   ·obtain ⟨h1,h2⟩:=A.has p hp
    refine ⟨h1,fun h => ?_,?_⟩
    ·have hF:=(hI4.1 _).1 h
     rcases h2 with ⟨p0,hp0,h3⟩ | h3
     ·rw [← h3] at hF
      exact (hhas p0 hp0).2.1 ((hFI _).2 hF)
     ·have:=hM0.Fs _ hF
      have:=fI.size;have:=f3.size;omega
    ·rcases h2 with ⟨p0,hp0,h3⟩ | h3
     ·rw [← h3];exact (hhas p0 hp0).2.2
     ·right
      have:=fI.size;have:=f3.size;omega
 ·-- it is about none
  have hpos:¬ 0<dAb x:=of_decide_eq_false hf;obtain ⟨C4,hI4,hK4,hG4⟩:=bAl (x:=x) (X:=fun _=>False) (W4:=W3) (es':=lK (atF q) x) hM0 hmb ⟨hFI,hM,fI⟩ hbw hSol hAt' hM3 f3 (dX _) rfl rfl rfl (fun c hc=>hc.elim) (fun c _ _=>rfl)
  refine wpIn_skip ⟨rfl,hK4,hG4,C4,ea,cl,L,by rw [aQw];exact hI4,hok,?_,hborn,fun p hp=>⟨hR3 p hp,fun h=>(hhas p hp).2.1 ((hFI _).2 ((hI4.1 _).1 h)),(hhas p hp).2.2⟩⟩
  rw [aEs,hls];change _=jR (q.foldl jR []) x;unfold jR;rw [if_neg hpos]
end
end KV
end Go.Proofs
end
section
namespace Go.Proofs
open Go.RowKit
namespace KV
open Go.ChangeMaps (setBlock)

def abE(dc:Lqq):List (Value × PV):=(abM dc).map fun e=>(.int .i64 e.1,.sl e.2.length (e.2.flatten.map aA))
abbrev aBo(dl:Int)(sk dc:Lqq):Mem:=[some (.box 130 [.ptr 1 0]),some (dkB dl (.sl sk.length (sk.flatten.map aA)) (.sl dc.length (dc.flatten.map aA)) (.mp 2) (.p (.mp (abE dc)))),some (.mp (atF dc.reverse) (atF dc.reverse).length),some .dead]
theorem bAi : sub (cd Tryz.f82) [1, 1, 1, 1, 0, 1, 0] = .rangeFunc (.tmp 27) #[28, 29] (.region 6 #[{ dst := some 8, op := .alloc 44, type := 0, pos := "jury.go:198", after := #[], guard := none }, { dst := none, op := .store 44 (.tmp 8) (.tmp 29), type := 0, pos := "jury.go:198", after := #[{ on := 0, ground := .data }, { on := 0, ground := .phase }], guard := none }] false) (sub (cd Tryz.f82) [1, 1, 1, 1, 0, 1, 0, 1]) := by kernel_rfl
theorem aWf{dc:Lqq}(h:bD dc):∀ x∈dc,bPy x:=fun x hx=>⟨h.ud x hx,(iA.1 (h.rng x hx)).1,nB h x hx⟩
theorem aFq{dc:Lqq}(x:Bk dc):nS dc x.1∈dc:=by
 unfold nS;rw [kQ4,kQ0 x.2];exact gD x.2
theorem bPx{dc:Lqq}{xs:List (Bk dc)}(h:xs.map (fun x=>x.1)=bk dc.length 0):xs.map (fun x=>nS dc x.1)=dc.reverse:=by
 have:xs.map (fun x=>nS dc x.1)=(xs.map (fun x=>x.1)).map (nS dc):=by rw [vF];rfl
 rw [this,h,bWc,List.map_reverse]
 congr 1
 apply List.ext_getElem
 ·simp
 ·intro i h1 h2
  simp [nS,kQ4,kQ0 h2]

theorem aWg{F:Nat→Prop}{W:World}{mb cl:Nat}{ea:Array MapEntry}{L:List Ent}{dc:Lqq}(hok:mM mb ea L)(hls:L.map (fun e=>(e.k,e.l))=abM dc)(hborn:∀ y∈ea.toList,y.born<cl)
  (hhas:∀ p∈iU mb ea cl L,W.heap[p.1]? = some p.2∧F p.1):cT F W (.mp (abE dc)) (.map (some mb)):=by
 have hlen:ea.size=L.length:=by
  have:=congrArg List.length hok.ord;simpa using this
 have habE:abE dc=L.map fun e=>(.int .i64 e.k,.sl e.l.length (e.l.flatten.map aA)):=by
  unfold abE;rw [← hls,vF];rfl
 obtain ⟨h0,hF0⟩:=hhas (mb,.map ea cl) (by simp [iU])
 refine cT.mp (abE dc) mb cl ea (fun j=>(L.map Ent.val).getD j undef) hF0 h0 (by rw [habE];simpa using hlen) (fun j hj => ?_) (fun j hj => ?_)
 ·have hjL:j<L.length:=by rw [habE] at hj;simpa using hj
  have hje:j<ea.size:=by omega
  have ho:(ea.toList.map fun x=>(x.key,x.val))[j]? = (L.map fun e=>(Value.int .i64 e.k,e.val))[j]? := by rw [hok.ord]
  rw [kQ9,kQ9,kQ0 hjL,kQ0 (by simpa using hje)] at ho
  simp only [Option.map_some,Option.some.injEq,Prod.mk.injEq] at ho
  refine ⟨ea[j],rE hje,?_,hborn _ (by simp),?_⟩
  ·simp only [habE,nI]
   simpa using ho.1
  ·rw [kQ4,kQ9,kQ0 hjL]
   simpa using ho.2
 ·have hjL:j<L.length:=by rw [habE] at hj;simpa using hj
  have hm:L[j]∈L:=gD hjL;have e1:(abE dc)[j].2 = .sl L[j].l.length (L[j].l.flatten.map aA):=by simp only [habE,nI]
  have e2:(L.map Ent.val).getD j undef=L[j].val:=by rw [kQ4,kQ9,kQ0 hjL];rfl
  rw [e1,e2];generalize L[j]=e at hm
  have he:=hok.ok e hm;obtain ⟨g1,g2⟩:=hhas e.blk (dD.2 (.inr ⟨e,hm,rfl⟩));change W.heap[e.b]? = some (.cells e.arr 44 (0,0)) at g1
  have hfl:(e.l.flatten.map aA).length=e.l.length*6:=by rw [kQ8,oW he.u]
  have hcell:∀ i,i<(e.l.flatten.map aA).length→∃ z,e.l.flatten[i]? = some z∧e.arr[i]? = some (.int .i64 z):=fun i hi=>by
   have hi':i<e.l.flatten.length:=by rw [kQ8] at hi;exact hi
   refine ⟨e.l.flatten[i],kQ0 hi',?_⟩;have h1:(e.arr.toList.take (e.l.length*6))[i]? = (e.l.flatten.map (Value.int .i64))[i]? := by rw [he.at_]
   rw [bSw (by omega),kQ9,kQ0 hi'] at h1
   simpa using h1
  refine .sl _ _ _ _ (fun i=>e.arr.getD i undef) he.le he.cap (fun i hi => ?_) (fun i hi => ?_) (fun i hi => ?_)
  ·obtain ⟨z,_,h2⟩:=hcell i hi
   refine ⟨e.b,0,rfl,g2,?_⟩;obtain ⟨h3,h4⟩:=mR.1 h2;rw [gT,cB g1 h3]
  ·obtain ⟨z,h1,h2⟩:=hcell i hi
   have:e.arr.getD i undef = .int .i64 z:=by rw [kQ2,h2];rfl
   rw [this,nI];obtain ⟨h3,h4⟩:=kQ3.1 h1;rw [h4];exact .v _
  ·obtain ⟨z,h1,h2⟩:=hcell i hi
   have:e.arr.getD i undef = .int .i64 z:=by rw [kQ2,h2];rfl
   rw [this];rfl
end KV
end Go.Proofs
end
section
namespace Go.Proofs
open Go.RowKit
namespace KV
open Go.ChangeMaps (setBlock)
section
variable {dl:Int} {sk dc:Lqq} {v1 v2:Value} {mb:Nat} {C C':Cx} {w W:World}

theorem bIw{arr0:Array MapEntry}(hM:aU Tp C (mL dl sk dc) w)(hmb:C.ι 3=some mb)(hmh:w.heap[mb]? = some (.map #[] 0))
  {bd:Nat} {ad:Array Value} {td:TypeId} (i1:C.ι 1=some bd) (hd:w.heap[bd]? = some (.cells ad td (0,0))) (q1:ad.getD 1 undef=v1) (q2:ad.getD 2 undef=v2):aQx dl sk dc v1 v2 C w mb [] w C #[] 0 []:=by
 have hF0:∀ (i:Nat) (o:AO),(aAc dl v1 v2 mb [])[i]? = some (some o)→o.live=true→∃ o',(mL dl sk dc)[i]? = some (some o')∧o'.live=true:=fun i o h hl=>by
  have hi:=vB h hl;exact fB i (by omega)
 refine ⟨⟨fun _=>Iff.rfl,⟨fun i ty n cs h => ?_,fun i ty cs h => ?_,fun i es cl h => ?_,fun i i' o o' b h1 l1 h2 l2 e1 e2 => ?_,fun i o b h hl hb => ?_,hM.Fs,fun i o b h hl hb => ?_⟩,
  ⟨rfl,rfl,rfl,dX _,fun _ _ _=>rfl,fun i o h=>⟨?_,rfl,rfl⟩,fun i o h ty n cs hx => ?_,fun i o h o' hx hl => ?_,fun i o b h hl hb => ?_,fun _ h=>h,fun _ h => .inl h⟩⟩,mM.nil mb,rfl,fun y h=>by simp at h,fun p hp => ?_⟩
 ·rcases at4 h with ⟨rfl,e⟩ | ⟨rfl,e⟩ | ⟨rfl,e⟩ | ⟨rfl,e⟩ <;> cases e
 ·rcases at4 h with ⟨rfl,e⟩ | ⟨rfl,e⟩ | ⟨rfl,e⟩ | ⟨rfl,e⟩
  ·cases e
   obtain ⟨b,arr,r0,r1,r2,r3,r4⟩:=hM.box 0 _ _ rfl;refine ⟨b,arr,r0,r1,r2,fun j hj => ?_,r4⟩
   have:=r3 j hj;have hj0:j=0:=by simp at hj;exact hj
   subst hj0;simp only [List.getElem_cons_zero] at this ⊢
   cases this with
   | ptr _ _ _ h0 ha h hp =>
    refine .ptr _ _ _ h0 ⟨_,rfl⟩ (fun o ho hl => ?_) hp
    exact h _ rfl rfl
  ·cases e
   obtain ⟨b,arr,r0,r1,r2,r3,r4⟩:=hM.box 1 _ _ rfl;rw [i1] at r0;cases r0
   rw [hd] at r1;cases r1
   refine ⟨bd,ad,i1,hd,r2,fun j hj => ?_,r4⟩
   match j,hj with
   | 0,_ =>
    have:=r3 0 (by simp)
    cases this with
    | p _ _ h=>exact .p _ _ h
   | 1,_=>exact .p _ _ (by rw [q1];exact .v _)
   | 2,_=>exact .p _ _ (by rw [q2];exact .v _)
   | 3,_ =>
    have:=r3 3 (by simp)
    simp only [List.getElem_cons_succ,List.getElem_cons_zero] at this ⊢
    cases this with
    | mp _ _ h0 ha h =>
     refine .mp _ _ h0 ⟨_,rfl⟩ fun o ho hl => ?_
     exact h _ rfl rfl
   | 4,_ =>
    have:=r3 4 (by simp)
    simp only [List.getElem_cons_succ,List.getElem_cons_zero] at this ⊢
    generalize ad.getD 4 undef=u at this
    cases this with
    | mp _ _ h0 ha h =>
     obtain ⟨b,h1,h2⟩:=h _ rfl rfl;rw [hmb] at h2;cases h2
     rw [h1];exact .p _ _ (.v _)
  ·cases e
  ·cases e
 ·rcases at4 h with ⟨rfl,e⟩ | ⟨rfl,e⟩ | ⟨rfl,e⟩ | ⟨rfl,e⟩
  ·cases e
  ·cases e
  ·cases e;exact hM.mp 2 _ _ rfl
  ·cases e
 ·obtain ⟨p,q1,q2⟩:=hF0 _ _ h1 l1
  obtain ⟨p',q1',q2'⟩:=hF0 _ _ h2 l2;exact hM.inj i i' p p' b q1 q2 q1' q2' e1 e2
 ·obtain ⟨p,q1,q2⟩:=hF0 _ _ h hl
  exact hM.nF i p b q1 q2 hb
 ·obtain ⟨p,q1,q2⟩:=hF0 _ _ h hl
  exact hM.lt i p b q1 q2 hb
 ·have hi:i<4:=(kQ3.1 h).1
  match i,hi with
  | 0,_=>exact ⟨_,rfl⟩
  | 1,_=>exact ⟨_,rfl⟩
  | 2,_=>exact ⟨_,rfl⟩
  | 3,_=>exact ⟨_,rfl⟩
 ·rcases at4 hx with ⟨rfl,e⟩ | ⟨rfl,e⟩ | ⟨rfl,e⟩ | ⟨rfl,e⟩ <;> cases e
 ·have hi:i<4:=(kQ3.1 h).1
  obtain ⟨p,q1,q2⟩:=fB (dl:=dl) (sk:=sk) (dc:=dc) i hi;rw [h] at q1;cases q1;exact q2
 ·obtain ⟨p,q1,q2⟩:=hF0 _ _ h hl
  exact .inr ⟨i,p,q1,q2,hb⟩
 ·have:p=(mb,.map #[] 0):=by simpa [iU] using hp
  subst this;exact ⟨hmh,fun h=>hM.nF 3 _ mb rfl rfl hmb h,.inl rfl⟩

theorem bIx{ea:Array MapEntry}{cl:Nat}{L:List Ent}(hM0:aU Tp C (mL dl sk dc) w)(hmb:C.ι 3=some mb)(r1:cT C.F w (.sl sk.length (sk.flatten.map aA)) v1)(r2:cT C.F w (.sl dc.length (dc.flatten.map aA)) v2)
  (hI:aQx dl sk dc v1 v2 C w mb dc.reverse W C' ea cl L) :
  ∃ C5,aU Tp C5 (aBo dl sk dc) W∧Fr C (mL dl sk dc) w C5 (aBo dl sk dc) W∧∀ D,W.heap[D]? = some (.deferred (some []))→w.heap.size≤D→¬ C5.F D:=by
 obtain ⟨⟨hFI,hM,fI⟩,hok,hls,hborn,hhas⟩:=hI;obtain ⟨F5,hF5⟩:∃ F5:Nat→Prop,F5=fun c=>C'.F c∨∃ p∈iU mb ea cl L,p.1=c:=⟨_,rfl⟩
 have toF:∀ c,C.F c→F5 c:=fun c hc=>by rw [hF5];exact .inl ((hFI c).2 hc)
 have toF':∀ c,C'.F c→F5 c:=fun c hc=>by rw [hF5];exact .inl hc
 have same:∀ c,C.F c→W.heap[c]? = w.heap[c]? := fun c hc=>fI.keep c (hM0.Fs c hc) fun i o h hl he=>hM0.nF i o c h hl he hc
 have ιC:∀ i,i<4→C'.ι i=C.ι i:=fun i hi=>by
  obtain ⟨o,h1,_⟩:=fB (dl:=dl) (sk:=sk) (dc:=dc) i hi;exact (fI.ids i o h1).2.1
 have live1:∀ {i:Nat} {o:AO},(aBo dl sk dc)[i]? = some (some o)→o.live=true→(i=0∨i=1∨i=2)∧∃ o',(aAc dl v1 v2 mb (atF dc.reverse))[i]? = some (some o')∧o'.live=true:=fun {i o} h hl=>by
  rcases at4 h with ⟨rfl,e⟩ | ⟨rfl,e⟩ | ⟨rfl,e⟩ | ⟨rfl,e⟩
  ·exact ⟨.inl rfl,_,rfl,rfl⟩
  ·exact ⟨.inr (.inl rfl),_,rfl,rfl⟩
  ·exact ⟨.inr (.inr rfl),_,rfl,rfl⟩
  ·cases e;cases hl
 have lt3:∀ i c,i<3→C.ι i=some c→c<w.heap.size∧c≠mb:=fun i c hi hc=>by
  obtain ⟨o,h1,h2⟩:=fB (dl:=dl) (sk:=sk) (dc:=dc) i (by omega)
  refine ⟨hM0.lt i o c h1 h2 hc,fun e => ?_⟩
  subst e;have:=hM0.inj i 3 o _ c h1 h2 rfl rfl hc hmb;omega
 refine ⟨⟨C'.ι,C'.κ,F5,[]⟩,⟨fun i ty n cs h => ?_,fun i ty cs h => ?_,fun i es cl h => ?_,fun i i' o o' b h1 l1 h2 l2 e1 e2 => ?_,fun i o b h hl hb hf => ?_,fun c hc => ?_,fun i o b h hl hb => ?_⟩,
  ⟨fI.os,fI.tape,fI.out,fI.size,fI.keep,fun i o h=>⟨?_,(fI.ids i o h).2⟩,fun i o h ty n cs hx => ?_,fun i o h o' hx hl => ?_,fun i o b h hl hb => ?_,toF,fun c hc => ?_⟩,fun D hD hDs hf => ?_⟩
 ·rcases at4 h with ⟨rfl,e⟩ | ⟨rfl,e⟩ | ⟨rfl,e⟩ | ⟨rfl,e⟩ <;> cases e
 ·rcases at4 h with ⟨rfl,e⟩ | ⟨rfl,e⟩ | ⟨rfl,e⟩ | ⟨rfl,e⟩
  ·cases e
   obtain ⟨b,arr,r0,r1,r2,r3,r4⟩:=hM.box 0 _ _ rfl;refine ⟨b,arr,r0,r1,r2,fun j hj => ?_,r4⟩
   have:=r3 j hj;have hj0:j=0:=by simp at hj;exact hj
   subst hj0;simp only [List.getElem_cons_zero] at this ⊢
   cases this with
   | ptr _ _ _ h0 ha h hp =>
    refine .ptr _ _ _ h0 ⟨_,rfl⟩ (fun o ho hl => ?_) hp
    exact h _ rfl rfl
  ·cases e
   obtain ⟨b,arr,s0,s1,s2,s3,s4⟩:=hM.box 1 _ _ rfl;have opq:∀ (j:Nat) (v:Value),Rep C' (aAc dl v1 v2 mb (atF dc.reverse)) W (.p (.v v)) (arr.getD j undef)→arr.getD j undef=v:=fun j v h=>by
    generalize arr.getD j undef=u at h
    cases h with
    | p _ _ h=>cases h;rfl
   refine ⟨b,arr,s0,s1,s2,fun j hj => ?_,s4⟩
   match j,hj with
   | 0,_ =>
    have:=s3 0 (by simp)
    cases this with
    | p _ _ h=>exact .p _ _ (h.anyF rfl)
   | 1,_ =>
    show Rep _ _ W (.p (.sl sk.length (sk.flatten.map aA))) (arr.getD 1 undef);rw [opq 1 v1 (s3 1 (by simp))]
    exact .p _ _ (r1.mono toF same)
   | 2,_ =>
    show Rep _ _ W (.p (.sl dc.length (dc.flatten.map aA))) (arr.getD 2 undef);rw [opq 2 v2 (s3 2 (by simp))]
    exact .p _ _ (r2.mono toF same)
   | 3,_ =>
    have:=s3 3 (by simp)
    simp only [List.getElem_cons_succ,List.getElem_cons_zero] at this ⊢
    cases this with
    | mp _ _ h0 ha h =>
     refine .mp _ _ h0 ⟨_,rfl⟩ fun o ho hl => ?_
     exact h _ rfl rfl
   | 4,_ =>
    show Rep _ _ W (.p (.mp (abE dc))) (arr.getD 4 undef);rw [opq 4 (.map (some mb)) (s3 4 (by simp))]
    exact .p _ _ (aWg hok hls hborn fun p hp=>⟨(hhas p hp).1,by rw [hF5];exact .inr ⟨p,hp,rfl⟩⟩)
  ·cases e
  ·cases e
 ·rcases at4 h with ⟨rfl,e⟩ | ⟨rfl,e⟩ | ⟨rfl,e⟩ | ⟨rfl,e⟩
  ·cases e
  ·cases e
  ·cases e
   obtain ⟨b,arr,s0,s1,s2,s3⟩:=hM.mp 2 _ _ rfl;refine ⟨b,arr,s0,s1,s2,fun j hj => ?_⟩
   obtain ⟨en,t1,t2,t3,t4⟩:=s3 j hj;exact ⟨en,t1,t2,t3,t4.mono toF' (fun _ _=>rfl)⟩
  ·cases e
 ·obtain ⟨_,p,q1,q2⟩:=live1 h1 l1
  obtain ⟨_,p',q1',q2'⟩:=live1 h2 l2;exact hM.inj i i' p p' b q1 q2 q1' q2' e1 e2
 ·obtain ⟨hi,p,q1,q2⟩:=live1 h hl
  rw [hF5] at hf
  rcases hf with hf | ⟨p0,hp0,hpb⟩
  ·exact hM.nF i p b q1 q2 hb hf
  ·have hb':C.ι i=some b:=by rw [← ιC i (by omega)];exact hb
   obtain ⟨g1,g2⟩:=lt3 i b (by omega) hb'
   rcases (hhas p0 hp0).2.2 with h5 | h5 <;> omega
 ·rw [hF5] at hc
  rcases hc with hc | ⟨p0,hp0,rfl⟩
  ·exact hM.Fs c hc
  ·exact cG (hhas p0 hp0).1
 ·obtain ⟨_,p,q1,q2⟩:=live1 h hl
  exact hM.lt i p b q1 q2 hb
 ·have hi:i<4:=(kQ3.1 h).1
  match i,hi with
  | 0,_=>exact ⟨_,rfl⟩
  | 1,_=>exact ⟨_,rfl⟩
  | 2,_=>exact ⟨_,rfl⟩
  | 3,_=>exact ⟨_,rfl⟩
 ·rcases at4 hx with ⟨rfl,e⟩ | ⟨rfl,e⟩ | ⟨rfl,e⟩ | ⟨rfl,e⟩ <;> cases e
 ·have hi:i<4:=(kQ3.1 h).1
  obtain ⟨p,q1,q2⟩:=fB (dl:=dl) (sk:=sk) (dc:=dc) i hi;rw [h] at q1;cases q1;exact q2
 ·obtain ⟨_,p,q1,q2⟩:=live1 h hl
  exact fI.new i p b q1 q2 hb
 ·rw [hF5] at hc
  rcases hc with hc | ⟨p0,hp0,rfl⟩
  ·exact .inl ((hFI c).1 hc)
  ·rcases (hhas p0 hp0).2.2 with h5 | h5
   ·exact .inr (.inr ⟨3,_,rfl,rfl,by rw [h5];exact hmb⟩)
   ·exact .inr (.inl h5)
 ·rw [hF5] at hf
  rcases hf with hf | ⟨p0,hp0,rfl⟩
  ·have:=hM0.Fs D ((hFI D).1 hf);omega
  ·have h6:=(hhas p0 hp0).1
   rw [hD] at h6
   rcases dD.1 hp0 with rfl | ⟨y,_,rfl⟩ <;> cases h6
end
theorem info44q:∃ i,Tryz.prog.info? 44=some i∧i.zero=some zD6∧i.size=6:=by
 obtain ⟨i,h1,h2,h3,_⟩:=info_parts info44z;exact ⟨i,h1,h2,h3⟩
theorem aQu(W:World):(Instr.alloc 44 true (.tuple #[])).run Tp W = .ok (.pointer (some ⟨W.heap.size,0,none⟩)) (W.alloc (.cells zD6.cells 44)):=rfl
set_option maxHeartbeats 1000000 in
theorem bPw(dl:Int)(sk dc:Lqq)(hd:bD dc):aC Tp 0 (sub (cd Tryz.f82) [1,1,1,1,0,1,0]) ⟨fr 57 [(6,(.ptr 0 0)),(27,aQy dc)],mL dl sk dc⟩ .normal ⟨fr 57 [(6,(.ptr 0 0))],aBo dl sk dc⟩:=by
 intro C0 M0 w0 a w hk hs ro hro n;have hro':ro=none:=hro.resolve_right (by rw [bAi];simp [nrf])
 subst hro';rw [bAi];refine aFl (n:=3) ?_;obtain ⟨C,hSl,hM,hF,hD⟩:=hs;obtain ⟨mb,arr0,hmb,hmh,hz,_⟩:=hM.mp 3 _ _ rfl;obtain rfl:arr0 = #[]:=Array.eq_empty_of_size_eq_zero (by simpa using hz)
 obtain ⟨bd,ad,i1,hdh,hs1,hr1,ho1⟩:=hM.box 1 _ _ rfl;have r1:cT C.F w (.sl sk.length (sk.flatten.map aA)) (ad.getD 1 undef):=by
  have:=hr1 1 (by simp)
  cases this with
  | p _ _ h=>exact h
 have r2:cT C.F w (.sl dc.length (dc.flatten.map aA)) (ad.getD 2 undef):=by
  have:=hr1 2 (by simp)
  cases this with
  | p _ _ h=>exact h
 have hmblt:mb<w.heap.size:=hM.lt 3 _ mb rfl rfl hmb;have hsz:a.tmps.size=57:=hSl.size;have h6:=hSl.at (i:=6) (x := .ptr 0 0) rfl
 obtain ⟨lb,Sp,hu,hseq⟩:=bJb dc hd.ud hd.len C (mL dl sk dc) w _ (hSl.at (i:=27) (x:=aQy dc) rfl) hM.Fs
 have actT:∀ (x:Bk dc) (b:Nat),((({ tmps:=(a.tmps.setIfInBounds 28 (.int .i64 (x.1:Nat))).setIfInBounds 29 (.agg (vals6 (nS dc x.1))),defers:=[] }:Act).put (some 8) (.pointer (some ⟨b,0,none⟩))).tmps.size=57) ∧
   (({ tmps:=(a.tmps.setIfInBounds 28 (.int .i64 (x.1:Nat))).setIfInBounds 29 (.agg (vals6 (nS dc x.1))),defers:=[] }:Act).put (some 8) (.pointer (some ⟨b,0,none⟩))).tmps.getD 6 undef=a.tmps.getD 6 undef ∧
   (({ tmps:=(a.tmps.setIfInBounds 28 (.int .i64 (x.1:Nat))).setIfInBounds 29 (.agg (vals6 (nS dc x.1))),defers:=[] }:Act).put (some 8) (.pointer (some ⟨b,0,none⟩))).tmps.getD 8 undef = .pointer (some ⟨b,0,none⟩):=fun x b=>by
  refine ⟨by simp [Act.put,hsz],?_,?_⟩
  ·simp [Act.put,kQ2]
  ·simp [Act.put,kQ2,hsz]
 refine wpIn_rangeFunc_ownH (F:=Fen none) (n:=3) rfl (by omega) (gf:=187) (lb:=lb) hu trivial (fun args w=>rfl) hseq (fun h k=>h.trans k)
  (fun W l o o' hl h1 h2 h3=>⟨by simp,fun b hb=>(grownBy_putObj' W l o').block b (fY (hM.Fs b hb) (gU hl (Nat.le_of_lt (mR.1 h1).1))) (fun e=>by cases e;have:=hM.Fs _ hb;omega)⟩)
  (Below.refl _ _) (fun _=>rfl)
  (fun pre W=>∃ C' ea cl L,aQx dl sk dc (ad.getD 1 undef) (ad.getD 2 undef) C w mb (pre.map fun x=>nS dc x.1) W C' ea cl L) (fun _ _ _=>False)
  (fun pre X Y row hs hg hr=>by obtain ⟨C',ea,cl,L,h⟩:=hs;exact ⟨C',ea,cl,L,h.own hM hmb hg hr⟩) (fun _ _ _ _ _ hs _ _=>hs)
  ⟨C,#[],0,[],bIw (arr0 := #[]) hM hmb hmh i1 hdh rfl rfl⟩
  (fun x a' W=>∃ b,a'=(({ tmps:=(a.tmps.setIfInBounds 28 (.int .i64 (x.1:Nat))).setIfInBounds 29 (.agg (vals6 (nS dc x.1))),defers:=[] }:Act).put (some 8) (.pointer (some ⟨b,0,none⟩)))∧w.heap.size≤b∧W.heap[b]? = some (.cells (vsL (nS dc x.1)).toArray 44 (0,0))∧∀ es cl,W.heap[mb]? = some (.map es cl)→∀ y∈es.toList,y.val.ownBlock≠some b)
  (fun x a' _ X Y row hs hg hr => ?hAx) ?assign ?body ?done ?stop
 case hAx =>
  obtain ⟨b,h1,h2,h3,h4⟩:=hs;have hno:∀ c,c<X.heap.size→(c<w.heap.size∨mK X c)→Y.heap[c]? = X.heap[c]? := fun c hc hd=>hg.block c hc (fun e=>by
   obtain ⟨q1,o,q2,q3⟩:=hr c e.symm
   rcases hd with hd | hd
   ·omega
   ·exact jY q2 q3 hd)
  refine ⟨b,h1,h2,(hno b (cG h3) (.inr (fU h3))).trans h3,fun es cl h => ?_⟩
  by_cases hlt:mb<X.heap.size
  ·rw [hno mb hlt (.inl hmblt)] at h
   exact h4 es cl h
  ·exact absurd (fY (cG h3) (dX _)) (by omega)
 case assign =>
  intro l pre x W K hI hK;rw [zip2'];obtain ⟨C',ea,cl,L,hI⟩:=hI;have hx:=aWf hd _ (aFq x);have hev:vals6 (nS dc x.1)=(vsL (nS dc x.1)).toArray:=rfl;refine wpIn_region_lit (wpListIn_plain rfl fun K' hK' => ?_)
  unfold Oper.wpIn;refine ⟨fun f _=>trivial,?_⟩
  rw [Oper.semAt_plain _ _ _ (by intro c hc';cases hc')]
  have e1 : ∀ ρ : Operand → Value, (execOp ρ { dst := some 8, op := .alloc 44, type := 0, pos := "jury.go:198", after := #[], guard := none }).run Tp W = .ok (.value (.pointer (some ⟨W.heap.size, 0, none⟩))) (W.alloc (.cells zD6.cells 44)) := fun ρ => by
   unfold execOp;dsimp only;rw [Sem.run_bind,aQu,Result.andThen_ok,Sem.run_pure]
  rw [e1];refine hK' _ _ (wpListIn_plain rfl fun K2 hK2 => ?_)
  unfold Oper.wpIn;refine ⟨fun f _=>trivial,?_⟩
  rw [Oper.semAt_plain _ _ _ (by intro c hc';cases hc')]
  obtain ⟨i44,hi,hz0,hz1⟩:=info44q;have e8:(({ tmps:=(a.tmps.setIfInBounds 28 (.int .i64 (x.1:Nat))).setIfInBounds 29 (.agg (vals6 (nS dc x.1))),defers:=[] }:Act).put (some 8) (.pointer (some ⟨W.heap.size,0,none⟩))).eval (.tmp 8) = .pointer (some ⟨W.heap.size,0,none⟩):=(actT x W.heap.size).2.2;have e29:(({ tmps:=(a.tmps.setIfInBounds 28 (.int .i64 (x.1:Nat))).setIfInBounds 29 (.agg (vals6 (nS dc x.1))),defers:=[] }:Act).put (some 8) (.pointer (some ⟨W.heap.size,0,none⟩))).eval (.tmp 29) = .agg (vals6 (nS dc x.1)):=by
   simp [Act.eval,Act.put,kQ2,hsz]
  have e2:=run_storeAt_new (P:=Tp) W 44 zD6.cells (vals6 (nS dc x.1)) (by rw [hi];simp [hz1,hev,vsL,hx.len]) (by simp [hev,vsL,hx.len];rfl) (by
   rw [Array.all_eq_true];intro i h;simp [hev,vsL];rfl)
  have e3 : ∀ ρ : Operand → Value, ρ (.tmp 8) = .pointer (some ⟨W.heap.size, 0, none⟩) → ρ (.tmp 29) = .agg (vals6 (nS dc x.1)) → (execOp ρ { dst := none, op := .store 44 (.tmp 8) (.tmp 29), type := 0, pos := "jury.go:198", after := #[{ on := 0, ground := .data }, { on := 0, ground := .phase }], guard := none }).run Tp (W.alloc (.cells zD6.cells 44)) = .ok .skip (W.alloc (.cells (vals6 (nS dc x.1)) 44)) := fun ρ h1 h2 => by
   unfold execOp;dsimp only;rw [h1,h2,Sem.run_bind,e2,Result.andThen_ok,Sem.run_pure]
  rw [e3 _ e8 e29];refine hK2 _ _ (wpListIn_nil (hK _ _ ?_ ?_ ?_ ?_))
  ·exact ⟨by simp,fun k o _ hk _=>((jW W _).2.2 k (cG hk)).trans hk⟩
  ·exact ⟨by simp,fun b hb=>(jW W _).2.2 b (fY (hM.Fs b hb) hI.inv.2.2.size)⟩
  ·exact ⟨C',ea,cl,L,hI.own hM hmb (World.grownBy_alloc W _ none) (fun r e=>by cases e)⟩
  ·refine ⟨W.heap.size,rfl,hI.inv.2.2.size,(jW W _).2.1,fun es2 cl2 h y hy hyb => ?_⟩
   have hm1:=(hI.has (mb,.map ea cl) (by simp [iU])).1
   rw [(jW W _).2.2 mb (cG hm1),hm1] at h
   cases h;obtain ⟨e,he,_,hv⟩:=hI.ok.e1 y hy;rw [hv] at hyb
   have hb2:e.b=W.heap.size:=by
    have:Ent.val e = .slice (some ⟨e.b,0,none⟩) e.l.length e.cap:=rfl;rw [this] at hyb
    exact Option.some.inj hyb
   have:=cG (hI.has e.blk (dD.2 (.inr ⟨e,he,rfl⟩))).1;simp only [Ent.blk] at this
   omega
 case body =>
  rintro l pre x a' W hl _ ⟨C',ea,cl,L,hI⟩ ⟨b,rfl,hb1,hb2,hb3⟩ hlt;obtain ⟨t1,t2,t3⟩:=actT x b;refine wpIn_mono (bPz (l:=l) (n:=1) (aWf hd _ (aFq x)) (fun y hy=>by
   obtain ⟨z,_,rfl⟩:=dJ.1 hy;exact aWf hd _ (aFq z)) (by rw [kQ8];have:=hd.len;omega) hM hmb hI t1 rfl (by rw [t2];exact h6) t3 hb1 hb2 hb3) ?_
  rintro e a2 W4 ⟨rfl,hK,hG,h⟩;exact ⟨hK,hG,by simpa [iN] using h⟩
 case done =>
  intro D xs W hD' hSx hI hDm;obtain ⟨C',ea,cl,L,hI⟩:=hI;rw [bPx hSx] at hI
  obtain ⟨C5,hM5,f5,hF5⟩:=bIx hM hmb r1 r2 hI;have hnp:aSq (aBo dl sk dc):=fun i o h=>by rcases at4 h with ⟨rfl,e⟩ | ⟨rfl,e⟩ | ⟨rfl,e⟩ | ⟨rfl,e⟩ <;> cases e <;> rfl
  refine ⟨rfl,C5,?_,hM5,hF.trans f5,?_⟩
  ·have s0:eN C5 (aBo dl sk dc) W (List.replicate 57 .any) a.tmps:=⟨by simpa using hsz,fun j hj=>by rw [List.getElem_replicate];exact .any _⟩
   refine ⟨hsz.trans rfl,fun j hj => ?_⟩
   have hfr:fr 57 [(6,.ptr 0 0)]=(List.replicate 57 AV.any).set 6 (.ptr 0 0):=rfl;simp only [hfr] at hj ⊢
   rw [zH]
   split
   ·rename_i e;subst e;exact h6.mono (hM.le f5)
   ·exact s0.rep j (by simpa using hj)
  ·obtain ⟨⟨l,e1,e2,e3⟩,hR⟩:=hD.fr hM (fun i to ti sz L h=>by have:=hnp _ _ h;cases this) f5
   obtain ⟨⟨l',e1',_,e3'⟩,_⟩:=hD;have hll:l=l':=by
    have:=e1.symm.trans e1';exact (List.map_inj_right (fun x y h=>by simpa [mark] using h)).1 this
   refine ⟨⟨D::l,by rw [e1];rfl,List.nodup_cons.2 ⟨fun hin => ?_,e2⟩,fun D' hD2 => ?_⟩,hR⟩
   ·rw [hll] at hin
    have:=(mR.1 (e3' D hin).1).1;omega
   ·rcases fD.1 hD2 with rfl | hin
    ·exact ⟨hDm,gU hF.size hD',hF5 _ hDm hD'⟩
    ·exact e3 D' hin
 case stop =>
  intro D c pre W _ _ h _;exact h.elim
end KV
end Go.Proofs
end
namespace Go.Proofs
namespace KV
section
variable {base:Nat}
variable {dl:Int}{sk dc:Lqq}

theorem cJe(dc:Lqq){base:Nat}:FV Tp 147 [.p (fS dc)] base (aQy dc) []:=cJg
theorem fV(h:bZ dl sk dc):bD (aB dc):=by
 have hm:∀ x,x∈aB dc↔x∈dc:=fun x=>(cW dc).mem_iff
 refine ⟨nA h.ud,by rw [eV];have:=h.len2;omega,fun x hx=>h.hdc x ((hm x).1 hx),?_,fun x hx=>h.ord x ((hm x).1 hx)⟩
 have hn:(aP (aB dc) 0).Nodup:=((cW dc).map _).nodup_iff.2 h.nd;have hs:=iO dc;unfold aP at hn
 rw [List.Nodup,List.pairwise_map] at hn
 exact (hs.and hn).imp fun ⟨h1,h2⟩=>by
  show _<_;unfold dN;omega
theorem bVq(h0:bZ dl sk dc)(h1:bD (aB dc)):FV Tp 82 [(.p (.agg (aX dl sk dc)))] base (.tup [(.rp [(aA dl),(.sl ((aB sk).length) ((aB sk).flatten.map aA)),(.sl ((aB dc).length) ((aB dc).flatten.map aA)),(.mp (atF (aB dc).reverse)),(.mp (abE (aB dc)))] 0),(pI 0)]) []:=by
 have k1:=fk 1 (cBv dl sk dc h0) rfl;have k2:=fk 6 (cJe (aB dc)) rfl;exact FV.fi Tryz.func82 [k1.o,bF,k2.o,.k 1 (gI [0,6,7,20,28,29] [5,4,2,3]) .normal ⟨fr 57 [(6,(.ptr 0 0))],aBo dl (aB sk) (aB dc)⟩,.g 1 ⟨[],[0],[2,1],[]⟩] (gt (aC Tp 0 (sub (cd Tryz.f82) [1,1,1,1,0,1,0]) ⟨fr 57 [(6,(.ptr 0 0)),(27,aQy (aB dc))],mL dl (aB sk) (aB dc)⟩ .normal ⟨fr 57 [(6,(.ptr 0 0))],aBo dl (aB sk) (aB dc)⟩) (bPw dl (aB sk) (aB dc) h1) (gc k2 (gt (((0:Int) != 0)=false) (by first | decide | simp) (gc k1 gn))))
theorem bVr{r0:Int}(h0:uni 2 sk)(h1:uni 6 dc)(h2:(eC dl sk dc)≠0)(er0:r0=(eC dl sk dc)):FV Tp 82 [(.p (.agg (aX dl sk dc)))] base (.tup [(.p (.v (.pointer none))),(pI r0)]) []:=by
 subst er0;have k1:=fk 1 (bTu dl sk dc h0 h1 h2) rfl;exact FV.fi Tryz.func82 [k1.o,bT] (gc (cZ h2) (gc k1 gn))
abbrev aR(dl:Int)(sk dc:Lqq):List PV:=[aA dl,.sl sk.length (sk.flatten.map aA),.sl dc.length (dc.flatten.map aA),.mp (atF dc.reverse),.mp (abE dc)]
theorem iT(dl:Int)(sk dc:Lqq)(h:bZ dl sk dc){base:Nat}:FV Tp 82 [.p (.agg (aX dl sk dc))] base (.tup [.rp (aR dl (aB sk) (aB dc)) 0,.p (aA 0)]) []:=bVq h (fV h)
theorem aQt(dl:Int)(sk dc:Lqq)(us:uni 2 sk)(ud:uni 6 dc)(h:eC dl sk dc≠0){base:Nat}:FV Tp 82 [.p (.agg (aX dl sk dc))] base (.tup [.p (.v (.pointer none)),.p (aA (eC dl sk dc))]) []:=bVr us ud h rfl
end
section
section
variable {P:Program} {k:Nat} {b:Code} {β:Type}
theorem aE.ex{e:Ex}(S:Nat→β→St)(R:β→St)(Inv:Nat→β→Prop)(he:e ≠ .normal)(n:Nat)
  (hs:∀ (i:Nat) (acc:β),i<n→Inv i acc→∃ acc',Inv (i+1) acc'∧aC P k b (S i acc) .normal (S (i+1) acc'))
  (hx:∀ acc,Inv n acc→aC P k b (S n acc) e (R acc)) {acc:β} (h0:Inv 0 acc):∃ acc',Inv n acc'∧aE P k b (S 0 acc) e (R acc'):=by
 have key:∀ (d i:Nat) (acc:β),i+d=n→Inv i acc→∃ acc',Inv n acc'∧aE P k b (S i acc) e (R acc'):=by
  intro d
  induction d with
  | zero =>
   intro i acc hi h;obtain rfl:i=n:=by omega
   exact ⟨acc,h,.exit (hx acc h) he⟩
  | succ d ih =>
   intro i acc hi h;obtain ⟨acc1,h1,c1⟩:=hs i acc (by omega) h
   obtain ⟨acc2,h2,c2⟩:=ih (i+1) acc1 (by omega) h1
   exact ⟨acc2,h2,.step c1 c2⟩
 exact key n 0 acc (by omega) h0
theorem aE.exF{e1 e2:Ex}(S:Nat→β→St)(R1:Nat→β→St)(R2:β→St)(Inv:β→Prop)(h1:e1 ≠ .normal)(h2:e2 ≠ .normal)(p:Nat→Bool)(n:Nat)
  (hs:∀ (i:Nat) (acc:β),i<n→Inv acc→p i=false→∃ acc',Inv acc'∧aC P k b (S i acc) .normal (S (i+1) acc'))
  (hq:∀ (i:Nat) (acc:β),i<n→Inv acc→p i=true→∃ acc',Inv acc'∧aC P k b (S i acc) e1 (R1 i acc'))
  (hx:∀ acc,Inv acc→aC P k b (S n acc) e2 (R2 acc)) {acc:β} (h0:Inv acc) :
  (∃ i acc',i<n∧p i=true∧(∀ j,j<i→p j=false)∧Inv acc'∧aE P k b (S 0 acc) e1 (R1 i acc'))∨((∀ j,j<n→p j=false)∧∃ acc',Inv acc'∧aE P k b (S 0 acc) e2 (R2 acc')):=by
 have key:∀ (d i:Nat) (acc:β),i+d=n→Inv acc→(∀ j,j<i→p j=false)→(∃ i' acc',i'<n∧p i'=true∧(∀ j,j<i'→p j=false)∧Inv acc'∧aE P k b (S i acc) e1 (R1 i' acc'))∨((∀ j,j<n→p j=false)∧∃ acc',Inv acc'∧aE P k b (S i acc) e2 (R2 acc')):=by
  intro d
  induction d with
  | zero =>
   intro i acc hi h hj;obtain rfl:i=n:=by omega
   exact .inr ⟨hj,acc,h,.exit (hx acc h) h2⟩
  | succ d ih =>
   intro i acc hi h hj;cases hp:p i with
   | true =>
    obtain ⟨acc1,q1,c1⟩:=hq i acc (by omega) h hp
    exact .inl ⟨i,acc1,by omega,hp,hj,q1,.exit c1 h1⟩
   | false =>
    obtain ⟨acc1,q1,c1⟩:=hs i acc (by omega) h hp
    rcases ih (i+1) acc1 (by omega) q1 (fun j hj2=>by
     rcases Nat.lt_or_ge j i with h3 | h3
     ·exact hj j h3
     ·obtain rfl:j=i:=by omega
      exact hp) with ⟨i',acc',r1,r2,r3,r4,r5⟩ | ⟨r1,acc',r2,r3⟩
    ·exact .inl ⟨i',acc',r1,r2,r3,r4,.step c1 r5⟩
    ·exact .inr ⟨r1,acc',r2,.step c1 r3⟩
 exact key n 0 acc (by omega) h0 (fun j hj=>absurd hj (aTv _))
end
def aO(T:Lqb):List (Value × PV):=T.map fun p=>(.int .i64 p.1,blP p.2)
theorem bIv(T:Lqb)(n:Int)(b:Bool):aO (T++[(n,b)])=aO T++[(.int .i64 n,blP b)]:=by simp [aO]
structure cA (dl:Int) (oc:List Int) (dc:Lqq) (T:Lqb):Prop where
 nd:(T.map (·.1)).Nodup
 ok:∀ p∈T,∃ x∈dc,dN x=p.1∧dA dl oc dc x=p.2
section
variable {dl:Int} {oc:List Int} {dc:Lqq} {T:Lqb}
theorem cA.nil:cA dl oc dc []:=⟨by simp,fun p hp=>by cases hp⟩
theorem cF(h:bD dc){x:List Int}(hx:x∈dc):1≤dN x∧dN x≤9999:=(iA.1 (h.rng x hx)).1
theorem oP(h:bD dc){x y:List Int}(hx:x∈dc)(hy:y∈dc)(e:dN x=dN y):x=y:=by
 obtain ⟨i,hi,rfl⟩:=List.mem_iff_getElem.1 hx;obtain ⟨j,hj,rfl⟩:=List.mem_iff_getElem.1 hy;have hu:=List.pairwise_iff_getElem.1 h.up
 rcases Nat.lt_trichotomy i j with q | q | q
 ·have:=hu i j hi hj q;omega
 ·subst q;rfl
 ·have:=hu j i hj hi q;omega
theorem cA.keys(h:cA dl oc dc T)(hd:bD dc){n:Int}(hn:1≤n∧n≤9999):cN .i64 (aO T) (.int .i64 n):=by
 refine ⟨fun e he => ?_,pD (by omega),?_⟩
 ·obtain ⟨p,hp,rfl⟩:=dJ.1 he
  obtain ⟨x,hx,e1,_⟩:=h.ok p hp;have:=cF hd hx;exact pD (by omega)
 ·have:(aO T).map (fun e=>jI e.1)=T.map (·.1):=by
   unfold aO;rw [vF];rfl
  rw [this];exact h.nd
theorem bAh{n:Int}:dR (aO T) (.int .i64 n)=T.any fun p=>p.1 == n:=by
 unfold dR aO;rw [List.any_map]
 congr 1
theorem bPv{n:Int}:fN (aO T) (.int .i64 n)=(T.find? fun p=>p.1 == n).map fun p=>blP p.2:=by
 unfold fN aO
 induction T with
 | nil=>rfl
 | cons p T ih =>
  rw [gH,List.find?_cons,List.find?_cons];have e:(decide (jI ((Value.int IntKind.i64 p.1,blP p.2):Value × PV).1=jI (Value.int IntKind.i64 n)))=(p.1 == n):=by
   show decide (p.1=n)=(p.1 == n);rw [Bool.eq_iff_iff];simp
  rw [e];cases p.1 == n with
  | true=>rfl
  | false=>exact ih
theorem cA.look(h:cA dl oc dc T)(hd:bD dc){x:List Int}(hx:x∈dc)(hh:dR (aO T) (.int .i64 (dN x))=true):fN (aO T) (.int .i64 (dN x))=some (blP (dA dl oc dc x)):=by
 rw [bAh] at hh
 rw [bPv];cases hf:T.find? fun p=>p.1 == dN x with
 | none =>
  obtain ⟨p,h1,h2⟩:=List.any_eq_true.1 hh;exact absurd h2 (aCc.1 hf p h1)
 | some p =>
  have h1:=rD hf;have h2:p.1=dN x:=by simpa using aHh hf
  obtain ⟨y,hy,e1,e2⟩:=h.ok p h1;rw [oP hd hy hx (e1.trans h2)] at e2
  rw [e2];rfl
theorem cA.again(h:cA dl oc dc T)(hd:bD dc){x:List Int}(hx:x∈dc):qR (aO T) (.int .i64 (dN x)) (blP (dA dl oc dc x))=aO T:=by
 have:∀ T':Lqb,(∀ p∈T',∃ x∈dc,dN x=p.1∧dA dl oc dc x=p.2)→qR (aO T') (.int .i64 (dN x)) (blP (dA dl oc dc x))=aO T':=by
  intro T'
  induction T' with
  | nil=>intro _;rfl
  | cons p T' ih =>
   intro hp;show (if p.1=dN x then ((.int .i64 (dN x),blP (dA dl oc dc x))::aO T':List (Value × PV)) else (.int .i64 p.1,blP p.2)::qR (aO T') (.int .i64 (dN x)) (blP (dA dl oc dc x)))=(.int .i64 p.1,blP p.2)::aO T'
   by_cases e:p.1=dN x
   ·rw [if_pos e]
    obtain ⟨y,hy,e1,e2⟩:=hp p (jJ ..);rw [oP hd hy hx (e1.trans e)] at e2
    rw [e,e2]
   ·rw [if_neg e,ih fun q hq=>hp q (kQ7 _ hq)]
 exact this T h.ok
theorem cA.put(h:cA dl oc dc T){x:List Int}(hx:x∈dc)(hh:dR (aO T) (.int .i64 (dN x))=false):cA dl oc dc (T++[(dN x,dA dl oc dc x)]):=by
 rw [bAh] at hh
 refine ⟨?_,fun p hp => ?_⟩
 ·rw [iN,List.nodup_append]
  refine ⟨h.nd,by simp,fun a ha b hb e => ?_⟩
  simp only [gH,List.map_nil,List.mem_singleton] at hb
  obtain ⟨p,hp,rfl⟩:=dJ.1 ha;have:=List.any_eq_false.1 hh p hp;rw [e,hb] at this
  simp at this
 ·rcases jK.1 hp with hp | hp
  ·exact h.ok p hp
  ·rw [List.mem_singleton.1 hp]
   exact ⟨x,hx,rfl,rfl⟩
end
end
end KV
end Go.Proofs
