/- Parts of the proof of JDecisions: laws of walks, contracts of functions, plain models. No condition. -/
import Derived.Maps.Keyed
import Derived.Maps.AppendAt
import Derived.OrdersHeld
import Derived.Great.BuildSlice
import Derived.Lib.Small
import Derived.Below
import Derived.RangeFuncNested
import Derived.RangeFuncLeaves
import Derived.Shelf.Abstract
import Derived.OwnWalkIn
import Derived.TacticsInMore
import Derived.LoopNIn
import Derived.LoopIn
import Derived.OrdersIn
import Derived.Test.YtgejpbmanhlkcaaGreatPJDecisionsB
set_option linter.unusedVariables false
set_option linter.unusedSimpArgs false
set_option maxRecDepth 100000
namespace Go.Proofs
namespace KV
section

noncomputable abbrev aFf:Code:=sub (cd Tryz.f99) [1,1,0,1,0,0]
noncomputable abbrev aFg:Code:=sub (cd Tryz.f100) [1,1,0,1,0,0]
theorem rI{k:Nat}{l:Lqq}(hu:uni k l):(l.flatten.map aA).length=l.length*k:=by rw [fL,nW hu]
theorem bSq{l:Lqq}(h0:(l.flatten.map aA).length=l.length*2∧l.length≤1000000){base:Nat}:FV Tp 89 [(.p (fS l))] base (.own base) [(base,(.row 31 l.length (l.flatten.map aA)))]:=by
 exact FV.fin Tryz.func89 rfl (o:=[]) (l:=[_]) (by kernel_rfl) (gc h0 gn)
theorem bSr(l:Lqq)(hu:uni 2 l)(hl:l.length≤1000){base:Nat}:FV Tp 89 [.p (fS l)] base (.own base) [(base,.row 31 l.length (l.flatten.map aA))]:=bSq ⟨rI hu,by omega⟩
theorem bSs{l:Lqq}(h0:(l.flatten.map aA).length=l.length*6∧l.length≤1000000){base:Nat}:FV Tp 90 [(.p (fS l))] base (.own base) [(base,(.row 44 l.length (l.flatten.map aA)))]:=by
 exact FV.fin Tryz.func90 rfl (o:=[]) (l:=[_]) (by kernel_rfl) (gc h0 gn)
theorem bSt(l:Lqq)(hu:uni 6 l)(hl:l.length≤1000){base:Nat}:FV Tp 90 [.p (fS l)] base (.own base) [(base,.row 44 l.length (l.flatten.map aA))]:=bSs ⟨rI hu,by omega⟩
def jI(a:Lqq)(b:Lqq)(i:Nat):St:=⟨fr 26 [(0,(.p (fS a))),(1,(.p (fS b))),(12,(pI (a.length:Int))),(13,(pI (i:Int)))],[]⟩
theorem bSu{a b:Lqq}(h0:(a.length:Int)≠(b.length:Int)){base:Nat}:FV Tp 99 [(.p (fS a)),(.p (fS b))] base (pB false) []:=by
 exact FV.fin Tryz.func99 rfl (o:=[bT]) (l:=[_]) (by kernel_rfl) (gc (iD h0) gn)
theorem bSv{a b:Lqq}{i'0:Nat}(h0:(a.length:Int)=(b.length:Int))(hl1:aE Tp 0 aFf (jI a b 0) (.exit 0) (jI a b i'0)){base:Nat}:FV Tp 99 [(.p (fS a)),(.p (fS b))] base (pB true) []:=by
 exact FV.fin Tryz.func99 rfl (o:=[bF,.k 4 ⟨(rng [(2,10),(14,12)]),[],[],[]⟩ (.exit 0) (jI a b i'0)]) (l:=[_,_]) (by kernel_rfl) (gc hl1.code (gc (cT h0) gn))
theorem bSw{a b:Lqq}{i'0:Nat}(h0:(a.length:Int)=(b.length:Int))(hl1:aE Tp 0 aFf (jI a b 0) .ret (bG (jI a b i'0) [(4,(.kb false))])){base:Nat}:FV Tp 99 [(.p (fS a)),(.p (fS b))] base (pB false) []:=by
 exact FV.fin Tryz.func99 rfl (o:=[bF,.k 4 ⟨(rng [(2,10),(14,12)]),[],[],[]⟩ .ret (bG (jI a b i'0) [(4,(.kb false))])]) (l:=[_,_]) (by kernel_rfl) (gc hl1.code (gc (cT h0) gn))
theorem aZq{a b:Lqq}{i:Nat}{y100 y101 y102 y103:Int}(h0:(i:Int)<(a.length:Int))(h1:a[i]? = some [y100,y101])(h2:uni 2 a)(h3:b[i]? = some [y102,y103])(h4:uni 2 b)(h5:dI [(aA y100),(aA y101)] [(0,3,true),(1,3,true)]=true∧dI [(aA y102),(aA y103)] [(0,3,true),(1,3,true)]=true)(h6:(kD [(aA y100),(aA y101)] [(aA y102),(aA y103)] [(0,3,true),(1,3,true)])=false):aC Tp 0 aFf (jI a b i) .ret (bG (jI a b i) [(4,(.kb false))]):=by
 exact aC.fin (g:=⟨(rng [(2,2),(5,7),(14,12)]),[],[],[]⟩) (o:=[bT,.x (.agg [(aA y100),(aA y101)]),.x (.agg [(aA y102),(aA y103)]),bT]) (l:=[_,_,_,_,0≤(i:Int)∧(i:Int)<(b.length:Int)∧(i*2)<(b.flatten.map aA).length,_,_,0≤(i:Int)∧(i:Int)<(a.length:Int)∧(i*2)<(a.flatten.map aA).length,_]) (by kernel_rfl) (gc (cP h6) (gc h5 (gc (aL (i:=i) h4 h3) (gc (aW (i:=i) h4 h3) (gc (aV (k:=2) (i:=(i:Int)) (by decide) h4 (kQ1 _) h3) (gc (aL (i:=i) h2 h1) (gc (aW (i:=i) h2 h1) (gc (aV (k:=2) (i:=(i:Int)) (by decide) h2 (kQ1 _) h1) (gc (aQ h0) gn)))))))))
theorem aZr{a b:Lqq}{i:Nat}{y100 y101 y102 y103:Int}{i':Nat}(h0:(i:Int)<(a.length:Int))(h1:a[i]? = some [y100,y101])(h2:uni 2 a)(h3:b[i]? = some [y102,y103])(h4:uni 2 b)(h5:dI [(aA y100),(aA y101)] [(0,3,true),(1,3,true)]=true∧dI [(aA y102),(aA y103)] [(0,3,true),(1,3,true)]=true)(h6:(kD [(aA y100),(aA y101)] [(aA y102),(aA y103)] [(0,3,true),(1,3,true)])=true)(h7:inR (((i+1):Nat):Int))(ei':i'=(i+1)):aC Tp 0 aFf (jI a b i) .normal (jI a b i'):=by
 subst ei';exact aC.fin (g:=⟨(rng [(2,10),(14,12)]),[],[],[]⟩) (o:=[bT,.x (.agg [(aA y100),(aA y101)]),.x (.agg [(aA y102),(aA y103)]),bF]) (l:=[_,_,_,_,_,0≤(i:Int)∧(i:Int)<(b.length:Int)∧(i*2)<(b.flatten.map aA).length,_,_,0≤(i:Int)∧(i:Int)<(a.length:Int)∧(i*2)<(a.flatten.map aA).length,_]) (by kernel_rfl) (gc h7 (gc (bA h6) (gc h5 (gc (aL (i:=i) h4 h3) (gc (aW (i:=i) h4 h3) (gc (aV (k:=2) (i:=(i:Int)) (by decide) h4 (kQ1 _) h3) (gc (aL (i:=i) h2 h1) (gc (aW (i:=i) h2 h1) (gc (aV (k:=2) (i:=(i:Int)) (by decide) h2 (kQ1 _) h1) (gc (aQ h0) gn))))))))))
theorem aZs{a b:Lqq}{i:Nat}(h0:(a.length:Int)≤(i:Int)):aC Tp 0 aFf (jI a b i) (.exit 0) (jI a b i):=by
 exact aC.fin (g:=⟨(rng [(2,10),(14,12)]),[],[],[]⟩) (o:=[bF]) (l:=[_]) (by kernel_rfl) (gc (aR h0) gn)
theorem bGo(a b:Lqq)(ha:uni 2 a)(hb:uni 2 b)(hl:a.length≤1000){base:Nat}:FV Tp 99 [.p (fS a),.p (fS b)] base (pB (decide (a=b))) []:=by
 by_cases hlen:a.length=b.length
 ·have eqx:∀ i,i<a.length→∃ x y,a[i]? = some x∧b[i]? = some y∧x.length=2∧y.length=2:=fun i hi =>
   ⟨a[i],b[i],kQ0 hi,kQ0 (by omega),ha _ (fV hi),hb _ (fV (by omega))⟩
  rcases aE.find (P:=Tp) (k:=0) (b:=aFf) (fun i=>jI a b i) (fun i _=>bG (jI a b i) [(4,.kb false)]) (jI a b a.length) .ret (.exit 0) (by simp) (by simp) (fun j=>decide (a.getD j []≠b.getD j [])) (List.range a.length)
   (fun i x hx hp=>by
    have hi:i<a.length:=by have:=aT hx;simpa using this
    obtain ⟨y,z,hy,hz,ly,lz⟩:=eqx i hi;obtain ⟨a,b,rfl⟩:=len2 ly;obtain ⟨a',b',rfl⟩:=len2 lz;have hxi:x=i:=by rw [mQ hi] at hx;exact (Option.some.inj hx).symm
    subst hxi;have he:=of_decide_eq_false hp;simp only [kQ5,hy,hz,Option.getD_some,ne_eq,Classical.not_not] at he
    cases he;exact aZr (by omega) hy ha hz hb ⟨rfl,rfl⟩ (by simp [kD,vB]) (aO (by omega)) rfl)
   (fun i x hx hp=>by
    have hi:i<a.length:=by have:=aT hx;simpa using this
    obtain ⟨y,z,hy,hz,ly,lz⟩:=eqx i hi;obtain ⟨a,b,rfl⟩:=len2 ly;obtain ⟨a',b',rfl⟩:=len2 lz;have hxi:x=i:=by rw [mQ hi] at hx;exact (Option.some.inj hx).symm
    subst hxi;have he:=of_decide_eq_true hp;simp only [kQ5,hy,hz,Option.getD_some] at he
    exact aZq (by omega) hy ha hz hb ⟨rfl,rfl⟩ (by
     rw [Bool.eq_false_iff];intro h;simp [kD,vB] at h
     exact he (by simp [h])))
   (by rw [aHf];exact aZs (by omega)) with ⟨i,x,h1,h2,h3,h4⟩ | ⟨h1,h2,h3⟩
  ·have hi:i<a.length:=by have:=aT h1;simpa using this
   have hxi:x=i:=by rw [mQ hi] at h1;exact (Option.some.inj h1).symm
   have he:=of_decide_eq_true h3;rw [decide_eq_false (fun e=>he (by rw [e]))]
   exact bSw (by omega) h4
  ·have hall:∀ i,i<a.length→a.getD i []=b.getD i []:=fun i hi=>by
    have:=List.any_eq_false.1 h2 i (sR.2 hi);simpa using this
   have e:a=b:=by
    apply List.ext_getElem hlen;intro i h1 h2;have:=hall i h1;simpa [kQ5,kQ0 h1,kQ0 h2] using this
   rw [decide_eq_true e];exact bSv (by omega) h3
 ·rw [decide_eq_false (fun e=>hlen (by rw [e]))]
  exact bSu (by omega)
def jJ(a:Lqq)(b:Lqq)(i:Nat):St:=⟨fr 26 [(0,(.p (fS a))),(1,(.p (fS b))),(12,(pI (a.length:Int))),(13,(pI (i:Int)))],[]⟩
theorem bSx{a b:Lqq}(h0:(a.length:Int)≠(b.length:Int)){base:Nat}:FV Tp 100 [(.p (fS a)),(.p (fS b))] base (pB false) []:=by
 exact FV.fin Tryz.func100 rfl (o:=[bT]) (l:=[_]) (by kernel_rfl) (gc (iD h0) gn)
theorem bSy{a b:Lqq}{i'0:Nat}(h0:(a.length:Int)=(b.length:Int))(hl1:aE Tp 0 aFg (jJ a b 0) (.exit 0) (jJ a b i'0)){base:Nat}:FV Tp 100 [(.p (fS a)),(.p (fS b))] base (pB true) []:=by
 exact FV.fin Tryz.func100 rfl (o:=[bF,.k 4 ⟨(rng [(2,10),(14,12)]),[],[],[]⟩ (.exit 0) (jJ a b i'0)]) (l:=[_,_]) (by kernel_rfl) (gc hl1.code (gc (cT h0) gn))
theorem bSz{a b:Lqq}{i'0:Nat}(h0:(a.length:Int)=(b.length:Int))(hl1:aE Tp 0 aFg (jJ a b 0) .ret (bG (jJ a b i'0) [(4,(.kb false))])){base:Nat}:FV Tp 100 [(.p (fS a)),(.p (fS b))] base (pB false) []:=by
 exact FV.fin Tryz.func100 rfl (o:=[bF,.k 4 ⟨(rng [(2,10),(14,12)]),[],[],[]⟩ .ret (bG (jJ a b i'0) [(4,(.kb false))])]) (l:=[_,_]) (by kernel_rfl) (gc hl1.code (gc (cT h0) gn))
theorem aZt{a b:Lqq}{i:Nat}{y100 y101 y102 y103 y104 y105 y106 y107 y108 y109 y110 y111:Int}(h0:(i:Int)<(a.length:Int))(h1:a[i]? = some [y100,y101,y102,y103,y104,y105])(h2:uni 6 a)(h3:b[i]? = some [y106,y107,y108,y109,y110,y111])(h4:uni 6 b)(h5:dI [(aA y100),(aA y101),(aA y102),(aA y103),(aA y104),(aA y105)] [(0,3,true),(1,42,true),(2,3,true),(3,3,true),(4,3,true),(5,3,true)]=true∧dI [(aA y106),(aA y107),(aA y108),(aA y109),(aA y110),(aA y111)] [(0,3,true),(1,42,true),(2,3,true),(3,3,true),(4,3,true),(5,3,true)]=true)(h6:(kD [(aA y100),(aA y101),(aA y102),(aA y103),(aA y104),(aA y105)] [(aA y106),(aA y107),(aA y108),(aA y109),(aA y110),(aA y111)] [(0,3,true),(1,42,true),(2,3,true),(3,3,true),(4,3,true),(5,3,true)])=false):aC Tp 0 aFg (jJ a b i) .ret (bG (jJ a b i) [(4,(.kb false))]):=by
 exact aC.fin (g:=⟨(rng [(2,2),(5,7),(14,12)]),[],[],[]⟩) (o:=[bT,.x (dcE y100 y101 y102 y103 y104 y105),.x (dcE y106 y107 y108 y109 y110 y111),bT]) (l:=[_,_,_,_,0≤(i:Int)∧(i:Int)<(b.length:Int)∧(i*6)<(b.flatten.map aA).length,_,_,0≤(i:Int)∧(i:Int)<(a.length:Int)∧(i*6)<(a.flatten.map aA).length,_]) (by kernel_rfl) (gc (cP h6) (gc h5 (gc (aL (i:=i) h4 h3) (gc (aW (i:=i) h4 h3) (gc (aV (k:=6) (i:=(i:Int)) (by decide) h4 (kQ1 _) h3) (gc (aL (i:=i) h2 h1) (gc (aW (i:=i) h2 h1) (gc (aV (k:=6) (i:=(i:Int)) (by decide) h2 (kQ1 _) h1) (gc (aQ h0) gn)))))))))
theorem aZu{a b:Lqq}{i:Nat}{y100 y101 y102 y103 y104 y105 y106 y107 y108 y109 y110 y111:Int}{i':Nat}(h0:(i:Int)<(a.length:Int))(h1:a[i]? = some [y100,y101,y102,y103,y104,y105])(h2:uni 6 a)(h3:b[i]? = some [y106,y107,y108,y109,y110,y111])(h4:uni 6 b)(h5:dI [(aA y100),(aA y101),(aA y102),(aA y103),(aA y104),(aA y105)] [(0,3,true),(1,42,true),(2,3,true),(3,3,true),(4,3,true),(5,3,true)]=true∧dI [(aA y106),(aA y107),(aA y108),(aA y109),(aA y110),(aA y111)] [(0,3,true),(1,42,true),(2,3,true),(3,3,true),(4,3,true),(5,3,true)]=true)(h6:(kD [(aA y100),(aA y101),(aA y102),(aA y103),(aA y104),(aA y105)] [(aA y106),(aA y107),(aA y108),(aA y109),(aA y110),(aA y111)] [(0,3,true),(1,42,true),(2,3,true),(3,3,true),(4,3,true),(5,3,true)])=true)(h7:inR (((i+1):Nat):Int))(ei':i'=(i+1)):aC Tp 0 aFg (jJ a b i) .normal (jJ a b i'):=by
 subst ei';exact aC.fin (g:=⟨(rng [(2,10),(14,12)]),[],[],[]⟩) (o:=[bT,.x (dcE y100 y101 y102 y103 y104 y105),.x (dcE y106 y107 y108 y109 y110 y111),bF]) (l:=[_,_,_,_,_,0≤(i:Int)∧(i:Int)<(b.length:Int)∧(i*6)<(b.flatten.map aA).length,_,_,0≤(i:Int)∧(i:Int)<(a.length:Int)∧(i*6)<(a.flatten.map aA).length,_]) (by kernel_rfl) (gc h7 (gc (bA h6) (gc h5 (gc (aL (i:=i) h4 h3) (gc (aW (i:=i) h4 h3) (gc (aV (k:=6) (i:=(i:Int)) (by decide) h4 (kQ1 _) h3) (gc (aL (i:=i) h2 h1) (gc (aW (i:=i) h2 h1) (gc (aV (k:=6) (i:=(i:Int)) (by decide) h2 (kQ1 _) h1) (gc (aQ h0) gn))))))))))
theorem aZv{a b:Lqq}{i:Nat}(h0:(a.length:Int)≤(i:Int)):aC Tp 0 aFg (jJ a b i) (.exit 0) (jJ a b i):=by
 exact aC.fin (g:=⟨(rng [(2,10),(14,12)]),[],[],[]⟩) (o:=[bF]) (l:=[_]) (by kernel_rfl) (gc (aR h0) gn)
theorem bTa(a b:Lqq)(ha:uni 6 a)(hb:uni 6 b)(hl:a.length≤1000){base:Nat}:FV Tp 100 [.p (fS a),.p (fS b)] base (pB (decide (a=b))) []:=by
 by_cases hlen:a.length=b.length
 ·have eqx:∀ i,i<a.length→∃ x y,a[i]? = some x∧b[i]? = some y∧x.length=6∧y.length=6:=fun i hi =>
   ⟨a[i],b[i],kQ0 hi,kQ0 (by omega),ha _ (fV hi),hb _ (fV (by omega))⟩
  rcases aE.find (P:=Tp) (k:=0) (b:=aFg) (fun i=>jJ a b i) (fun i _=>bG (jJ a b i) [(4,.kb false)]) (jJ a b a.length) .ret (.exit 0) (by simp) (by simp) (fun j=>decide (a.getD j []≠b.getD j [])) (List.range a.length)
   (fun i x hx hp=>by
    have hi:i<a.length:=by have:=aT hx;simpa using this
    obtain ⟨y,z,hy,hz,ly,lz⟩:=eqx i hi;obtain ⟨a,b,c,d,e,f,rfl⟩:=len6 ly;obtain ⟨a',b',c',d',e',f',rfl⟩:=len6 lz;have hxi:x=i:=by rw [mQ hi] at hx;exact (Option.some.inj hx).symm
    subst hxi;have he:=of_decide_eq_false hp;simp only [kQ5,hy,hz,Option.getD_some,ne_eq,Classical.not_not] at he
    cases he;exact aZu (by omega) hy ha hz hb ⟨rfl,rfl⟩ (by simp [kD,vB]) (aO (by omega)) rfl)
   (fun i x hx hp=>by
    have hi:i<a.length:=by have:=aT hx;simpa using this
    obtain ⟨y,z,hy,hz,ly,lz⟩:=eqx i hi;obtain ⟨a,b,c,d,e,f,rfl⟩:=len6 ly;obtain ⟨a',b',c',d',e',f',rfl⟩:=len6 lz;have hxi:x=i:=by rw [mQ hi] at hx;exact (Option.some.inj hx).symm
    subst hxi;have he:=of_decide_eq_true hp;simp only [kQ5,hy,hz,Option.getD_some] at he
    exact aZt (by omega) hy ha hz hb ⟨rfl,rfl⟩ (by
     rw [Bool.eq_false_iff];intro h;simp [kD,vB] at h
     exact he (by simp [h])))
   (by rw [aHf];exact aZv (by omega)) with ⟨i,x,h1,h2,h3,h4⟩ | ⟨h1,h2,h3⟩
  ·have hi:i<a.length:=by have:=aT h1;simpa using this
   have hxi:x=i:=by rw [mQ hi] at h1;exact (Option.some.inj h1).symm
   have he:=of_decide_eq_true h3;rw [decide_eq_false (fun e=>he (by rw [e]))]
   exact bSz (by omega) h4
  ·have hall:∀ i,i<a.length→a.getD i []=b.getD i []:=fun i hi=>by
    have:=List.any_eq_false.1 h2 i (sR.2 hi);simpa using this
   have e:a=b:=by
    apply List.ext_getElem hlen;intro i h1 h2;have:=hall i h1;simpa [kQ5,kQ0 h1,kQ0 h2] using this
   rw [decide_eq_true e];exact bSy (by omega) h3
 ·rw [decide_eq_false (fun e=>hlen (by rw [e]))]
  exact bSx (by omega)
end
section
variable {dl:Int}{sk dc:Lqq}

noncomputable abbrev aLf:Code:=sub (cd Tryz.f30) [1,1,0,1,0,0]
noncomputable abbrev aLg:Code:=sub (cd Tryz.f30) [1,1,1,0,1,0,0]
theorem bSl(h0:uni 2 sk)(h1:sk.length≤1000)(h2:uni 6 dc)(h3:dc.length≤1000){base:Nat}:FV Tp 27 [(.p (.agg (bB dl sk dc)))] base (.p (.agg (bB dl sk dc))) []:=by
 exact FV.frz (FMM.fin (k:=0) (g:=⟨[],[],[2,10],[]⟩) rfl Tryz.func27 rfl (o:=[.c (.own 2) [(2,(.row 31 sk.length (sk.flatten.map aA)))],.c (.own 10) [(10,(.row 44 dc.length (dc.flatten.map aA)))]]) (l:=[_,_]) (by kernel_rfl) (gc (fk 10 (bSt dc h2 h3) rfl) (gc (fk 2 (bSr sk h0 h1) rfl) gn))) (by kernel_rfl)
theorem bSm{r0:Int}(h0:uni 2 sk)(h1:uni 6 dc)(h2:(dC dl sk dc)≠0)(er0:r0=(dC dl sk dc)){base:Nat}:FV Tp 45 [(.p (.agg (bB dl sk dc)))] base (.tup [(.p (.agg [(aA 0),bI,bI])),(pI r0)]) []:=by
 subst er0;exact FV.frz (FMM.fin (k:=0) (g:=⟨[],[],[],[]⟩) rfl Tryz.func45 rfl (o:=[.c (pI (dC dl sk dc)) [],bT]) (l:=[_,_]) (by kernel_rfl) (gc (iD h2) (gc (fk 2 (bGr dl sk dc h0 h1) rfl) gn))) (by kernel_rfl)
theorem bSn(h0:uni 2 sk)(h1:uni 6 dc)(h2:(dC dl sk dc)=0)(h3:0≤(sk.length:Int)∧(sk.length:Int)≤(sk.length:Int)∧(sk.length:Int)≤1000000)(h4:0≤(dc.length:Int)∧(dc.length:Int)≤(dc.length:Int)∧(dc.length:Int)≤1000000)(h5:(aK sk 0).Nodup)(h6:sk.length≤1000)(h7:(aK dc 0).Nodup)(h8:dc.length≤1000){base:Nat}:FV Tp 45 [(.p (.agg (bB dl sk dc)))] base (.tup [(.p (.agg (bB dl (aB sk) (aB dc)))),(pI 0)]) []:=by
 exact FV.frz (FMM.fin (k:=0) (g:=⟨[],[],[3,5],[]⟩) rfl Tryz.func45 rfl (o:=[.c (pI (dC dl sk dc)) [],bF,.c (.tup []) [(3,(.row 31 ((aB sk).length) ((aB sk).flatten.map aA)))],.c (.tup []) [(5,(.row 44 ((aB dc).length) ((aB dc).flatten.map aA)))]]) (l:=[FC Tp 117 [(.own 5),(.fn 118 [] [])] [(5,(.row 44 dc.length (dc.flatten.map aA)))] 7 (.tup []) [(5,(.row 44 ((aB dc).length) ((aB dc).flatten.map aA)))],FC Tp 114 [(.own 3),(.fn 115 [] [])] [(3,(.row 31 sk.length (sk.flatten.map aA)))] 7 (.tup []) [(3,(.row 31 ((aB sk).length) ((aB sk).flatten.map aA)))],(dc.flatten.map aA).length=dc.length*6∧dc.length=dc.length,(sk.flatten.map aA).length=sk.length*2∧sk.length=sk.length,_,_,_,_]) (by kernel_rfl) (gc (FMM.fc (ids:=[5]) (aZy dc h1 h7 h8) (by kernel_rfl)) (gc (FMM.fc (ids:=[3]) (aZx sk h0 h5 h6) (by kernel_rfl)) (gc ⟨rI h1,rfl⟩ (gc ⟨rI h0,rfl⟩ (gc h4 (gc h3 (gc (cT h2) (gc (fk 2 (bGr dl sk dc h0 h1) rfl) gn))))))))) (by kernel_rfl)
theorem bLc(dl:Int)(sk dc:Lqq)(us:uni 2 sk)(ud:uni 6 dc)(h:dC dl sk dc≠0){base:Nat}:FV Tp 45 [.p (.agg (bB dl sk dc))] base (.tup [.p (.agg [aA 0,bI,bI]),.p (aA (dC dl sk dc))]) []:=bSm us ud h rfl
theorem bSo(dl:Int)(sk dc:Lqq)(h:cM dl sk dc){base:Nat}:FV Tp 45 [.p (.agg (bB dl sk dc))] base (.tup [.p (.agg (bB dl (aB sk) (aB dc))),.p (aA 0)]) []:=by
 have h1:=h.len;have h2:=h.len2;exact bSn h.us h.ud ((zM h.us h.ud).2 h) (by omega) (by omega) h.ns (by omega) h.nd (by omega)
theorem sK{l:Lqq}{x:List Int}:(l.flatten.map aA)++(x.map aA)=((l++[x]).flatten.map aA):=by simp
def mS(dl:Int)(sk:Lqq)(dc:Lqq)(i:Nat)(on:Nat)(oc:List PV):St:=⟨fr 52 [(1,(.ptr 0 0)),(2,(.ptr 1 0)),(3,(.ptr 2 0)),(12,(.p (fS sk))),(13,(pI (sk.length:Int))),(14,(pI (i:Int)))],[some (.box 26 [(pI dl),(.p (fS sk)),(.p (fS dc))]),some (.box 61 [(pI 0),(.p bI),(.p bI)]),some (.box 61 [(pI dl),(.own 3),(.p bI)]),some (.row 73 on oc)]⟩
def mT(dl:Int)(dc:Lqq)(o'1:Lqq)(j:Nat)(qn:Nat)(qc:List PV):St:=⟨fr 52 [(2,(.ptr 0 0)),(3,(.ptr 1 0)),(26,(.p (fS dc))),(27,(pI (dc.length:Int))),(28,(pI (j:Int)))],[some (.box 61 [(pI 0),(.p bI),(.p bI)]),some (.box 61 [(pI dl),(.own 2),(.own 3)]),some (.row 73 o'1.length (o'1.flatten.map aA)),some (.row 119 qn qc)]⟩
theorem bSp{i'0:Nat}{o'1:Lqq}{j'2:Nat}{q'3:Lqq}(hl0:aE Tp 0 aLf (mS dl sk dc 0 0 []) (.exit 0) (mS dl sk dc i'0 o'1.length (o'1.flatten.map aA)))(hl1:aE Tp 0 aLg (mT dl dc o'1 0 0 []) (.exit 2) (mT dl dc o'1 j'2 q'3.length (q'3.flatten.map aA))){base:Nat}:FV Tp 30 [(.p (.agg (bB dl sk dc)))] base (.p (.agg (bB dl o'1 q'3))) []:=by
 exact FV.frz (FMM.fin (k:=0) (g:=⟨[],[],[2,3],[]⟩) rfl Tryz.func30 rfl (o:=[.k 8 ⟨(rng [(0,1),(4,3),(8,4),(15,10)]),[0,1,2,3],[],[(102001,73)]⟩ (.exit 0) (mS dl sk dc i'0 o'1.length (o'1.flatten.map aA)),.k 4 ⟨(rng [(0,2),(4,22),(29,22)]),[1,2,3,4],[],[(102002,119)]⟩ (.exit 2) (mT dl dc o'1 j'2 q'3.length (q'3.flatten.map aA))]) (l:=[_,_]) (by kernel_rfl) (gc hl1.code (gc hl0.code gn))) (by kernel_rfl)
theorem aZm{i:Nat}{o:Lqq}{y100 y101:Int}{i':Nat}{o':Lqq}(h0:(i:Int)<(sk.length:Int))(h1:sk[i]? = some [y100,y101])(h2:uni 2 sk)(h3:[(aA y100),(aA y101)].length=1*2∧o.length+1≤1000000)(h4:inR (((i+1):Nat):Int))(ei':i'=(i+1))(eo'n:o'.length=(o.length+1))(eo'c:o'.flatten.map aA=((o.flatten.map aA)++[(aA y100),(aA y101)])):aC Tp 0 aLf (mS dl sk dc i o.length (o.flatten.map aA)) .normal (mS dl sk dc i' o'.length (o'.flatten.map aA)):=by
 subst ei';have raw:aC Tp 0 aLf (mS dl sk dc i o.length (o.flatten.map aA)) .normal (mS dl sk dc (i+1) (o.length+1) ((o.flatten.map aA)++[(aA y100),(aA y101)])):=aC.fin (g:=⟨(rng [(0,1),(4,3),(8,4),(15,10)]),[0,1,2,6],[],[]⟩) (o:=[bT,.x (.agg [(aA y100),(aA y101)])]) (l:=[_,_,[(aA y100),(aA y101)].length=2,_,_,0≤(i:Int)∧(i:Int)<(sk.length:Int)∧(i*2)<(sk.flatten.map aA).length,_]) (by kernel_rfl) (gc h4 (gc h3 (gc (by first | decide | simp) (gc (aL (i:=i) h2 h1) (gc (aW (i:=i) h2 h1) (gc (aV (k:=2) (i:=(i:Int)) (by decide) h2 (kQ1 _) h1) (gc (aQ h0) gn)))))))
 exact raw.cast (by rw [eo'n,eo'c])
theorem aZn{i:Nat}{o:Lqq}(h0:(sk.length:Int)≤(i:Int)):aC Tp 0 aLf (mS dl sk dc i o.length (o.flatten.map aA)) (.exit 0) (mS dl sk dc i o.length (o.flatten.map aA)):=by
 exact aC.fin (g:=⟨(rng [(0,1),(4,3),(8,4),(15,10)]),[0,1,2,3],[],[]⟩) (o:=[bF]) (l:=[_]) (by kernel_rfl) (gc (aR h0) gn)
theorem aZo{dl:Int}{dc o'1:Lqq}{j:Nat}{q:Lqq}{y200 y201 y202 y203 y204 y205:Int}{j':Nat}{q':Lqq}(h0:(j:Int)<(dc.length:Int))(h1:dc[j]? = some [y200,y201,y202,y203,y204,y205])(h2:uni 6 dc)(h3:[(aA y200),(aA y201),(aA y202),(aA y203),(aA y204),(aA y205)].length=1*6∧q.length+1≤1000000)(h4:inR (((j+1):Nat):Int))(ej':j'=(j+1))(eq'n:q'.length=(q.length+1))(eq'c:q'.flatten.map aA=((q.flatten.map aA)++[(aA y200),(aA y201),(aA y202),(aA y203),(aA y204),(aA y205)])):aC Tp 0 aLg (mT dl dc o'1 j q.length (q.flatten.map aA)) .normal (mT dl dc o'1 j' q'.length (q'.flatten.map aA)):=by
 subst ej';have raw:aC Tp 0 aLg (mT dl dc o'1 j q.length (q.flatten.map aA)) .normal (mT dl dc o'1 (j+1) (q.length+1) ((q.flatten.map aA)++[(aA y200),(aA y201),(aA y202),(aA y203),(aA y204),(aA y205)])):=aC.fin (g:=⟨(rng [(0,2),(4,22),(29,22)]),[0,1,2,6],[],[]⟩) (o:=[bT,.x (dcE y200 y201 y202 y203 y204 y205)]) (l:=[_,_,[(aA y200),(aA y201),(aA y202),(aA y203),(aA y204),(aA y205)].length=6,_,_,0≤(j:Int)∧(j:Int)<(dc.length:Int)∧(j*6)<(dc.flatten.map aA).length,_]) (by kernel_rfl) (gc h4 (gc h3 (gc (by first | decide | simp) (gc (aL (i:=j) h2 h1) (gc (aW (i:=j) h2 h1) (gc (aV (k:=6) (i:=(j:Int)) (by decide) h2 (kQ1 _) h1) (gc (aQ h0) gn)))))))
 exact raw.cast (by rw [eq'n,eq'c])
theorem aZp{dl:Int}{dc o'1:Lqq}{j:Nat}{q:Lqq}(h0:(dc.length:Int)≤(j:Int)):aC Tp 0 aLg (mT dl dc o'1 j q.length (q.flatten.map aA)) (.exit 2) (mT dl dc o'1 j q.length (q.flatten.map aA)):=by
 exact aC.fin (g:=⟨(rng [(0,2),(4,22),(29,22)]),[0,1,2,3],[],[]⟩) (o:=[bF]) (l:=[_]) (by kernel_rfl) (gc (aR h0) gn)
theorem aHp(dl:Int)(sk dc:Lqq)(us:uni 2 sk)(ud:uni 6 dc)(hs:sk.length≤1000)(hd:dc.length≤1000){base:Nat}:FV Tp 30 [.p (.agg (bB dl sk dc))] base (.p (.agg (bB dl sk dc))) []:=by
 have L0:=aE.count (P:=Tp) (k:=0) (b:=aLf) (e := .exit 0) (R:=mS dl sk dc sk.length sk.length (sk.flatten.map aA)) sk.length (fun i=>mS dl sk dc i (sk.take i).length ((sk.take i).flatten.map aA))
  (fun i hi=>by
   obtain ⟨a,b,hx⟩:=at2 us hi;have et:sk.take (i+1)=sk.take i++[[a,b]]:=by rw [List.take_add_one,hx];rfl
   exact aZm (o:=sk.take i) (o':=sk.take (i+1)) (by omega) hx us ⟨rfl,by simp;omega⟩ (aO (by omega)) rfl (by simp;omega) (by rw [et];exact (sK (l:=sk.take i) (x:=[a,b])).symm))
  (by rw [List.take_length];exact aZn (by omega)) (by simp)
 have L1:=aE.count (P:=Tp) (k:=0) (b:=aLg) (e := .exit 2) (R:=mT dl dc sk dc.length dc.length (dc.flatten.map aA)) dc.length (fun i=>mT dl dc sk i (dc.take i).length ((dc.take i).flatten.map aA))
  (fun i hi=>by
   obtain ⟨a,b,c,d,e,f,hx⟩:=at6 ud hi;have et:dc.take (i+1)=dc.take i++[[a,b,c,d,e,f]]:=by rw [List.take_add_one,hx];rfl
   exact aZo (q:=dc.take i) (q':=dc.take (i+1)) (by omega) hx ud ⟨rfl,by simp;omega⟩ (aO (by omega)) rfl (by simp;omega) (by rw [et];exact (sK (l:=dc.take i) (x:=[a,b,c,d,e,f])).symm))
  (by rw [List.take_length];exact aZp (by omega)) (by simp)
 exact bSp L0 L1
end
section

end
section
variable {dl:Int}{sk dc:Lqq}

noncomputable abbrev lU:Code:=sub (cd Tryz.f31) [1,1,1,1,0,1,0,0]
noncomputable abbrev rH:Code:=sub (cd Tryz.f31) [1,1,1,0,1,0,0]
noncomputable abbrev yJ:Code:=sub (cd Tryz.f31) [1,1,1,1,1,0,1,0,0]
noncomputable abbrev yK:Code:=sub (cd Tryz.f31) [1,1,1,1,1,1,1,0,1,0,0]
noncomputable abbrev aBx:Code:=sub (cd Tryz.f31) [1,1,1,1,1,1,0,1,0,0]
noncomputable abbrev aBy:Code:=sub (cd Tryz.f31) [1,1,1,1,1,1,1,1,0,1,0,0]
noncomputable abbrev aFd:Code:=sub (cd Tryz.f92) [1,0,1,0,0]
noncomputable abbrev aFe:Code:=sub (cd Tryz.f101) [1,0,1,0,0]
noncomputable abbrev aLd:Code:=sub (cd Tryz.f31) [1,1,1,1,1,0,1,0,0,1,0,0,1,0,0]
noncomputable abbrev aLe:Code:=sub (cd Tryz.f31) [1,1,1,1,1,1,0,1,0,0,1,0,0,1,0,0]
theorem bKz{n a b:Int}(h0:n<a){base:Nat}:FV Tp 91 [(pI n),(pI a),(pI b)] base (pB true) []:=by
 exact FV.fin Tryz.func91 rfl (o:=[bT,bT,bT,bT]) (l:=[_,_,_,_]) (by kernel_rfl) (g4c (aQ h0) gn)
theorem bLa{n a b:Int}{r0:Bool}(h0:a≤n)(er0:r0=(decide (n > b))){base:Nat}:FV Tp 91 [(pI n),(pI a),(pI b)] base (pB r0) []:=by
 subst er0;exact FV.fin Tryz.func91 rfl (o:=[bF,bF,bF,bF]) (l:=[_,_,_,_]) (by kernel_rfl) (g4c (aR h0) gn)
def bZ(n a b:Int):Bool := !within n a b
theorem bO(n a b:Int){base:Nat}:FV Tp 91 [.p (aA n),.p (aA a),.p (aA b)] base (pB (bZ n a b)) []:=by
 by_cases h:n<a
 ·rw [show bZ n a b=true by unfold bZ within;simp;omega];exact bKz h
 ·exact bLa (by omega) (by rw [Bool.eq_iff_iff];unfold bZ within;simp;omega)
def jG(dl:Int)(sk:Lqq)(dc:Lqq)(v:Int)(i:Nat):St:=⟨fr 22 [(1,(pI v)),(2,(.ptr 0 0)),(5,(pI (i:Int)))],[some (.box 61 [(pI dl),(.p (fS sk)),(.p (fS dc))])]⟩
theorem bRw{v:Int}{i'0:Nat}(hl0:aE Tp 0 aFd (jG dl sk dc v 0) (.exit 0) (jG dl sk dc v i'0)){base:Nat}:FV Tp 92 [(.p (.agg (bB dl sk dc))),(pI v)] base (pI (-1:Int)) []:=by
 exact FV.fin Tryz.func92 rfl (o:=[.k 6 ⟨(rng [(0,1),(3,2),(6,16)]),[0],[],[]⟩ (.exit 0) (jG dl sk dc v i'0)]) (l:=[_]) (by kernel_rfl) (gc hl0.code gn)
theorem bRx{v:Int}{i'0:Nat}(hl0:aE Tp 0 aFd (jG dl sk dc v 0) .ret (bG (jG dl sk dc v i'0) [(4,(pI (i'0:Int)))])){base:Nat}:FV Tp 92 [(.p (.agg (bB dl sk dc))),(pI v)] base (pI (i'0:Int)) []:=by
 exact FV.fin Tryz.func92 rfl (o:=[.k 6 ⟨(rng [(0,1),(3,2),(6,16)]),[0],[],[]⟩ .ret (bG (jG dl sk dc v i'0) [(4,(pI (i'0:Int)))])]) (l:=[_]) (by kernel_rfl) (gc hl0.code gn)
theorem aXw{v:Int}{i:Nat}{y100 y101:Int}(h0:(i:Int)<(sk.length:Int))(h1:sk[i]? = some [y100,y101])(h2:uni 2 sk)(h3:y100=v):aC Tp 0 aFd (jG dl sk dc v i) .ret (bG (jG dl sk dc v i) [(4,(pI (i:Int)))]):=by
 exact aC.fin (g:=⟨(rng [(0,1),(3,1),(6,16)]),[0],[],[]⟩) (o:=[bT,.x (aA y100),bT]) (l:=[_,(sk.flatten.map aA)[(i*2)]? = some (aA y100),0≤(i:Int)∧(i:Int)<(sk.length:Int)∧(i*2)<(sk.flatten.map aA).length,_]) (by kernel_rfl) (gc (cC h3) (gc (cL (i:=i) (f:=0) h2 h1 rfl) (gc (aV (k:=2) (i:=(i:Int)) (by decide) h2 (kQ1 _) h1) (gc (aQ h0) gn))))
theorem aXx{v:Int}{i:Nat}{y100 y101:Int}{i':Nat}(h0:(i:Int)<(sk.length:Int))(h1:sk[i]? = some [y100,y101])(h2:uni 2 sk)(h3:y100≠v)(h4:inR (((i+1):Nat):Int))(ei':i'=(i+1)):aC Tp 0 aFd (jG dl sk dc v i) .normal (jG dl sk dc v i'):=by
 subst ei';exact aC.fin (g:=⟨(rng [(0,1),(3,2),(6,16)]),[0],[],[]⟩) (o:=[bT,.x (aA y100),bF]) (l:=[_,_,(sk.flatten.map aA)[(i*2)]? = some (aA y100),0≤(i:Int)∧(i:Int)<(sk.length:Int)∧(i*2)<(sk.flatten.map aA).length,_]) (by kernel_rfl) (gc h4 (gc (bE h3) (gc (cL (i:=i) (f:=0) h2 h1 rfl) (gc (aV (k:=2) (i:=(i:Int)) (by decide) h2 (kQ1 _) h1) (gc (aQ h0) gn)))))
theorem aXy{v:Int}{i:Nat}(h0:(sk.length:Int)≤(i:Int)):aC Tp 0 aFd (jG dl sk dc v i) (.exit 0) (jG dl sk dc v i):=by
 exact aC.fin (g:=⟨(rng [(0,1),(3,2),(6,16)]),[0],[],[]⟩) (o:=[bF]) (l:=[_]) (by kernel_rfl) (gc (aR h0) gn)
theorem aPj(dl:Int)(sk dc:Lqq)(v:Int)(hu:uni 2 sk)(hl:sk.length≤1000){base:Nat}:FV Tp 92 [.p (.agg (bB dl sk dc)),.p (aA v)] base (pI (bD (fun x=>decide (x.getD 0 0=v)) sk)) []:=by
 rcases aE.find (P:=Tp) (k:=0) (b:=aFd) (fun i=>jG dl sk dc v i) (fun i _=>bG (jG dl sk dc v i) [(4,.p (aA (i:Int)))]) (jG dl sk dc v sk.length) .ret (.exit 0) (by simp) (by simp) (fun x:List Int=>decide (x.getD 0 0=v)) sk
  (fun i x hx hp=>by
   obtain ⟨a,b,rfl⟩:=len2 (hu _ (kQ4 hx));exact aXx (by have:=aT hx;omega) hx hu (by simpa using hp) (aO (by have:=aT hx;omega)) rfl)
  (fun i x hx hp=>by
   obtain ⟨a,b,rfl⟩:=len2 (hu _ (kQ4 hx));exact aXw (by have:=aT hx;omega) hx hu (by simpa using hp))
  (aXy (i:=sk.length) (by omega)) with ⟨i,x,h1,h2,h3,h4⟩ | ⟨h1,h2,h3⟩
 ·rw [eL h2];exact bRx h4
 ·rw [gL h1];exact bRw h3
def jH(dl:Int)(sk:Lqq)(dc:Lqq)(v:Int)(i:Nat):St:=⟨fr 22 [(1,(pI v)),(2,(.ptr 0 0)),(5,(pI (i:Int)))],[some (.box 61 [(pI dl),(.p (fS sk)),(.p (fS dc))])]⟩
theorem bRy{v:Int}{i'0:Nat}(hl0:aE Tp 0 aFe (jH dl sk dc v 0) (.exit 0) (jH dl sk dc v i'0)){base:Nat}:FV Tp 101 [(.p (.agg (bB dl sk dc))),(pI v)] base (pI (-1:Int)) []:=by
 exact FV.fin Tryz.func101 rfl (o:=[.k 6 ⟨(rng [(0,1),(3,2),(6,16)]),[0],[],[]⟩ (.exit 0) (jH dl sk dc v i'0)]) (l:=[_]) (by kernel_rfl) (gc hl0.code gn)
theorem bRz{v:Int}{i'0:Nat}(hl0:aE Tp 0 aFe (jH dl sk dc v 0) .ret (bG (jH dl sk dc v i'0) [(4,(pI (i'0:Int)))])){base:Nat}:FV Tp 101 [(.p (.agg (bB dl sk dc))),(pI v)] base (pI (i'0:Int)) []:=by
 exact FV.fin Tryz.func101 rfl (o:=[.k 6 ⟨(rng [(0,1),(3,2),(6,16)]),[0],[],[]⟩ .ret (bG (jH dl sk dc v i'0) [(4,(pI (i'0:Int)))])]) (l:=[_]) (by kernel_rfl) (gc hl0.code gn)
theorem aXz{v:Int}{i:Nat}{y100 y101 y102 y103 y104 y105:Int}(h0:(i:Int)<(dc.length:Int))(h1:dc[i]? = some [y100,y101,y102,y103,y104,y105])(h2:uni 6 dc)(h3:y100=v):aC Tp 0 aFe (jH dl sk dc v i) .ret (bG (jH dl sk dc v i) [(4,(pI (i:Int)))]):=by
 exact aC.fin (g:=⟨(rng [(0,1),(3,1),(6,16)]),[0],[],[]⟩) (o:=[bT,.x (aA y100),bT]) (l:=[_,(dc.flatten.map aA)[(i*6)]? = some (aA y100),0≤(i:Int)∧(i:Int)<(dc.length:Int)∧(i*6)<(dc.flatten.map aA).length,_]) (by kernel_rfl) (gc (cC h3) (gc (cL (i:=i) (f:=0) h2 h1 rfl) (gc (aV (k:=6) (i:=(i:Int)) (by decide) h2 (kQ1 _) h1) (gc (aQ h0) gn))))
theorem aYa{v:Int}{i:Nat}{y100 y101 y102 y103 y104 y105:Int}{i':Nat}(h0:(i:Int)<(dc.length:Int))(h1:dc[i]? = some [y100,y101,y102,y103,y104,y105])(h2:uni 6 dc)(h3:y100≠v)(h4:inR (((i+1):Nat):Int))(ei':i'=(i+1)):aC Tp 0 aFe (jH dl sk dc v i) .normal (jH dl sk dc v i'):=by
 subst ei';exact aC.fin (g:=⟨(rng [(0,1),(3,2),(6,16)]),[0],[],[]⟩) (o:=[bT,.x (aA y100),bF]) (l:=[_,_,(dc.flatten.map aA)[(i*6)]? = some (aA y100),0≤(i:Int)∧(i:Int)<(dc.length:Int)∧(i*6)<(dc.flatten.map aA).length,_]) (by kernel_rfl) (gc h4 (gc (bE h3) (gc (cL (i:=i) (f:=0) h2 h1 rfl) (gc (aV (k:=6) (i:=(i:Int)) (by decide) h2 (kQ1 _) h1) (gc (aQ h0) gn)))))
theorem aYb{v:Int}{i:Nat}(h0:(dc.length:Int)≤(i:Int)):aC Tp 0 aFe (jH dl sk dc v i) (.exit 0) (jH dl sk dc v i):=by
 exact aC.fin (g:=⟨(rng [(0,1),(3,2),(6,16)]),[0],[],[]⟩) (o:=[bF]) (l:=[_]) (by kernel_rfl) (gc (aR h0) gn)
theorem bSa(dl:Int)(sk dc:Lqq)(v:Int)(hu:uni 6 dc)(hl:dc.length≤1000){base:Nat}:FV Tp 101 [.p (.agg (bB dl sk dc)),.p (aA v)] base (pI (bD (fun x=>decide (x.getD 0 0=v)) dc)) []:=by
 rcases aE.find (P:=Tp) (k:=0) (b:=aFe) (fun i=>jH dl sk dc v i) (fun i _=>bG (jH dl sk dc v i) [(4,.p (aA (i:Int)))]) (jH dl sk dc v dc.length) .ret (.exit 0) (by simp) (by simp) (fun x:List Int=>decide (x.getD 0 0=v)) dc
  (fun i x hx hp=>by
   obtain ⟨a,b,c,d,e,g,rfl⟩:=len6 (hu _ (kQ4 hx));exact aYa (by have:=aT hx;omega) hx hu (by simpa using hp) (aO (by have:=aT hx;omega)) rfl)
  (fun i x hx hp=>by
   obtain ⟨a,b,c,d,e,g,rfl⟩:=len6 (hu _ (kQ4 hx));exact aXz (by have:=aT hx;omega) hx hu (by simpa using hp))
  (aYb (i:=dc.length) (by omega)) with ⟨i,x,h1,h2,h3,h4⟩ | ⟨h1,h2,h3⟩
 ·rw [eL h2];exact bRz h4
 ·rw [gL h1];exact bRy h3
def dA(dl:Int)(sk:Lqq)(dc:Lqq)(i:Nat):St:=⟨fr 219 [(1,(.ptr 0 0)),(3,(pI (i:Int)))],[some (.box 61 [(pI dl),(.p (fS sk)),(.p (fS dc))])]⟩
def cJ(dl:Int)(sk:Lqq)(dc:Lqq)(j:Nat):St:=⟨fr 219 [(1,(.ptr 0 0)),(4,(pI (j:Int)))],[some (.box 61 [(pI dl),(.p (fS sk)),(.p (fS dc))])]⟩
def eA(dl:Int)(sk:Lqq)(dc:Lqq)(a:Nat):St:=⟨fr 219 [(1,(.ptr 0 0)),(6,(pI (a:Int)))],[some (.box 61 [(pI dl),(.p (fS sk)),(.p (fS dc))])]⟩
def eO(dl:Int)(sk:Lqq)(dc:Lqq)(c:Nat):St:=⟨fr 219 [(1,(.ptr 0 0)),(8,(pI (c:Int)))],[some (.box 61 [(pI dl),(.p (fS sk)),(.p (fS dc))])]⟩
def eI(dl:Int)(sk:Lqq)(dc:Lqq)(e:Nat):St:=⟨fr 219 [(1,(.ptr 0 0)),(10,(pI (e:Int)))],[some (.box 61 [(pI dl),(.p (fS sk)),(.p (fS dc))])]⟩
def fA(dl:Int)(sk:Lqq)(dc:Lqq)(f:Nat):St:=⟨fr 219 [(1,(.ptr 0 0)),(12,(pI (f:Int)))],[some (.box 61 [(pI dl),(.p (fS sk)),(.p (fS dc))])]⟩
theorem bSb(h0:(sk.length:Int)<1){base:Nat}:FV Tp 31 [(.p (.agg (bB dl sk dc)))] base (pI 2) []:=by
 exact FV.fin Tryz.func31 rfl (o:=[bT,bT,bT,bT,bT]) (l:=[_,_,_,_,_]) (by kernel_rfl) (g5c (aQ h0) gn)
theorem bSc(h0:(1:Int)≤(sk.length:Int))(h1:(30:Int)<(sk.length:Int)){base:Nat}:FV Tp 31 [(.p (.agg (bB dl sk dc)))] base (pI 2) []:=by
 exact FV.fin Tryz.func31 rfl (o:=[bF,bF,bF,bF,bF,bT,bT,bT,bT,bT]) (l:=[_,_,_,_,_,_,_,_,_,_]) (by kernel_rfl) (g5c (aQ h1) (g5c (aR h0) gn))
theorem bSd(h0:(1:Int)≤(sk.length:Int))(h1:(sk.length:Int)≤30)(h2:(40:Int)<(dc.length:Int)){base:Nat}:FV Tp 31 [(.p (.agg (bB dl sk dc)))] base (pI 2) []:=by
 exact FV.fin Tryz.func31 rfl (o:=[bF,bF,bF,bF,bF,bF,bF,bF,bF,bF,bT]) (l:=[_,_,_,_,_,_,_,_,_,_,_]) (by kernel_rfl) (gc (aQ h2) (g5c (aR h1) (g5c (aR h0) gn)))
theorem bSe(h0:(1:Int)≤(sk.length:Int))(h1:(sk.length:Int)≤30)(h2:(dc.length:Int)≤40)(h3:(bZ dl (0:Int) (10000:Int))=true){base:Nat}:FV Tp 31 [(.p (.agg (bB dl sk dc)))] base (pI 3) []:=by
 exact FV.fin Tryz.func31 rfl (o:=[bF,bF,bF,bF,bF,bF,bF,bF,bF,bF,bF,.c (pB (bZ dl (0:Int) (10000:Int))) [],bT]) (l:=[_,_,_,_,_,_,_,_,_,_,_,_,_]) (by kernel_rfl) (gc h3 (gc (fk 1 (bO dl (0:Int) (10000:Int)) rfl) (gc (aR h2) (g5c (aR h1) (g5c (aR h0) gn)))))
theorem bSf{i'0 j'1 a'2 c'3 e'4 f'5:Nat}(h0:(1:Int)≤(sk.length:Int))(h1:(sk.length:Int)≤30)(h2:(dc.length:Int)≤40)(h3:(bZ dl (0:Int) (10000:Int))=false)(hl4:aE Tp 0 rH (dA dl sk dc 0) (.exit 0) (dA dl sk dc i'0))(hl5:aE Tp 0 lU (cJ dl sk dc 0) (.exit 2) (cJ dl sk dc j'1))(hl6:aE Tp 0 yJ (eA dl sk dc 0) (.exit 4) (eA dl sk dc a'2))(hl7:aE Tp 0 aBx (eO dl sk dc 0) (.exit 8) (eO dl sk dc c'3))(hl8:aE Tp 0 yK (eI dl sk dc 0) (.exit 12) (eI dl sk dc e'4))(hl9:aE Tp 0 aBy (fA dl sk dc 0) (.exit 14) (fA dl sk dc f'5)){base:Nat}:FV Tp 31 [(.p (.agg (bB dl sk dc)))] base (pI 0) []:=by
 exact FV.fin Tryz.func31 rfl (o:=[bF,bF,bF,bF,bF,bF,bF,bF,bF,bF,bF,.c (pB (bZ dl (0:Int) (10000:Int))) [],bF,.k 4 ⟨(rng [(0,1),(2,1),(14,42)]),[0],[],[]⟩ (.exit 0) (dA dl sk dc i'0),.k 4 ⟨(rng [(0,1),(2,2),(5,1),(14,90)]),[0],[],[]⟩ (.exit 2) (cJ dl sk dc j'1),.k 4 ⟨(rng [(0,1),(2,4),(7,1),(14,115)]),[0],[],[]⟩ (.exit 4) (eA dl sk dc a'2),.k 4 ⟨(rng [(0,1),(2,6),(9,1),(14,140)]),[0],[],[]⟩ (.exit 8) (eO dl sk dc c'3),.k 4 ⟨(rng [(0,1),(2,8),(11,1),(14,172)]),[0],[],[]⟩ (.exit 12) (eI dl sk dc e'4),.k 4 ⟨(rng [(0,1),(2,10),(13,206)]),[0],[],[]⟩ (.exit 14) (fA dl sk dc f'5)]) (l:=[_,_,_,_,_,_,_,_,_,_,_,_,_,_,_,_,_,_,_]) (by kernel_rfl) (gc hl9.code (gc hl8.code (gc hl7.code (gc hl6.code (gc hl5.code (gc hl4.code (gc h3 (gc (fk 1 (bO dl (0:Int) (10000:Int)) rfl) (gc (aR h2) (g5c (aR h1) (g5c (aR h0) gn)))))))))))
theorem bSg{i'0 j'1 a'2 c'3 e'4 f'5:Nat}(h0:(1:Int)≤(sk.length:Int))(h1:(sk.length:Int)≤30)(h2:(dc.length:Int)≤40)(h3:(bZ dl (0:Int) (10000:Int))=false)(hl4:aE Tp 0 rH (dA dl sk dc 0) (.exit 0) (dA dl sk dc i'0))(hl5:aE Tp 0 lU (cJ dl sk dc 0) (.exit 2) (cJ dl sk dc j'1))(hl6:aE Tp 0 yJ (eA dl sk dc 0) (.exit 4) (eA dl sk dc a'2))(hl7:aE Tp 0 aBx (eO dl sk dc 0) (.exit 8) (eO dl sk dc c'3))(hl8:aE Tp 0 yK (eI dl sk dc 0) (.exit 12) (eI dl sk dc e'4))(hl9:aE Tp 0 aBy (fA dl sk dc 0) .ret (bG (fA dl sk dc f'5) [(2,(pI 4))])){base:Nat}:FV Tp 31 [(.p (.agg (bB dl sk dc)))] base (pI 4) []:=by
 exact FV.fin Tryz.func31 rfl (o:=[bF,bF,bF,bF,bF,bF,bF,bF,bF,bF,bF,.c (pB (bZ dl (0:Int) (10000:Int))) [],bF,.k 4 ⟨(rng [(0,1),(2,1),(14,42)]),[0],[],[]⟩ (.exit 0) (dA dl sk dc i'0),.k 4 ⟨(rng [(0,1),(2,2),(5,1),(14,90)]),[0],[],[]⟩ (.exit 2) (cJ dl sk dc j'1),.k 4 ⟨(rng [(0,1),(2,4),(7,1),(14,115)]),[0],[],[]⟩ (.exit 4) (eA dl sk dc a'2),.k 4 ⟨(rng [(0,1),(2,6),(9,1),(14,140)]),[0],[],[]⟩ (.exit 8) (eO dl sk dc c'3),.k 4 ⟨(rng [(0,1),(2,8),(11,1),(14,172)]),[0],[],[]⟩ (.exit 12) (eI dl sk dc e'4),.k 4 ⟨(rng [(0,1),(2,10),(13,206)]),[0],[],[]⟩ .ret (bG (fA dl sk dc f'5) [(2,(pI 4))])]) (l:=[_,_,_,_,_,_,_,_,_,_,_,_,_,_,_,_,_,_,_]) (by kernel_rfl) (gc hl9.code (gc hl8.code (gc hl7.code (gc hl6.code (gc hl5.code (gc hl4.code (gc h3 (gc (fk 1 (bO dl (0:Int) (10000:Int)) rfl) (gc (aR h2) (g5c (aR h1) (g5c (aR h0) gn)))))))))))
theorem bSh{i'0 j'1 a'2 c'3 e'4:Nat}(h0:(1:Int)≤(sk.length:Int))(h1:(sk.length:Int)≤30)(h2:(dc.length:Int)≤40)(h3:(bZ dl (0:Int) (10000:Int))=false)(hl4:aE Tp 0 rH (dA dl sk dc 0) (.exit 0) (dA dl sk dc i'0))(hl5:aE Tp 0 lU (cJ dl sk dc 0) (.exit 2) (cJ dl sk dc j'1))(hl6:aE Tp 0 yJ (eA dl sk dc 0) (.exit 4) (eA dl sk dc a'2))(hl7:aE Tp 0 aBx (eO dl sk dc 0) (.exit 8) (eO dl sk dc c'3))(hl8:aE Tp 0 yK (eI dl sk dc 0) .ret (bG (eI dl sk dc e'4) [(2,(pI 1))])){base:Nat}:FV Tp 31 [(.p (.agg (bB dl sk dc)))] base (pI 1) []:=by
 exact FV.fin Tryz.func31 rfl (o:=[bF,bF,bF,bF,bF,bF,bF,bF,bF,bF,bF,.c (pB (bZ dl (0:Int) (10000:Int))) [],bF,.k 4 ⟨(rng [(0,1),(2,1),(14,42)]),[0],[],[]⟩ (.exit 0) (dA dl sk dc i'0),.k 4 ⟨(rng [(0,1),(2,2),(5,1),(14,90)]),[0],[],[]⟩ (.exit 2) (cJ dl sk dc j'1),.k 4 ⟨(rng [(0,1),(2,4),(7,1),(14,115)]),[0],[],[]⟩ (.exit 4) (eA dl sk dc a'2),.k 4 ⟨(rng [(0,1),(2,6),(9,1),(14,140)]),[0],[],[]⟩ (.exit 8) (eO dl sk dc c'3),.k 4 ⟨(rng [(0,1),(2,8),(11,1),(14,172)]),[0],[],[]⟩ .ret (bG (eI dl sk dc e'4) [(2,(pI 1))])]) (l:=[_,_,_,_,_,_,_,_,_,_,_,_,_,_,_,_,_,_]) (by kernel_rfl) (gc hl8.code (gc hl7.code (gc hl6.code (gc hl5.code (gc hl4.code (gc h3 (gc (fk 1 (bO dl (0:Int) (10000:Int)) rfl) (gc (aR h2) (g5c (aR h1) (g5c (aR h0) gn))))))))))
theorem bSi{i'0 j'1 a'2 c'3:Nat}(h0:(1:Int)≤(sk.length:Int))(h1:(sk.length:Int)≤30)(h2:(dc.length:Int)≤40)(h3:(bZ dl (0:Int) (10000:Int))=false)(hl4:aE Tp 0 rH (dA dl sk dc 0) (.exit 0) (dA dl sk dc i'0))(hl5:aE Tp 0 lU (cJ dl sk dc 0) (.exit 2) (cJ dl sk dc j'1))(hl6:aE Tp 0 yJ (eA dl sk dc 0) (.exit 4) (eA dl sk dc a'2))(hl7:aE Tp 0 aBx (eO dl sk dc 0) .ret (bG (eO dl sk dc c'3) [(2,(pI 5))])){base:Nat}:FV Tp 31 [(.p (.agg (bB dl sk dc)))] base (pI 5) []:=by
 exact FV.fin Tryz.func31 rfl (o:=[bF,bF,bF,bF,bF,bF,bF,bF,bF,bF,bF,.c (pB (bZ dl (0:Int) (10000:Int))) [],bF,.k 4 ⟨(rng [(0,1),(2,1),(14,42)]),[0],[],[]⟩ (.exit 0) (dA dl sk dc i'0),.k 4 ⟨(rng [(0,1),(2,2),(5,1),(14,90)]),[0],[],[]⟩ (.exit 2) (cJ dl sk dc j'1),.k 4 ⟨(rng [(0,1),(2,4),(7,1),(14,115)]),[0],[],[]⟩ (.exit 4) (eA dl sk dc a'2),.k 4 ⟨(rng [(0,1),(2,6),(9,1),(14,140)]),[0],[],[]⟩ .ret (bG (eO dl sk dc c'3) [(2,(pI 5))])]) (l:=[_,_,_,_,_,_,_,_,_,_,_,_,_,_,_,_,_]) (by kernel_rfl) (gc hl7.code (gc hl6.code (gc hl5.code (gc hl4.code (gc h3 (gc (fk 1 (bO dl (0:Int) (10000:Int)) rfl) (gc (aR h2) (g5c (aR h1) (g5c (aR h0) gn)))))))))
theorem bSj{i'0 j'1 a'2:Nat}(h0:(1:Int)≤(sk.length:Int))(h1:(sk.length:Int)≤30)(h2:(dc.length:Int)≤40)(h3:(bZ dl (0:Int) (10000:Int))=false)(hl4:aE Tp 0 rH (dA dl sk dc 0) (.exit 0) (dA dl sk dc i'0))(hl5:aE Tp 0 lU (cJ dl sk dc 0) (.exit 2) (cJ dl sk dc j'1))(hl6:aE Tp 0 yJ (eA dl sk dc 0) .ret (bG (eA dl sk dc a'2) [(2,(pI 5))])){base:Nat}:FV Tp 31 [(.p (.agg (bB dl sk dc)))] base (pI 5) []:=by
 exact FV.fin Tryz.func31 rfl (o:=[bF,bF,bF,bF,bF,bF,bF,bF,bF,bF,bF,.c (pB (bZ dl (0:Int) (10000:Int))) [],bF,.k 4 ⟨(rng [(0,1),(2,1),(14,42)]),[0],[],[]⟩ (.exit 0) (dA dl sk dc i'0),.k 4 ⟨(rng [(0,1),(2,2),(5,1),(14,90)]),[0],[],[]⟩ (.exit 2) (cJ dl sk dc j'1),.k 4 ⟨(rng [(0,1),(2,4),(7,1),(14,115)]),[0],[],[]⟩ .ret (bG (eA dl sk dc a'2) [(2,(pI 5))])]) (l:=[_,_,_,_,_,_,_,_,_,_,_,_,_,_,_,_]) (by kernel_rfl) (gc hl6.code (gc hl5.code (gc hl4.code (gc h3 (gc (fk 1 (bO dl (0:Int) (10000:Int)) rfl) (gc (aR h2) (g5c (aR h1) (g5c (aR h0) gn))))))))
theorem bSk{i'0 j'1:Nat}(h0:(1:Int)≤(sk.length:Int))(h1:(sk.length:Int)≤30)(h2:(dc.length:Int)≤40)(h3:(bZ dl (0:Int) (10000:Int))=false)(hl4:aE Tp 0 rH (dA dl sk dc 0) (.exit 0) (dA dl sk dc i'0))(hl5:aE Tp 0 lU (cJ dl sk dc 0) .ret (bG (cJ dl sk dc j'1) [(2,(pI 3))])){base:Nat}:FV Tp 31 [(.p (.agg (bB dl sk dc)))] base (pI 3) []:=by
 exact FV.fin Tryz.func31 rfl (o:=[bF,bF,bF,bF,bF,bF,bF,bF,bF,bF,bF,.c (pB (bZ dl (0:Int) (10000:Int))) [],bF,.k 4 ⟨(rng [(0,1),(2,1),(14,42)]),[0],[],[]⟩ (.exit 0) (dA dl sk dc i'0),.k 4 ⟨(rng [(0,1),(2,2),(5,1),(14,90)]),[0],[],[]⟩ .ret (bG (cJ dl sk dc j'1) [(2,(pI 3))])]) (l:=[_,_,_,_,_,_,_,_,_,_,_,_,_,_,_]) (by kernel_rfl) (gc hl5.code (gc hl4.code (gc h3 (gc (fk 1 (bO dl (0:Int) (10000:Int)) rfl) (gc (aR h2) (g5c (aR h1) (g5c (aR h0) gn)))))))
theorem bLb{i'0:Nat}(h0:(1:Int)≤(sk.length:Int))(h1:(sk.length:Int)≤30)(h2:(dc.length:Int)≤40)(h3:(bZ dl (0:Int) (10000:Int))=false)(hl4:aE Tp 0 rH (dA dl sk dc 0) .ret (bG (dA dl sk dc i'0) [(2,(pI 3))])){base:Nat}:FV Tp 31 [(.p (.agg (bB dl sk dc)))] base (pI 3) []:=by
 exact FV.fin Tryz.func31 rfl (o:=[bF,bF,bF,bF,bF,bF,bF,bF,bF,bF,bF,.c (pB (bZ dl (0:Int) (10000:Int))) [],bF,.k 4 ⟨(rng [(0,1),(2,1),(14,42)]),[0],[],[]⟩ .ret (bG (dA dl sk dc i'0) [(2,(pI 3))])]) (l:=[_,_,_,_,_,_,_,_,_,_,_,_,_,_]) (by kernel_rfl) (gc hl4.code (gc h3 (gc (fk 1 (bO dl (0:Int) (10000:Int)) rfl) (gc (aR h2) (g5c (aR h1) (g5c (aR h0) gn))))))
theorem aYc{i:Nat}{y100 y101:Int}(h0:(i:Int)<(sk.length:Int))(h1:sk[i]? = some [y100,y101])(h2:uni 2 sk)(h3:(bZ y100 (1:Int) (999:Int))=true):aC Tp 0 rH (dA dl sk dc i) .ret (bG (dA dl sk dc i) [(2,(pI 3))]):=by
 exact aC.fin (g:=⟨(rng [(0,1),(14,42)]),[0],[],[]⟩) (o:=[bT,.x (aA y100),.c (pB (bZ y100 (1:Int) (999:Int))) [],bT,bT,bT,bT,bT,bT,bT,bT]) (l:=[_,_,_,_,_,_,_,_,_,(sk.flatten.map aA)[(i*2)]? = some (aA y100),0≤(i:Int)∧(i:Int)<(sk.length:Int)∧(i*2)<(sk.flatten.map aA).length,_]) (by kernel_rfl) (g8c h3 (gc (fk 1 (bO y100 (1:Int) (999:Int)) rfl) (gc (cL (i:=i) (f:=0) h2 h1 rfl) (gc (aV (k:=2) (i:=(i:Int)) (by decide) h2 (kQ1 _) h1) (gc (aQ h0) gn)))))
theorem aYd{i:Nat}{y100 y101:Int}(h0:(i:Int)<(sk.length:Int))(h1:sk[i]? = some [y100,y101])(h2:uni 2 sk)(h3:(bZ y100 (1:Int) (999:Int))=false)(h4:(bZ y101 (-1:Int) (360000:Int))=true):aC Tp 0 rH (dA dl sk dc i) .ret (bG (dA dl sk dc i) [(2,(pI 3))]):=by
 exact aC.fin (g:=⟨(rng [(0,1),(14,42)]),[0],[],[]⟩) (o:=[bT,.x (aA y100),.c (pB (bZ y100 (1:Int) (999:Int))) [],bF,bF,bF,bF,bF,bF,.x (aA y101),bF,.c (pB (bZ y101 (-1:Int) (360000:Int))) [],bF,bT]) (l:=[_,_,_,_,(sk.flatten.map aA)[((i*2)+1)]? = some (aA y101),_,_,0≤(i:Int)∧(i:Int)<(sk.length:Int)∧(i*2)<(sk.flatten.map aA).length,_,_,_,_,_,(sk.flatten.map aA)[(i*2)]? = some (aA y100),0≤(i:Int)∧(i:Int)<(sk.length:Int)∧(i*2)<(sk.flatten.map aA).length,_]) (by kernel_rfl) (gc h4 (gc h3 (gc (fk 1 (bO y101 (-1:Int) (360000:Int)) rfl) (gc h3 (gc (cL (i:=i) (f:=1) h2 h1 rfl) (g2c h3 (gc (aV (k:=2) (i:=(i:Int)) (by decide) h2 (kQ1 _) h1) (g4c h3 (gc (fk 1 (bO y100 (1:Int) (999:Int)) rfl) (gc (cL (i:=i) (f:=0) h2 h1 rfl) (gc (aV (k:=2) (i:=(i:Int)) (by decide) h2 (kQ1 _) h1) (gc (aQ h0) gn))))))))))))
theorem aYe{i:Nat}{y100 y101:Int}{i':Nat}(h0:(i:Int)<(sk.length:Int))(h1:sk[i]? = some [y100,y101])(h2:uni 2 sk)(h3:(bZ y100 (1:Int) (999:Int))=false)(h4:(bZ y101 (-1:Int) (360000:Int))=false)(h5:inR (((i+1):Nat):Int))(ei':i'=(i+1)):aC Tp 0 rH (dA dl sk dc i) .normal (dA dl sk dc i'):=by
 subst ei';exact aC.fin (g:=⟨(rng [(0,1),(2,1),(14,42)]),[0],[],[]⟩) (o:=[bT,.x (aA y100),.c (pB (bZ y100 (1:Int) (999:Int))) [],bF,bF,bF,bF,bF,bF,.x (aA y101),bF,.c (pB (bZ y101 (-1:Int) (360000:Int))) [],bF,bF]) (l:=[_,_,_,_,_,(sk.flatten.map aA)[((i*2)+1)]? = some (aA y101),_,_,0≤(i:Int)∧(i:Int)<(sk.length:Int)∧(i*2)<(sk.flatten.map aA).length,_,_,_,_,_,(sk.flatten.map aA)[(i*2)]? = some (aA y100),0≤(i:Int)∧(i:Int)<(sk.length:Int)∧(i*2)<(sk.flatten.map aA).length,_]) (by kernel_rfl) (gc h5 (gc h4 (gc h3 (gc (fk 1 (bO y101 (-1:Int) (360000:Int)) rfl) (gc h3 (gc (cL (i:=i) (f:=1) h2 h1 rfl) (g2c h3 (gc (aV (k:=2) (i:=(i:Int)) (by decide) h2 (kQ1 _) h1) (g4c h3 (gc (fk 1 (bO y100 (1:Int) (999:Int)) rfl) (gc (cL (i:=i) (f:=0) h2 h1 rfl) (gc (aV (k:=2) (i:=(i:Int)) (by decide) h2 (kQ1 _) h1) (gc (aQ h0) gn)))))))))))))
theorem aYf{i:Nat}(h0:(sk.length:Int)≤(i:Int)):aC Tp 0 rH (dA dl sk dc i) (.exit 0) (dA dl sk dc i):=by
 exact aC.fin (g:=⟨(rng [(0,1),(2,1),(14,42)]),[0],[],[]⟩) (o:=[bF]) (l:=[_]) (by kernel_rfl) (gc (aR h0) gn)
theorem aYg{j:Nat}{y200 y201 y202 y203 y204 y205:Int}(h0:(j:Int)<(dc.length:Int))(h1:dc[j]? = some [y200,y201,y202,y203,y204,y205])(h2:uni 6 dc)(h3:(bZ y200 (1:Int) (9999:Int))=true):aC Tp 0 lU (cJ dl sk dc j) .ret (bG (cJ dl sk dc j) [(2,(pI 3))]):=by
 exact aC.fin (g:=⟨(rng [(0,1),(3,1),(5,1),(14,90)]),[0],[],[]⟩) (o:=[bT,.x (dcE y200 y201 y202 y203 y204 y205),.c (pB (bZ y200 (1:Int) (9999:Int))) [],bT,bT,bT,bT]) (l:=[_,_,_,_,_,_,_,0≤(j:Int)∧(j:Int)<(dc.length:Int)∧(j*6)<(dc.flatten.map aA).length,_]) (by kernel_rfl) (g4c h3 (gc (fk 2 (bO y200 (1:Int) (9999:Int)) rfl) (gc (aL (i:=j) h2 h1) (gc (aW (i:=j) h2 h1) (gc (aV (k:=6) (i:=(j:Int)) (by decide) h2 (kQ1 _) h1) (gc (aQ h0) gn))))))
theorem aYh{j:Nat}{y200 y201 y202 y203 y204 y205:Int}(h0:(j:Int)<(dc.length:Int))(h1:dc[j]? = some [y200,y201,y202,y203,y204,y205])(h2:uni 6 dc)(h3:(bZ y200 (1:Int) (9999:Int))=false)(h4:(bZ y201 (0:Int) (9:Int))=true):aC Tp 0 lU (cJ dl sk dc j) .ret (bG (cJ dl sk dc j) [(2,(pI 3))]):=by
 exact aC.fin (g:=⟨(rng [(0,1),(3,1),(5,1),(14,90)]),[0],[],[]⟩) (o:=[bT,.x (dcE y200 y201 y202 y203 y204 y205),.c (pB (bZ y200 (1:Int) (9999:Int))) [],bF,bF,bF,.c (pB (bZ y201 (0:Int) (9:Int))) [],bF,bT,bT,bT,bT]) (l:=[_,_,_,_,_,_,_,_,_,_,_,_,0≤(j:Int)∧(j:Int)<(dc.length:Int)∧(j*6)<(dc.flatten.map aA).length,_]) (by kernel_rfl) (g4c h4 (gc h3 (gc (fk 2 (bO y201 (0:Int) (9:Int)) rfl) (g3c h3 (gc (fk 2 (bO y200 (1:Int) (9999:Int)) rfl) (gc (aL (i:=j) h2 h1) (gc (aW (i:=j) h2 h1) (gc (aV (k:=6) (i:=(j:Int)) (by decide) h2 (kQ1 _) h1) (gc (aQ h0) gn)))))))))
theorem aYi{j:Nat}{y200 y201 y202 y203 y204 y205:Int}(h0:(j:Int)<(dc.length:Int))(h1:dc[j]? = some [y200,y201,y202,y203,y204,y205])(h2:uni 6 dc)(h3:(bZ y200 (1:Int) (9999:Int))=false)(h4:(bZ y201 (0:Int) (9:Int))=false)(h5:(bZ y202 (0:Int) (10000:Int))=true):aC Tp 0 lU (cJ dl sk dc j) .ret (bG (cJ dl sk dc j) [(2,(pI 3))]):=by
 exact aC.fin (g:=⟨(rng [(0,1),(3,1),(5,1),(14,90)]),[0],[],[]⟩) (o:=[bT,.x (dcE y200 y201 y202 y203 y204 y205),.c (pB (bZ y200 (1:Int) (9999:Int))) [],bF,bF,bF,.c (pB (bZ y201 (0:Int) (9:Int))) [],bF,bF,bF,bF,.c (pB (bZ y202 (0:Int) (10000:Int))) [],bF,bT,bT,bT,bT]) (l:=[_,_,_,_,_,_,_,_,_,_,_,_,_,_,_,_,_,0≤(j:Int)∧(j:Int)<(dc.length:Int)∧(j*6)<(dc.flatten.map aA).length,_]) (by kernel_rfl) (g4c h5 (gc h4 (gc (fk 2 (bO y202 (0:Int) (10000:Int)) rfl) (g3c h4 (gc h3 (gc (fk 2 (bO y201 (0:Int) (9:Int)) rfl) (g3c h3 (gc (fk 2 (bO y200 (1:Int) (9999:Int)) rfl) (gc (aL (i:=j) h2 h1) (gc (aW (i:=j) h2 h1) (gc (aV (k:=6) (i:=(j:Int)) (by decide) h2 (kQ1 _) h1) (gc (aQ h0) gn))))))))))))
theorem aYj{j:Nat}{y200 y201 y202 y203 y204 y205:Int}(h0:(j:Int)<(dc.length:Int))(h1:dc[j]? = some [y200,y201,y202,y203,y204,y205])(h2:uni 6 dc)(h3:(bZ y200 (1:Int) (9999:Int))=false)(h4:(bZ y201 (0:Int) (9:Int))=false)(h5:(bZ y202 (0:Int) (10000:Int))=false)(h6:(bZ y204 (0:Int) (36000:Int))=true):aC Tp 0 lU (cJ dl sk dc j) .ret (bG (cJ dl sk dc j) [(2,(pI 3))]):=by
 exact aC.fin (g:=⟨(rng [(0,1),(3,1),(5,1),(14,90)]),[0],[],[]⟩) (o:=[bT,.x (dcE y200 y201 y202 y203 y204 y205),.c (pB (bZ y200 (1:Int) (9999:Int))) [],bF,bF,bF,.c (pB (bZ y201 (0:Int) (9:Int))) [],bF,bF,bF,bF,.c (pB (bZ y202 (0:Int) (10000:Int))) [],bF,bF,bF,bF,.c (pB (bZ y204 (0:Int) (36000:Int))) [],bF,bT]) (l:=[_,_,_,_,_,_,_,_,_,_,_,_,_,_,_,_,_,_,_,0≤(j:Int)∧(j:Int)<(dc.length:Int)∧(j*6)<(dc.flatten.map aA).length,_]) (by kernel_rfl) (gc h6 (gc h5 (gc (fk 2 (bO y204 (0:Int) (36000:Int)) rfl) (g3c h5 (gc h4 (gc (fk 2 (bO y202 (0:Int) (10000:Int)) rfl) (g3c h4 (gc h3 (gc (fk 2 (bO y201 (0:Int) (9:Int)) rfl) (g3c h3 (gc (fk 2 (bO y200 (1:Int) (9999:Int)) rfl) (gc (aL (i:=j) h2 h1) (gc (aW (i:=j) h2 h1) (gc (aV (k:=6) (i:=(j:Int)) (by decide) h2 (kQ1 _) h1) (gc (aQ h0) gn)))))))))))))))
theorem aYk{j:Nat}{y200 y201 y202 y203 y204 y205:Int}(h0:(j:Int)<(dc.length:Int))(h1:dc[j]? = some [y200,y201,y202,y203,y204,y205])(h2:uni 6 dc)(h3:(bZ y200 (1:Int) (9999:Int))=false)(h4:(bZ y201 (0:Int) (9:Int))=false)(h5:(bZ y202 (0:Int) (10000:Int))=false)(h6:(bZ y204 (0:Int) (36000:Int))=false)(h7:(0:Int)<y204)(h8:y201=3):aC Tp 0 lU (cJ dl sk dc j) .ret (bG (cJ dl sk dc j) [(2,(pI 3))]):=by
 exact aC.fin (g:=⟨(rng [(0,1),(3,1),(5,1),(14,90)]),[0],[],[]⟩) (o:=[bT,.x (dcE y200 y201 y202 y203 y204 y205),.c (pB (bZ y200 (1:Int) (9999:Int))) [],bF,bF,bF,.c (pB (bZ y201 (0:Int) (9:Int))) [],bF,bF,bF,bF,.c (pB (bZ y202 (0:Int) (10000:Int))) [],bF,bF,bF,bF,.c (pB (bZ y204 (0:Int) (36000:Int))) [],bF,bF,bT,bT,bT,bT,bT,bT,bT,bT,bT,bT,bT,bT]) (l:=[_,_,_,_,_,_,_,_,_,_,_,_,_,_,_,_,_,_,_,_,_,_,_,_,_,_,_,_,_,_,_,0≤(j:Int)∧(j:Int)<(dc.length:Int)∧(j*6)<(dc.flatten.map aA).length,_]) (by kernel_rfl) (g3c (aQ h7) (gc (cC h8) (gc (aQ h7) (g3c (cC h8) (g4c (aQ h7) (gc h6 (gc h5 (gc (fk 2 (bO y204 (0:Int) (36000:Int)) rfl) (g3c h5 (gc h4 (gc (fk 2 (bO y202 (0:Int) (10000:Int)) rfl) (g3c h4 (gc h3 (gc (fk 2 (bO y201 (0:Int) (9:Int)) rfl) (g3c h3 (gc (fk 2 (bO y200 (1:Int) (9999:Int)) rfl) (gc (aL (i:=j) h2 h1) (gc (aW (i:=j) h2 h1) (gc (aV (k:=6) (i:=(j:Int)) (by decide) h2 (kQ1 _) h1) (gc (aQ h0) gn))))))))))))))))))))
theorem aYl{j:Nat}{y200 y201 y202 y203 y204 y205:Int}(h0:(j:Int)<(dc.length:Int))(h1:dc[j]? = some [y200,y201,y202,y203,y204,y205])(h2:uni 6 dc)(h3:(bZ y200 (1:Int) (9999:Int))=false)(h4:(bZ y201 (0:Int) (9:Int))=false)(h5:(bZ y202 (0:Int) (10000:Int))=false)(h6:(bZ y204 (0:Int) (36000:Int))=false)(h7:(0:Int)<y204)(h8:y201≠3)(h9:y201=5):aC Tp 0 lU (cJ dl sk dc j) .ret (bG (cJ dl sk dc j) [(2,(pI 3))]):=by
 exact aC.fin (g:=⟨(rng [(0,1),(3,1),(5,1),(14,90)]),[0],[],[]⟩) (o:=[bT,.x (dcE y200 y201 y202 y203 y204 y205),.c (pB (bZ y200 (1:Int) (9999:Int))) [],bF,bF,bF,.c (pB (bZ y201 (0:Int) (9:Int))) [],bF,bF,bF,bF,.c (pB (bZ y202 (0:Int) (10000:Int))) [],bF,bF,bF,bF,.c (pB (bZ y204 (0:Int) (36000:Int))) [],bF,bF,bT,bT,bT,bT,bF,bF,bF,bT,bF,bT,bT,bT,bT,bT,bT,bT]) (l:=[_,_,_,_,_,_,_,_,_,_,_,_,_,_,_,_,_,_,_,_,_,_,_,_,_,_,_,_,_,_,_,_,_,_,_,0≤(j:Int)∧(j:Int)<(dc.length:Int)∧(j*6)<(dc.flatten.map aA).length,_]) (by kernel_rfl) (gc (aQ h7) (gc (cC h9) (gc (aQ h7) (g3c (cC h9) (gc (aQ h7) (gc (bE h8) (gc (aQ h7) (g3c (bE h8) (g4c (aQ h7) (gc h6 (gc h5 (gc (fk 2 (bO y204 (0:Int) (36000:Int)) rfl) (g3c h5 (gc h4 (gc (fk 2 (bO y202 (0:Int) (10000:Int)) rfl) (g3c h4 (gc h3 (gc (fk 2 (bO y201 (0:Int) (9:Int)) rfl) (g3c h3 (gc (fk 2 (bO y200 (1:Int) (9999:Int)) rfl) (gc (aL (i:=j) h2 h1) (gc (aW (i:=j) h2 h1) (gc (aV (k:=6) (i:=(j:Int)) (by decide) h2 (kQ1 _) h1) (gc (aQ h0) gn))))))))))))))))))))))))
theorem aYm{j:Nat}{y200 y201 y202 y203 y204 y205:Int}(h0:(j:Int)<(dc.length:Int))(h1:dc[j]? = some [y200,y201,y202,y203,y204,y205])(h2:uni 6 dc)(h3:(bZ y200 (1:Int) (9999:Int))=false)(h4:(bZ y201 (0:Int) (9:Int))=false)(h5:(bZ y202 (0:Int) (10000:Int))=false)(h6:(bZ y204 (0:Int) (36000:Int))=false)(h7:(0:Int)<y204)(h8:y201≠3)(h9:y201≠5)(h10:(6:Int)<y201):aC Tp 0 lU (cJ dl sk dc j) .ret (bG (cJ dl sk dc j) [(2,(pI 3))]):=by
 exact aC.fin (g:=⟨(rng [(0,1),(3,1),(5,1),(14,90)]),[0],[],[]⟩) (o:=[bT,.x (dcE y200 y201 y202 y203 y204 y205),.c (pB (bZ y200 (1:Int) (9999:Int))) [],bF,bF,bF,.c (pB (bZ y201 (0:Int) (9:Int))) [],bF,bF,bF,bF,.c (pB (bZ y202 (0:Int) (10000:Int))) [],bF,bF,bF,bF,.c (pB (bZ y204 (0:Int) (36000:Int))) [],bF,bF,bT,bT,bT,bT,bF,bF,bF,bT,bF,bT,bF,bF,bF,bT,bF,bT,bT]) (l:=[_,_,_,_,_,_,_,_,_,_,_,_,_,_,_,_,_,_,_,_,_,_,_,_,_,_,_,_,_,_,_,_,_,_,_,_,0≤(j:Int)∧(j:Int)<(dc.length:Int)∧(j*6)<(dc.flatten.map aA).length,_]) (by kernel_rfl) (gc (aQ h10) (gc (aQ h7) (gc (bE h9) (gc (aQ h7) (g3c (bE h9) (gc (aQ h7) (gc (bE h8) (gc (aQ h7) (g3c (bE h8) (g4c (aQ h7) (gc h6 (gc h5 (gc (fk 2 (bO y204 (0:Int) (36000:Int)) rfl) (g3c h5 (gc h4 (gc (fk 2 (bO y202 (0:Int) (10000:Int)) rfl) (g3c h4 (gc h3 (gc (fk 2 (bO y201 (0:Int) (9:Int)) rfl) (g3c h3 (gc (fk 2 (bO y200 (1:Int) (9999:Int)) rfl) (gc (aL (i:=j) h2 h1) (gc (aW (i:=j) h2 h1) (gc (aV (k:=6) (i:=(j:Int)) (by decide) h2 (kQ1 _) h1) (gc (aQ h0) gn)))))))))))))))))))))))))
theorem aYn{j:Nat}{y200 y201 y202 y203 y204 y205:Int}{j':Nat}(h0:(j:Int)<(dc.length:Int))(h1:dc[j]? = some [y200,y201,y202,y203,y204,y205])(h2:uni 6 dc)(h3:(bZ y200 (1:Int) (9999:Int))=false)(h4:(bZ y201 (0:Int) (9:Int))=false)(h5:(bZ y202 (0:Int) (10000:Int))=false)(h6:(bZ y204 (0:Int) (36000:Int))=false)(h7:(0:Int)<y204)(h8:y201≠3)(h9:y201≠5)(h10:y201≤6)(h11:inR (((j+1):Nat):Int))(ej':j'=(j+1)):aC Tp 0 lU (cJ dl sk dc j) .normal (cJ dl sk dc j'):=by
 subst ej';exact aC.fin (g:=⟨(rng [(0,1),(2,2),(5,1),(14,90)]),[0],[],[]⟩) (o:=[bT,.x (dcE y200 y201 y202 y203 y204 y205),.c (pB (bZ y200 (1:Int) (9999:Int))) [],bF,bF,bF,.c (pB (bZ y201 (0:Int) (9:Int))) [],bF,bF,bF,bF,.c (pB (bZ y202 (0:Int) (10000:Int))) [],bF,bF,bF,bF,.c (pB (bZ y204 (0:Int) (36000:Int))) [],bF,bF,bT,bT,bT,bT,bF,bF,bF,bT,bF,bT,bF,bF,bF,bT,bF,bT,bF]) (l:=[_,_,_,_,_,_,_,_,_,_,_,_,_,_,_,_,_,_,_,_,_,_,_,_,_,_,_,_,_,_,_,_,_,_,_,_,_,0≤(j:Int)∧(j:Int)<(dc.length:Int)∧(j*6)<(dc.flatten.map aA).length,_]) (by kernel_rfl) (gc h11 (gc (aR h10) (gc (aQ h7) (gc (bE h9) (gc (aQ h7) (g3c (bE h9) (gc (aQ h7) (gc (bE h8) (gc (aQ h7) (g3c (bE h8) (g4c (aQ h7) (gc h6 (gc h5 (gc (fk 2 (bO y204 (0:Int) (36000:Int)) rfl) (g3c h5 (gc h4 (gc (fk 2 (bO y202 (0:Int) (10000:Int)) rfl) (g3c h4 (gc h3 (gc (fk 2 (bO y201 (0:Int) (9:Int)) rfl) (g3c h3 (gc (fk 2 (bO y200 (1:Int) (9999:Int)) rfl) (gc (aL (i:=j) h2 h1) (gc (aW (i:=j) h2 h1) (gc (aV (k:=6) (i:=(j:Int)) (by decide) h2 (kQ1 _) h1) (gc (aQ h0) gn))))))))))))))))))))))))))
theorem aYo{j:Nat}{y200 y201 y202 y203 y204 y205:Int}{j':Nat}(h0:(j:Int)<(dc.length:Int))(h1:dc[j]? = some [y200,y201,y202,y203,y204,y205])(h2:uni 6 dc)(h3:(bZ y200 (1:Int) (9999:Int))=false)(h4:(bZ y201 (0:Int) (9:Int))=false)(h5:(bZ y202 (0:Int) (10000:Int))=false)(h6:(bZ y204 (0:Int) (36000:Int))=false)(h7:y204≤0)(h8:inR (((j+1):Nat):Int))(ej':j'=(j+1)):aC Tp 0 lU (cJ dl sk dc j) .normal (cJ dl sk dc j'):=by
 subst ej';exact aC.fin (g:=⟨(rng [(0,1),(2,2),(5,1),(14,90)]),[0],[],[]⟩) (o:=[bT,.x (dcE y200 y201 y202 y203 y204 y205),.c (pB (bZ y200 (1:Int) (9999:Int))) [],bF,bF,bF,.c (pB (bZ y201 (0:Int) (9:Int))) [],bF,bF,bF,bF,.c (pB (bZ y202 (0:Int) (10000:Int))) [],bF,bF,bF,bF,.c (pB (bZ y204 (0:Int) (36000:Int))) [],bF,bF,bF,bF,bF,bF,bF,bF,bF,bF]) (l:=[_,_,_,_,_,_,_,_,_,_,_,_,_,_,_,_,_,_,_,_,_,_,_,_,_,_,_,_,0≤(j:Int)∧(j:Int)<(dc.length:Int)∧(j*6)<(dc.flatten.map aA).length,_]) (by kernel_rfl) (gc h8 (g8c (aR h7) (gc h6 (gc h5 (gc (fk 2 (bO y204 (0:Int) (36000:Int)) rfl) (g3c h5 (gc h4 (gc (fk 2 (bO y202 (0:Int) (10000:Int)) rfl) (g3c h4 (gc h3 (gc (fk 2 (bO y201 (0:Int) (9:Int)) rfl) (g3c h3 (gc (fk 2 (bO y200 (1:Int) (9999:Int)) rfl) (gc (aL (i:=j) h2 h1) (gc (aW (i:=j) h2 h1) (gc (aV (k:=6) (i:=(j:Int)) (by decide) h2 (kQ1 _) h1) (gc (aQ h0) gn)))))))))))))))))
theorem aYp{j:Nat}(h0:(dc.length:Int)≤(j:Int)):aC Tp 0 lU (cJ dl sk dc j) (.exit 2) (cJ dl sk dc j):=by
 exact aC.fin (g:=⟨(rng [(0,1),(2,2),(5,1),(14,90)]),[0],[],[]⟩) (o:=[bF]) (l:=[_]) (by kernel_rfl) (gc (aR h0) gn)
def fW(dl:Int)(sk:Lqq)(dc:Lqq)(a:Nat)(b:Nat):St:=⟨fr 219 [(1,(.ptr 0 0)),(6,(pI (a:Int))),(7,(pI (b:Int))),(104,(pI (a:Int))),(105,(.ptr 0 1)),(106,(.p (fS sk))),(107,(pI (sk.length:Int))),(108,(pB (decide ((a:Int)<(sk.length:Int)))))],[some (.box 61 [(pI dl),(.p (fS sk)),(.p (fS dc))])]⟩
theorem aYq{a b'300 a':Nat}(h0:(a:Int)<(sk.length:Int))(hl1:aE Tp 0 aLd (fW dl sk dc a 0) (.exit 6) (fW dl sk dc a b'300))(h2:inR (((a+1):Nat):Int))(ea':a'=(a+1)):aC Tp 0 yJ (eA dl sk dc a) .normal (eA dl sk dc a'):=by
 subst ea';exact aC.fin (g:=⟨(rng [(0,1),(2,4),(7,1),(14,115)]),[0],[],[]⟩) (o:=[bT,.k 5 ⟨(rng [(0,1),(2,4),(14,90),(111,18)]),[0],[],[]⟩ (.exit 6) (fW dl sk dc a b'300)]) (l:=[_,_,_]) (by kernel_rfl) (gc h2 (gc hl1.code (gc (aQ h0) gn)))
theorem aYr{a b'300:Nat}(h0:(a:Int)<(sk.length:Int))(hl1:aE Tp 0 aLd (fW dl sk dc a 0) .ret (bG (fW dl sk dc a b'300) [(2,(pI 5))])):aC Tp 0 yJ (eA dl sk dc a) .ret (bG (eA dl sk dc a) [(2,(pI 5))]):=by
 exact aC.fin (g:=⟨(rng [(0,1),(3,3),(7,1),(14,115)]),[0],[],[]⟩) (o:=[bT,.k 5 ⟨(rng [(0,1),(2,4),(14,90),(111,18)]),[0],[],[]⟩ .ret (bG (fW dl sk dc a b'300) [(2,(pI 5))])]) (l:=[_,_]) (by kernel_rfl) (gc hl1.code (gc (aQ h0) gn))
theorem aYs{a:Nat}(h0:(sk.length:Int)≤(a:Int)):aC Tp 0 yJ (eA dl sk dc a) (.exit 4) (eA dl sk dc a):=by
 exact aC.fin (g:=⟨(rng [(0,1),(2,4),(7,1),(14,115)]),[0],[],[]⟩) (o:=[bF]) (l:=[_]) (by kernel_rfl) (gc (aR h0) gn)
def fX(dl:Int)(sk:Lqq)(dc:Lqq)(c:Nat)(d:Nat):St:=⟨fr 219 [(1,(.ptr 0 0)),(8,(pI (c:Int))),(9,(pI (d:Int))),(129,(pI (c:Int))),(130,(.ptr 0 2)),(131,(.p (fS dc))),(132,(pI (dc.length:Int))),(133,(pB (decide ((c:Int)<(dc.length:Int)))))],[some (.box 61 [(pI dl),(.p (fS sk)),(.p (fS dc))])]⟩
theorem aYt{c d'500 c':Nat}(h0:(c:Int)<(dc.length:Int))(hl1:aE Tp 0 aLe (fX dl sk dc c 0) (.exit 10) (fX dl sk dc c d'500))(h2:inR (((c+1):Nat):Int))(ec':c'=(c+1)):aC Tp 0 aBx (eO dl sk dc c) .normal (eO dl sk dc c'):=by
 subst ec';exact aC.fin (g:=⟨(rng [(0,1),(2,6),(9,1),(14,140)]),[0],[],[]⟩) (o:=[bT,.k 5 ⟨(rng [(0,1),(2,6),(14,115),(136,18)]),[0],[],[]⟩ (.exit 10) (fX dl sk dc c d'500)]) (l:=[_,_,_]) (by kernel_rfl) (gc h2 (gc hl1.code (gc (aQ h0) gn)))
theorem aYu{c d'500:Nat}(h0:(c:Int)<(dc.length:Int))(hl1:aE Tp 0 aLe (fX dl sk dc c 0) .ret (bG (fX dl sk dc c d'500) [(2,(pI 5))])):aC Tp 0 aBx (eO dl sk dc c) .ret (bG (eO dl sk dc c) [(2,(pI 5))]):=by
 exact aC.fin (g:=⟨(rng [(0,1),(3,5),(9,1),(14,140)]),[0],[],[]⟩) (o:=[bT,.k 5 ⟨(rng [(0,1),(2,6),(14,115),(136,18)]),[0],[],[]⟩ .ret (bG (fX dl sk dc c d'500) [(2,(pI 5))])]) (l:=[_,_]) (by kernel_rfl) (gc hl1.code (gc (aQ h0) gn))
theorem aYv{c:Nat}(h0:(dc.length:Int)≤(c:Int)):aC Tp 0 aBx (eO dl sk dc c) (.exit 8) (eO dl sk dc c):=by
 exact aC.fin (g:=⟨(rng [(0,1),(2,6),(9,1),(14,140)]),[0],[],[]⟩) (o:=[bF]) (l:=[_]) (by kernel_rfl) (gc (aR h0) gn)
theorem aYw{e:Nat}{y700 y701 y702 y703 y704 y705:Int}(h0:(e:Int)<(dc.length:Int))(h1:dc[e]? = some [y700,y701,y702,y703,y704,y705])(h2:uni 6 dc)(h3:(4:Int)<y701)(h4:y703≠0):aC Tp 0 yK (eI dl sk dc e) .ret (bG (eI dl sk dc e) [(2,(pI 1))]):=by
 exact aC.fin (g:=⟨(rng [(0,1),(3,7),(11,1),(14,172)]),[0],[],[]⟩) (o:=[bT,.x (dcE y700 y701 y702 y703 y704 y705),bT,bT,bT,bT,bT,bT,bT,bT,bT,bT]) (l:=[_,_,_,_,_,_,_,_,_,_,_,_,0≤(e:Int)∧(e:Int)<(dc.length:Int)∧(e*6)<(dc.flatten.map aA).length,_]) (by kernel_rfl) (g6c (iD h4) (g4c (aQ h3) (gc (aL (i:=e) h2 h1) (gc (aW (i:=e) h2 h1) (gc (aV (k:=6) (i:=(e:Int)) (by decide) h2 (kQ1 _) h1) (gc (aQ h0) gn))))))
theorem aYx{e:Nat}{y700 y701 y702 y703 y704 y705:Int}{e':Nat}(h0:(e:Int)<(dc.length:Int))(h1:dc[e]? = some [y700,y701,y702,y703,y704,y705])(h2:uni 6 dc)(h3:(4:Int)<y701)(h4:y703=0)(h5:(5:Int)≤y701)(h6:inR (((e+1):Nat):Int))(ee':e'=(e+1)):aC Tp 0 yK (eI dl sk dc e) .normal (eI dl sk dc e'):=by
 subst ee';exact aC.fin (g:=⟨(rng [(0,1),(2,8),(11,1),(14,172)]),[0],[],[]⟩) (o:=[bT,.x (dcE y700 y701 y702 y703 y704 y705),bT,bT,bT,bT,bF,bF,bF,bF,bF,bF,bF,bF,bF,bF,bF,bF]) (l:=[_,_,_,_,_,_,_,_,_,_,_,_,_,_,_,_,_,_,_,0≤(e:Int)∧(e:Int)<(dc.length:Int)∧(e*6)<(dc.flatten.map aA).length,_]) (by kernel_rfl) (gc h6 (gc (cT h4) (gc (aR h5) (gc (cT h4) (g5c (aR h5) (g4c (cT h4) (g4c (aQ h3) (gc (aL (i:=e) h2 h1) (gc (aW (i:=e) h2 h1) (gc (aV (k:=6) (i:=(e:Int)) (by decide) h2 (kQ1 _) h1) (gc (aQ h0) gn)))))))))))
theorem aYy{e:Nat}{y700 y701 y702 y703 y704 y705:Int}(h0:(e:Int)<(dc.length:Int))(h1:dc[e]? = some [y700,y701,y702,y703,y704,y705])(h2:uni 6 dc)(h3:y701≤4)(h4:y701<5)(h5:uni 2 sk)(h6:sk.length≤1000)(h7:(bD (fun x=>decide (x.getD 0 0=y703)) sk)<0):aC Tp 0 yK (eI dl sk dc e) .ret (bG (eI dl sk dc e) [(2,(pI 1))]):=by
 exact aC.fin (g:=⟨(rng [(0,1),(3,7),(11,1),(14,172)]),[0],[],[]⟩) (o:=[bT,.x (dcE y700 y701 y702 y703 y704 y705),bF,bF,bF,bF,bT,bT,bT,bT,.c (pI (bD (fun x=>decide (x.getD 0 0=y703)) sk)) [],bT,bT,bT]) (l:=[_,_,_,_,_,_,_,_,_,_,_,_,_,_,0≤(e:Int)∧(e:Int)<(dc.length:Int)∧(e*6)<(dc.flatten.map aA).length,_]) (by kernel_rfl) (gc (aQ h7) (g2c (aQ h4) (gc (fk 2 (aPj dl sk dc y703 h5 h6) rfl) (g4c (aQ h4) (g4c (aR h3) (gc (aL (i:=e) h2 h1) (gc (aW (i:=e) h2 h1) (gc (aV (k:=6) (i:=(e:Int)) (by decide) h2 (kQ1 _) h1) (gc (aQ h0) gn)))))))))
theorem aYz{e:Nat}{y700 y701 y702 y703 y704 y705:Int}{e':Nat}(h0:(e:Int)<(dc.length:Int))(h1:dc[e]? = some [y700,y701,y702,y703,y704,y705])(h2:uni 6 dc)(h3:y701≤4)(h4:y701<5)(h5:uni 2 sk)(h6:sk.length≤1000)(h7:(0:Int)≤(bD (fun x=>decide (x.getD 0 0=y703)) sk))(h8:inR (((e+1):Nat):Int))(ee':e'=(e+1)):aC Tp 0 yK (eI dl sk dc e) .normal (eI dl sk dc e'):=by
 subst ee';exact aC.fin (g:=⟨(rng [(0,1),(2,8),(11,1),(14,172)]),[0],[],[]⟩) (o:=[bT,.x (dcE y700 y701 y702 y703 y704 y705),bF,bF,bF,bF,bT,bT,bT,bT,.c (pI (bD (fun x=>decide (x.getD 0 0=y703)) sk)) [],bT,bT,bF]) (l:=[_,_,_,_,_,_,_,_,_,_,_,_,_,_,_,0≤(e:Int)∧(e:Int)<(dc.length:Int)∧(e*6)<(dc.flatten.map aA).length,_]) (by kernel_rfl) (gc h8 (gc (aR h7) (g2c (aQ h4) (gc (fk 2 (aPj dl sk dc y703 h5 h6) rfl) (g4c (aQ h4) (g4c (aR h3) (gc (aL (i:=e) h2 h1) (gc (aW (i:=e) h2 h1) (gc (aV (k:=6) (i:=(e:Int)) (by decide) h2 (kQ1 _) h1) (gc (aQ h0) gn))))))))))
theorem aZa{e:Nat}(h0:(dc.length:Int)≤(e:Int)):aC Tp 0 yK (eI dl sk dc e) (.exit 12) (eI dl sk dc e):=by
 exact aC.fin (g:=⟨(rng [(0,1),(2,8),(11,1),(14,172)]),[0],[],[]⟩) (o:=[bF]) (l:=[_]) (by kernel_rfl) (gc (aR h0) gn)
theorem aZb{f:Nat}{y800 y801 y802 y803 y804 y805:Int}(h0:(f:Int)<(dc.length:Int))(h1:dc[f]? = some [y800,y801,y802,y803,y804,y805])(h2:uni 6 dc)(h3:y801<5)(h4:y805≠0):aC Tp 0 aBy (fA dl sk dc f) .ret (bG (fA dl sk dc f) [(2,(pI 4))]):=by
 exact aC.fin (g:=⟨(rng [(0,1),(3,9),(13,206)]),[0],[],[]⟩) (o:=[bT,.x (dcE y800 y801 y802 y803 y804 y805),bT,bT,bT,bT,bT,bT,bT,bT,bT,bT]) (l:=[_,_,_,_,_,_,_,_,_,_,_,_,0≤(f:Int)∧(f:Int)<(dc.length:Int)∧(f*6)<(dc.flatten.map aA).length,_]) (by kernel_rfl) (g6c (iD h4) (g4c (aQ h3) (gc (aL (i:=f) h2 h1) (gc (aW (i:=f) h2 h1) (gc (aV (k:=6) (i:=(f:Int)) (by decide) h2 (kQ1 _) h1) (gc (aQ h0) gn))))))
theorem aZc{f:Nat}{y800 y801 y802 y803 y804 y805:Int}{f':Nat}(h0:(f:Int)<(dc.length:Int))(h1:dc[f]? = some [y800,y801,y802,y803,y804,y805])(h2:uni 6 dc)(h3:y801<5)(h4:y805=0)(h5:y801≤4)(h6:inR (((f+1):Nat):Int))(ef':f'=(f+1)):aC Tp 0 aBy (fA dl sk dc f) .normal (fA dl sk dc f'):=by
 subst ef';exact aC.fin (g:=⟨(rng [(0,1),(2,10),(13,206)]),[0],[],[]⟩) (o:=[bT,.x (dcE y800 y801 y802 y803 y804 y805),bT,bT,bT,bT,bF,bF,bF,bF,bF,bF,bF,bF,bF,bF,bF,bF,bF]) (l:=[_,_,_,_,_,_,_,_,_,_,_,_,_,_,_,_,_,_,_,_,0≤(f:Int)∧(f:Int)<(dc.length:Int)∧(f*6)<(dc.flatten.map aA).length,_]) (by kernel_rfl) (gc h6 (gc (cT h4) (gc (aR h5) (gc (cT h4) (g6c (aR h5) (g4c (cT h4) (g4c (aQ h3) (gc (aL (i:=f) h2 h1) (gc (aW (i:=f) h2 h1) (gc (aV (k:=6) (i:=(f:Int)) (by decide) h2 (kQ1 _) h1) (gc (aQ h0) gn)))))))))))
theorem aZd{f:Nat}{y800 y801 y802 y803 y804 y805:Int}(h0:(f:Int)<(dc.length:Int))(h1:dc[f]? = some [y800,y801,y802,y803,y804,y805])(h2:uni 6 dc)(h3:(5:Int)≤y801)(h4:(4:Int)<y801)(h5:inR (y800-1))(h6:(bZ y805 (1:Int) (y800-1))=true):aC Tp 0 aBy (fA dl sk dc f) .ret (bG (fA dl sk dc f) [(2,(pI 4))]):=by
 exact aC.fin (g:=⟨(rng [(0,1),(3,9),(13,206)]),[0],[],[]⟩) (o:=[bT,.x (dcE y800 y801 y802 y803 y804 y805),bF,bF,bF,bF,bT,bT,bT,bT,bT,bT,.c (pB (bZ y805 (1:Int) (y800-1))) [],bT,bT]) (l:=[_,_,_,_,_,_,_,_,_,_,_,_,_,_,_,_,0≤(f:Int)∧(f:Int)<(dc.length:Int)∧(f*6)<(dc.flatten.map aA).length,_]) (by kernel_rfl) (gc h6 (gc (aQ h4) (gc (fk 2 (bO y805 (1:Int) (y800-1)) rfl) (gc (aQ h4) (gc h5 (g5c (aQ h4) (g4c (aR h3) (gc (aL (i:=f) h2 h1) (gc (aW (i:=f) h2 h1) (gc (aV (k:=6) (i:=(f:Int)) (by decide) h2 (kQ1 _) h1) (gc (aQ h0) gn)))))))))))
theorem aZe{f:Nat}{y800 y801 y802 y803 y804 y805:Int}{f':Nat}(h0:(f:Int)<(dc.length:Int))(h1:dc[f]? = some [y800,y801,y802,y803,y804,y805])(h2:uni 6 dc)(h3:(5:Int)≤y801)(h4:(4:Int)<y801)(h5:inR (y800-1))(h6:(bZ y805 (1:Int) (y800-1))=false)(h7:inR (((f+1):Nat):Int))(ef':f'=(f+1)):aC Tp 0 aBy (fA dl sk dc f) .normal (fA dl sk dc f'):=by
 subst ef';exact aC.fin (g:=⟨(rng [(0,1),(2,10),(13,206)]),[0],[],[]⟩) (o:=[bT,.x (dcE y800 y801 y802 y803 y804 y805),bF,bF,bF,bF,bT,bT,bT,bT,bT,bT,.c (pB (bZ y805 (1:Int) (y800-1))) [],bT,bF]) (l:=[_,_,_,_,_,_,_,_,_,_,_,_,_,_,_,_,_,0≤(f:Int)∧(f:Int)<(dc.length:Int)∧(f*6)<(dc.flatten.map aA).length,_]) (by kernel_rfl) (gc h7 (gc h6 (gc (aQ h4) (gc (fk 2 (bO y805 (1:Int) (y800-1)) rfl) (gc (aQ h4) (gc h5 (g5c (aQ h4) (g4c (aR h3) (gc (aL (i:=f) h2 h1) (gc (aW (i:=f) h2 h1) (gc (aV (k:=6) (i:=(f:Int)) (by decide) h2 (kQ1 _) h1) (gc (aQ h0) gn))))))))))))
theorem aZf{f:Nat}(h0:(dc.length:Int)≤(f:Int)):aC Tp 0 aBy (fA dl sk dc f) (.exit 14) (fA dl sk dc f):=by
 exact aC.fin (g:=⟨(rng [(0,1),(2,10),(13,206)]),[0],[],[]⟩) (o:=[bF]) (l:=[_]) (by kernel_rfl) (gc (aR h0) gn)
theorem aZg{a b:Nat}{y400 y401 y402 y403:Int}(h0:(b:Int)<(a:Int))(h1:sk[a]? = some [y400,y401])(h2:uni 2 sk)(h3:sk[b]? = some [y402,y403])(h4:y400=y402):aC Tp 0 aLd (fW dl sk dc a b) .ret (bG (fW dl sk dc a b) [(2,(pI 5))]):=by
 exact aC.fin (g:=⟨(rng [(0,1),(3,3),(14,90),(111,18)]),[0],[],[]⟩) (o:=[bT,.x (aA y400),.x (aA y402),bT]) (l:=[_,(sk.flatten.map aA)[(b*2)]? = some (aA y402),0≤(b:Int)∧(b:Int)<(sk.length:Int)∧(b*2)<(sk.flatten.map aA).length,(sk.flatten.map aA)[(a*2)]? = some (aA y400),0≤(a:Int)∧(a:Int)<(sk.length:Int)∧(a*2)<(sk.flatten.map aA).length,_]) (by kernel_rfl) (gc (cC h4) (gc (cL (i:=b) (f:=0) h2 h3 rfl) (gc (aV (k:=2) (i:=(b:Int)) (by decide) h2 (kQ1 _) h3) (gc (cL (i:=a) (f:=0) h2 h1 rfl) (gc (aV (k:=2) (i:=(a:Int)) (by decide) h2 (kQ1 _) h1) (gc (aQ h0) gn))))))
theorem aZh{a b:Nat}{y400 y401 y402 y403:Int}{b':Nat}(h0:(b:Int)<(a:Int))(h1:sk[a]? = some [y400,y401])(h2:uni 2 sk)(h3:sk[b]? = some [y402,y403])(h4:y400≠y402)(h5:inR (((b+1):Nat):Int))(eb':b'=(b+1)):aC Tp 0 aLd (fW dl sk dc a b) .normal (fW dl sk dc a b'):=by
 subst eb';exact aC.fin (g:=⟨(rng [(0,1),(2,4),(14,90),(111,18)]),[0],[],[]⟩) (o:=[bT,.x (aA y400),.x (aA y402),bF]) (l:=[_,_,(sk.flatten.map aA)[(b*2)]? = some (aA y402),0≤(b:Int)∧(b:Int)<(sk.length:Int)∧(b*2)<(sk.flatten.map aA).length,(sk.flatten.map aA)[(a*2)]? = some (aA y400),0≤(a:Int)∧(a:Int)<(sk.length:Int)∧(a*2)<(sk.flatten.map aA).length,_]) (by kernel_rfl) (gc h5 (gc (bE h4) (gc (cL (i:=b) (f:=0) h2 h3 rfl) (gc (aV (k:=2) (i:=(b:Int)) (by decide) h2 (kQ1 _) h3) (gc (cL (i:=a) (f:=0) h2 h1 rfl) (gc (aV (k:=2) (i:=(a:Int)) (by decide) h2 (kQ1 _) h1) (gc (aQ h0) gn)))))))
theorem aZi{a b:Nat}(h0:(a:Int)≤(b:Int)):aC Tp 0 aLd (fW dl sk dc a b) (.exit 6) (fW dl sk dc a b):=by
 exact aC.fin (g:=⟨(rng [(0,1),(2,4),(14,90),(111,18)]),[0],[],[]⟩) (o:=[bF]) (l:=[_]) (by kernel_rfl) (gc (aR h0) gn)
theorem aZj{c d:Nat}{y600 y601 y602 y603 y604 y605 y606 y607 y608 y609 y610 y611:Int}(h0:(d:Int)<(c:Int))(h1:dc[c]? = some [y600,y601,y602,y603,y604,y605])(h2:uni 6 dc)(h3:dc[d]? = some [y606,y607,y608,y609,y610,y611])(h4:y600=y606):aC Tp 0 aLe (fX dl sk dc c d) .ret (bG (fX dl sk dc c d) [(2,(pI 5))]):=by
 exact aC.fin (g:=⟨(rng [(0,1),(3,5),(14,115),(136,18)]),[0],[],[]⟩) (o:=[bT,.x (aA y600),.x (aA y606),bT]) (l:=[_,(dc.flatten.map aA)[(d*6)]? = some (aA y606),0≤(d:Int)∧(d:Int)<(dc.length:Int)∧(d*6)<(dc.flatten.map aA).length,(dc.flatten.map aA)[(c*6)]? = some (aA y600),0≤(c:Int)∧(c:Int)<(dc.length:Int)∧(c*6)<(dc.flatten.map aA).length,_]) (by kernel_rfl) (gc (cC h4) (gc (cL (i:=d) (f:=0) h2 h3 rfl) (gc (aV (k:=6) (i:=(d:Int)) (by decide) h2 (kQ1 _) h3) (gc (cL (i:=c) (f:=0) h2 h1 rfl) (gc (aV (k:=6) (i:=(c:Int)) (by decide) h2 (kQ1 _) h1) (gc (aQ h0) gn))))))
theorem aZk{c d:Nat}{y600 y601 y602 y603 y604 y605 y606 y607 y608 y609 y610 y611:Int}{d':Nat}(h0:(d:Int)<(c:Int))(h1:dc[c]? = some [y600,y601,y602,y603,y604,y605])(h2:uni 6 dc)(h3:dc[d]? = some [y606,y607,y608,y609,y610,y611])(h4:y600≠y606)(h5:inR (((d+1):Nat):Int))(ed':d'=(d+1)):aC Tp 0 aLe (fX dl sk dc c d) .normal (fX dl sk dc c d'):=by
 subst ed';exact aC.fin (g:=⟨(rng [(0,1),(2,6),(14,115),(136,18)]),[0],[],[]⟩) (o:=[bT,.x (aA y600),.x (aA y606),bF]) (l:=[_,_,(dc.flatten.map aA)[(d*6)]? = some (aA y606),0≤(d:Int)∧(d:Int)<(dc.length:Int)∧(d*6)<(dc.flatten.map aA).length,(dc.flatten.map aA)[(c*6)]? = some (aA y600),0≤(c:Int)∧(c:Int)<(dc.length:Int)∧(c*6)<(dc.flatten.map aA).length,_]) (by kernel_rfl) (gc h5 (gc (bE h4) (gc (cL (i:=d) (f:=0) h2 h3 rfl) (gc (aV (k:=6) (i:=(d:Int)) (by decide) h2 (kQ1 _) h3) (gc (cL (i:=c) (f:=0) h2 h1 rfl) (gc (aV (k:=6) (i:=(c:Int)) (by decide) h2 (kQ1 _) h1) (gc (aQ h0) gn)))))))
theorem aZl{c d:Nat}(h0:(c:Int)≤(d:Int)):aC Tp 0 aLe (fX dl sk dc c d) (.exit 10) (fX dl sk dc c d):=by
 exact aC.fin (g:=⟨(rng [(0,1),(2,6),(14,115),(136,18)]),[0],[],[]⟩) (o:=[bF]) (l:=[_]) (by kernel_rfl) (gc (aR h0) gn)
end
section

def mE(f:Lqq)(i:Nat):Int:=(f.getD i []).getD 0 0
theorem pU(f:Lqq):(aK f 0).Nodup↔∀ a,a<f.length→∀ b,b<a→mE f a≠mE f b:=by
 have hk:∀ i (h:i<f.length),mE f i=(aK f 0)[i]'(by rw [mG];exact h):=fun i h=>by simp [mE,aK,kQ5,kQ0 h]
 constructor
 ·intro h a ha b hb he
  have:=List.pairwise_iff_getElem.1 h b a (by rw [mG];omega) (by rw [mG];omega) hb
  rw [hk a ha,hk b (by omega)] at he
  exact this he.symm
 ·intro h
  refine List.pairwise_iff_getElem.2 fun i j hi hj hij he => ?_
  rw [mG] at hi hj
  exact h j hj i hij (by rw [hk j hj,hk i hi,he])
theorem rsin(dl:Int)(sk dc:Lqq)(hu:uni 2 sk)(hl:sk.length≤1000)(i:Nat)(hi:i<sk.length) :
  (∃ j,(List.range i).any (fun j=>decide (mE sk i=mE sk j))=true∧aE Tp 0 (sub (cd Tryz.f31) [1,1,1,1,1,0,1,0,0,1,0,0,1,0,0]) (fW dl sk dc i 0) .ret (bG (fW dl sk dc i j) [(2,.p (aA 5))]))∨((List.range i).any (fun j=>decide (mE sk i=mE sk j))=false∧aE Tp 0 (sub (cd Tryz.f31) [1,1,1,1,1,0,1,0,0,1,0,0,1,0,0]) (fW dl sk dc i 0) (.exit 6) (fW dl sk dc i i)):=by
 have hx:∀ j,j<sk.length→∃ x,sk[j]? = some x∧x.length=2∧mE sk j=x.getD 0 0:=fun j hj=>⟨sk[j],kQ0 hj,hu _ (fV hj),by simp [mE,kQ5,kQ0 hj]⟩
 rcases aE.find (P:=Tp) (k:=0) (b:=(sub (cd Tryz.f31) [1,1,1,1,1,0,1,0,0,1,0,0,1,0,0])) (fun j=>fW dl sk dc i j) (fun j _=>bG (fW dl sk dc i j) [(2,.p (aA 5))]) (fW dl sk dc i i) .ret (.exit 6) (by simp) (by simp) (fun j=>decide (mE sk i=mE sk j)) (List.range i)
  (fun j x hj hp=>by
   have hji:j<i:=by have:=aT hj;simpa using this
   have hxj:x=j:=by rw [mQ hji] at hj;exact (Option.some.inj hj).symm
   subst hxj;obtain ⟨y,hy,ly,ky⟩:=hx i hi;obtain ⟨z,hz,lz,kz⟩:=hx x (by omega)
   obtain ⟨a,b,rfl⟩:=len2 ly;obtain ⟨c,d,rfl⟩:=len2 lz;have he:=of_decide_eq_false hp;rw [ky,kz] at he
   exact aZh (by omega) hy hu hz he (aO (by omega)) rfl)
  (fun j x hj hp=>by
   have hji:j<i:=by have:=aT hj;simpa using this
   have hxj:x=j:=by rw [mQ hji] at hj;exact (Option.some.inj hj).symm
   subst hxj;obtain ⟨y,hy,ly,ky⟩:=hx i hi;obtain ⟨z,hz,lz,kz⟩:=hx x (by omega)
   obtain ⟨a,b,rfl⟩:=len2 ly;obtain ⟨c,d,rfl⟩:=len2 lz;have he:=of_decide_eq_true hp;rw [ky,kz] at he
   exact aZg (by omega) hy hu hz he)
  (by rw [aHf];exact aZi (by omega)) with ⟨j,x,h1,h2,h3,h4⟩ | ⟨h1,h2,h3⟩
 ·exact .inl ⟨j,List.any_eq_true.2 ⟨x,kQ4 h1,h3⟩,h4⟩
 ·exact .inr ⟨h2,h3⟩
theorem rso(dl:Int)(sk dc:Lqq)(hu:uni 2 sk)(hl:sk.length≤1000) :
  (¬ (aK sk 0).Nodup∧∃ i,aE Tp 0 (sub (cd Tryz.f31) [1,1,1,1,1,0,1,0,0]) (eA dl sk dc 0) .ret (bG (eA dl sk dc i) [(2,.p (aA 5))]))∨((aK sk 0).Nodup∧aE Tp 0 (sub (cd Tryz.f31) [1,1,1,1,1,0,1,0,0]) (eA dl sk dc 0) (.exit 4) (eA dl sk dc sk.length)):=by
 rcases aE.find (P:=Tp) (k:=0) (b:=(sub (cd Tryz.f31) [1,1,1,1,1,0,1,0,0])) (fun i=>eA dl sk dc i) (fun i _=>bG (eA dl sk dc i) [(2,.p (aA 5))]) (eA dl sk dc sk.length) .ret (.exit 4) (by simp) (by simp) (fun i=>(List.range i).any fun j=>decide (mE sk i=mE sk j)) (List.range sk.length)
  (fun i x hj hp=>by
   have hi:i<sk.length:=by have:=aT hj;simpa using this
   have hxj:x=i:=by rw [mQ hi] at hj;exact (Option.some.inj hj).symm
   subst hxj
   rcases rsin dl sk dc hu hl x hi with ⟨j,h,_⟩ | ⟨_,h⟩
   ·rw [h] at hp;cases hp
   ·exact aYq (by omega) h (aO (by omega)) rfl)
  (fun i x hj hp=>by
   have hi:i<sk.length:=by have:=aT hj;simpa using this
   have hxj:x=i:=by rw [mQ hi] at hj;exact (Option.some.inj hj).symm
   subst hxj
   rcases rsin dl sk dc hu hl x hi with ⟨j,_,h⟩ | ⟨h,_⟩
   ·exact aYr (by omega) h
   ·rw [h] at hp;cases hp)
  (by rw [aHf];exact aYs (by omega)) with ⟨i,x,h1,h2,h3,h4⟩ | ⟨h1,h2,h3⟩
 ·refine .inl ⟨fun hn => ?_,i,h4⟩
  have hi:i<sk.length:=by have:=aT h1;simpa using this
  have hxj:x=i:=by rw [mQ hi] at h1;exact (Option.some.inj h1).symm
  subst hxj;obtain ⟨j,hj,he⟩:=List.any_eq_true.1 h3;exact (pU sk).1 hn x hi j (by simpa using hj) (of_decide_eq_true he)
 ·refine .inr ⟨(pU sk).2 fun i hi j hj he => ?_,h3⟩
  have:=List.any_eq_false.1 h2 i (sR.2 hi);exact this (List.any_eq_true.2 ⟨j,sR.2 hj,decide_eq_true he⟩)
theorem rdin(dl:Int)(sk dc:Lqq)(hu:uni 6 dc)(hl:dc.length≤1000)(i:Nat)(hi:i<dc.length) :
  (∃ j,(List.range i).any (fun j=>decide (mE dc i=mE dc j))=true∧aE Tp 0 (sub (cd Tryz.f31) [1,1,1,1,1,1,0,1,0,0,1,0,0,1,0,0]) (fX dl sk dc i 0) .ret (bG (fX dl sk dc i j) [(2,.p (aA 5))]))∨((List.range i).any (fun j=>decide (mE dc i=mE dc j))=false∧aE Tp 0 (sub (cd Tryz.f31) [1,1,1,1,1,1,0,1,0,0,1,0,0,1,0,0]) (fX dl sk dc i 0) (.exit 10) (fX dl sk dc i i)):=by
 have hx:∀ j,j<dc.length→∃ x,dc[j]? = some x∧x.length=6∧mE dc j=x.getD 0 0:=fun j hj=>⟨dc[j],kQ0 hj,hu _ (fV hj),by simp [mE,kQ5,kQ0 hj]⟩
 rcases aE.find (P:=Tp) (k:=0) (b:=(sub (cd Tryz.f31) [1,1,1,1,1,1,0,1,0,0,1,0,0,1,0,0])) (fun j=>fX dl sk dc i j) (fun j _=>bG (fX dl sk dc i j) [(2,.p (aA 5))]) (fX dl sk dc i i) .ret (.exit 10) (by simp) (by simp) (fun j=>decide (mE dc i=mE dc j)) (List.range i)
  (fun j x hj hp=>by
   have hji:j<i:=by have:=aT hj;simpa using this
   have hxj:x=j:=by rw [mQ hji] at hj;exact (Option.some.inj hj).symm
   subst hxj;obtain ⟨y,hy,ly,ky⟩:=hx i hi;obtain ⟨z,hz,lz,kz⟩:=hx x (by omega)
   obtain ⟨a,b,c,d,e,g,rfl⟩:=len6 ly;obtain ⟨a',b',c',d',e',g',rfl⟩:=len6 lz;have he:=of_decide_eq_false hp;rw [ky,kz] at he
   exact aZk (by omega) hy hu hz he (aO (by omega)) rfl)
  (fun j x hj hp=>by
   have hji:j<i:=by have:=aT hj;simpa using this
   have hxj:x=j:=by rw [mQ hji] at hj;exact (Option.some.inj hj).symm
   subst hxj;obtain ⟨y,hy,ly,ky⟩:=hx i hi;obtain ⟨z,hz,lz,kz⟩:=hx x (by omega)
   obtain ⟨a,b,c,d,e,g,rfl⟩:=len6 ly;obtain ⟨a',b',c',d',e',g',rfl⟩:=len6 lz;have he:=of_decide_eq_true hp;rw [ky,kz] at he
   exact aZj (by omega) hy hu hz he)
  (by rw [aHf];exact aZl (by omega)) with ⟨j,x,h1,h2,h3,h4⟩ | ⟨h1,h2,h3⟩
 ·exact .inl ⟨j,List.any_eq_true.2 ⟨x,kQ4 h1,h3⟩,h4⟩
 ·exact .inr ⟨h2,h3⟩
theorem rdo(dl:Int)(sk dc:Lqq)(hu:uni 6 dc)(hl:dc.length≤1000) :
  (¬ (aK dc 0).Nodup∧∃ i,aE Tp 0 (sub (cd Tryz.f31) [1,1,1,1,1,1,0,1,0,0]) (eO dl sk dc 0) .ret (bG (eO dl sk dc i) [(2,.p (aA 5))]))∨((aK dc 0).Nodup∧aE Tp 0 (sub (cd Tryz.f31) [1,1,1,1,1,1,0,1,0,0]) (eO dl sk dc 0) (.exit 8) (eO dl sk dc dc.length)):=by
 rcases aE.find (P:=Tp) (k:=0) (b:=(sub (cd Tryz.f31) [1,1,1,1,1,1,0,1,0,0])) (fun i=>eO dl sk dc i) (fun i _=>bG (eO dl sk dc i) [(2,.p (aA 5))]) (eO dl sk dc dc.length) .ret (.exit 8) (by simp) (by simp) (fun i=>(List.range i).any fun j=>decide (mE dc i=mE dc j)) (List.range dc.length)
  (fun i x hj hp=>by
   have hi:i<dc.length:=by have:=aT hj;simpa using this
   have hxj:x=i:=by rw [mQ hi] at hj;exact (Option.some.inj hj).symm
   subst hxj
   rcases rdin dl sk dc hu hl x hi with ⟨j,h,_⟩ | ⟨_,h⟩
   ·rw [h] at hp;cases hp
   ·exact aYt (by omega) h (aO (by omega)) rfl)
  (fun i x hj hp=>by
   have hi:i<dc.length:=by have:=aT hj;simpa using this
   have hxj:x=i:=by rw [mQ hi] at hj;exact (Option.some.inj hj).symm
   subst hxj
   rcases rdin dl sk dc hu hl x hi with ⟨j,_,h⟩ | ⟨h,_⟩
   ·exact aYu (by omega) h
   ·rw [h] at hp;cases hp)
  (by rw [aHf];exact aYv (by omega)) with ⟨i,x,h1,h2,h3,h4⟩ | ⟨h1,h2,h3⟩
 ·refine .inl ⟨fun hn => ?_,i,h4⟩
  have hi:i<dc.length:=by have:=aT h1;simpa using this
  have hxj:x=i:=by rw [mQ hi] at h1;exact (Option.some.inj h1).symm
  subst hxj;obtain ⟨j,hj,he⟩:=List.any_eq_true.1 h3;exact (pU dc).1 hn x hi j (by simpa using hj) (of_decide_eq_true he)
 ·refine .inr ⟨(pU dc).2 fun i hi j hj he => ?_,h3⟩
  have:=List.any_eq_false.1 h2 i (sR.2 hi);exact this (List.any_eq_true.2 ⟨j,sR.2 hj,decide_eq_true he⟩)
theorem jF{n a b:Int}(h:within n a b=true):bZ n a b=false:=by unfold bZ;rw [h];rfl
theorem aLc{n a b:Int}(h:within n a b=false):bZ n a b=true:=by unfold bZ;rw [h];rfl
theorem aPi(a b:Int):skB [a,b]=(within a 1 999 && within b (-1) 360000):=rfl
theorem r0(dl:Int)(sk dc:Lqq)(hu:uni 2 sk)(hl:sk.length≤1000):(sk.all skB=false∧∃ i,aE Tp 0 (sub (cd Tryz.f31) [1,1,1,0,1,0,0]) (dA dl sk dc 0) .ret (bG (dA dl sk dc i) [(2,.p (aA 3))]))∨(sk.all skB=true∧aE Tp 0 (sub (cd Tryz.f31) [1,1,1,0,1,0,0]) (dA dl sk dc 0) (.exit 0) (dA dl sk dc sk.length)):=by
 rcases aE.find (P:=Tp) (k:=0) (b:=(sub (cd Tryz.f31) [1,1,1,0,1,0,0])) (fun i=>dA dl sk dc i) (fun i _=>bG (dA dl sk dc i) [(2,.p (aA 3))]) (dA dl sk dc sk.length) .ret (.exit 0) (by simp) (by simp) (fun x => !skB x) sk
  (fun i x hx hp=>by
   obtain ⟨a,b,rfl⟩:=len2 (hu _ (kQ4 hx));have hp:skB [a,b]=true:=by simpa using hp
   rw [aPi,kQ6] at hp
   have:=aT hx;exact aYe (by omega) hx hu (jF hp.1) (jF hp.2) (aO (by omega)) rfl)
  (fun i x hx hp=>by
   obtain ⟨a,b,rfl⟩:=len2 (hu _ (kQ4 hx));have hp:skB [a,b]=false:=by simpa using hp
   have:=aT hx;rw [aPi] at hp
   cases h1:within a 1 999 with
   | false=>exact aYc (by omega) hx hu (aLc h1)
   | true=>rw [h1,iC] at hp;exact aYd (by omega) hx hu (jF h1) (aLc hp))
  (aYf (by omega)) with ⟨i,x,h1,h2,h3,h4⟩ | ⟨h1,h2,h3⟩
 ·exact .inl ⟨by rw [← zN,eL h2];simp,i,h4⟩
 ·exact .inr ⟨by rw [List.all_eq_not_any_not,h2];rfl,h3⟩
theorem r1 (dl:Int) (sk dc:Lqq) (hu:uni 6 dc) (hl:dc.length≤1000):(dc.all dcB=false∧∃ i,aE Tp 0 (sub (cd Tryz.f31) [1,1,1,1,0,1,0,0]) (cJ dl sk dc 0) .ret (bG (cJ dl sk dc i) [(2,.p (aA 3))]))∨(dc.all dcB=true∧aE Tp 0 (sub (cd Tryz.f31) [1,1,1,1,0,1,0,0]) (cJ dl sk dc 0) (.exit 2) (cJ dl sk dc dc.length)):=by
 rcases aE.find (P:=Tp) (k:=0) (b:=(sub (cd Tryz.f31) [1,1,1,1,0,1,0,0])) (fun i=>cJ dl sk dc i) (fun i _=>bG (cJ dl sk dc i) [(2,.p (aA 3))]) (cJ dl sk dc dc.length) .ret (.exit 2) (by simp) (by simp) (fun x => !dcB x) dc
  (fun i x hx hp=>by
   obtain ⟨a,b,c,d,e,f,rfl⟩:=len6 (hu _ (kQ4 hx));have hp:dcB [a,b,c,d,e,f]=true:=by simpa using hp
   rw [gS,kQ6,kQ6,kQ6] at hp
   obtain ⟨p1,p2,p3,p4⟩:=hp;have:=aT hx;have q2:=bY.1 p2;have q4:=bY.1 p4;have hm:within e 0 36000=true:=bY.2 ⟨q4.1,by have:=q4.2;unfold lV at this;split at this <;> omega⟩
   by_cases he:0<e
   ·have hk:¬ (b=3∨¬ b≤4∧b≠6):=fun h=>by
     have:=q4.2;unfold lV at this
     rw [if_pos h] at this
     omega
    exact aYn (by omega) hx hu (jF p1) (jF p2) (jF p3) (jF hm) he (by omega) (by omega) (by omega) (aO (by omega)) rfl
   ·exact aYo (by omega) hx hu (jF p1) (jF p2) (jF p3) (jF hm) (by omega) (aO (by omega)) rfl)
  (fun i x hx hp=>by
   obtain ⟨a,b,c,d,e,f,rfl⟩:=len6 (hu _ (kQ4 hx));have hp:dcB [a,b,c,d,e,f]=false:=by simpa using hp
   have:=aT hx;rw [gS] at hp
   cases p1:within a 1 9999 with
   | false=>exact aYg (by omega) hx hu (aLc p1)
   | true =>
   cases p2:within b 0 9 with
   | false=>exact aYh (by omega) hx hu (jF p1) (aLc p2)
   | true =>
   cases p3:within c 0 10000 with
   | false=>exact aYi (by omega) hx hu (jF p1) (jF p2) (aLc p3)
   | true =>
   cases p4:within e 0 36000 with
   | false=>exact aYj (by omega) hx hu (jF p1) (jF p2) (jF p3) (aLc p4)
   | true =>
    rw [p1,p2,p3,iC,iC,iC] at hp
    have q2:=bY.1 p2;have q4:=bY.1 p4;have hk:(b=3∨¬ b≤4∧b≠6)∧0<e:=by
     unfold lV at hp
     split at hp
     ·rename_i hk
      refine ⟨hk,?_⟩
      rcases Int.lt_or_le 0 e with h | h
      ·exact h
      ·rw [bY.2 ⟨q4.1,h⟩] at hp;cases hp
     ·rw [p4] at hp;cases hp
    by_cases h3:b=3
    ·exact aYk (by omega) hx hu (jF p1) (jF p2) (jF p3) (jF p4) hk.2 h3
    ·by_cases h5:b=5
     ·exact aYl (by omega) hx hu (jF p1) (jF p2) (jF p3) (jF p4) hk.2 h3 h5
     ·exact aYm (by omega) hx hu (jF p1) (jF p2) (jF p3) (jF p4) hk.2 h3 h5 (by omega))
  (aYp (by omega)) with ⟨i,x,h1,h2,h3,h4⟩ | ⟨h1,h2,h3⟩
 ·exact .inl ⟨by rw [← zN,eL h2];simp,i,h4⟩
 ·exact .inr ⟨by rw [List.all_eq_not_any_not,h2];rfl,h3⟩
theorem aTg(sk:Lqq)(v:Int):decide (0≤bD (fun x=>decide (x.getD 0 0=v)) sk)=(aK sk 0).contains v:=by
 have:=lK (fun x:List Int=>decide (x.getD 0 0=v)) sk
 rw [show decide (0≤bD (fun x=>decide (x.getD 0 0=v)) sk)=decide (bD (fun x=>decide (x.getD 0 0=v)) sk ≥ 0) from rfl,this]
 unfold aK;rw [Bool.eq_iff_iff];simp [List.any_eq_true,List.contains_iff_mem,fF]
theorem bGm(sk:Lqq)(a b c d e f:Int):inB sk [a,b,c,d,e,f]=if b≤4 then (aK sk 0).contains d else d == 0:=rfl
theorem r6(dl:Int)(sk dc:Lqq)(us:uni 2 sk)(ls:sk.length≤1000)(hu:uni 6 dc)(hl:dc.length≤1000):(dc.all (inB sk)=false∧∃ i,aE Tp 0 (sub (cd Tryz.f31) [1,1,1,1,1,1,1,0,1,0,0]) (eI dl sk dc 0) .ret (bG (eI dl sk dc i) [(2,.p (aA 1))]))∨(dc.all (inB sk)=true∧aE Tp 0 (sub (cd Tryz.f31) [1,1,1,1,1,1,1,0,1,0,0]) (eI dl sk dc 0) (.exit 12) (eI dl sk dc dc.length)):=by
 rcases aE.find (P:=Tp) (k:=0) (b:=(sub (cd Tryz.f31) [1,1,1,1,1,1,1,0,1,0,0])) (fun i=>eI dl sk dc i) (fun i _=>bG (eI dl sk dc i) [(2,.p (aA 1))]) (eI dl sk dc dc.length) .ret (.exit 12) (by simp) (by simp) (fun x => !inB sk x) dc
  (fun i x hx hp=>by
   obtain ⟨a,b,c,d,e,f,rfl⟩:=len6 (hu _ (kQ4 hx));have hp:inB sk [a,b,c,d,e,f]=true:=by simpa using hp
   have:=aT hx;rw [bGm] at hp
   by_cases hb:b≤4
   ·rw [if_pos hb,← aTg] at hp
    exact aYz (by omega) hx hu hb (by omega) us ls (of_decide_eq_true hp) (aO (by omega)) rfl
   ·rw [if_neg hb] at hp
    exact aYx (by omega) hx hu (by omega) (by simpa using hp) (by omega) (aO (by omega)) rfl)
  (fun i x hx hp=>by
   obtain ⟨a,b,c,d,e,f,rfl⟩:=len6 (hu _ (kQ4 hx));have hp:inB sk [a,b,c,d,e,f]=false:=by simpa using hp
   have:=aT hx;rw [bGm] at hp
   by_cases hb:b≤4
   ·rw [if_pos hb,← aTg] at hp
    have:=of_decide_eq_false hp;exact aYy (by omega) hx hu hb (by omega) us ls (by omega)
   ·rw [if_neg hb] at hp
    exact aYw (by omega) hx hu (by omega) (by simpa using hp))
  (aZa (by omega)) with ⟨i,x,h1,h2,h3,h4⟩ | ⟨h1,h2,h3⟩
 ·exact .inl ⟨by rw [← zN,eL h2];simp,i,h4⟩
 ·exact .inr ⟨by rw [List.all_eq_not_any_not,h2];rfl,h3⟩
theorem bGn(a b c d e f:Int):orB [a,b,c,d,e,f]=if b≤4 then f == 0 else within f 1 (a-1):=rfl
theorem r7(dl:Int)(sk dc:Lqq)(hu:uni 6 dc)(hl:dc.length≤1000)(hr:∀ x∈dc,inR (x.getD 0 0-1)):(dc.all orB=false∧∃ i,aE Tp 0 (sub (cd Tryz.f31) [1,1,1,1,1,1,1,1,0,1,0,0]) (fA dl sk dc 0) .ret (bG (fA dl sk dc i) [(2,.p (aA 4))]))∨(dc.all orB=true∧aE Tp 0 (sub (cd Tryz.f31) [1,1,1,1,1,1,1,1,0,1,0,0]) (fA dl sk dc 0) (.exit 14) (fA dl sk dc dc.length)):=by
 rcases aE.find (P:=Tp) (k:=0) (b:=(sub (cd Tryz.f31) [1,1,1,1,1,1,1,1,0,1,0,0])) (fun i=>fA dl sk dc i) (fun i _=>bG (fA dl sk dc i) [(2,.p (aA 4))]) (fA dl sk dc dc.length) .ret (.exit 14) (by simp) (by simp) (fun x => !orB x) dc
  (fun i x hx hp=>by
   have hin:=hr x (kQ4 hx);obtain ⟨a,b,c,d,e,f,rfl⟩:=len6 (hu _ (kQ4 hx));have hin:inR (a-1):=hin;have hp:orB [a,b,c,d,e,f]=true:=by simpa using hp
   have:=aT hx;rw [bGn] at hp
   by_cases hb:b≤4
   ·rw [if_pos hb] at hp
    exact aZc (by omega) hx hu (by omega) (by simpa using hp) hb (aO (by omega)) rfl
   ·rw [if_neg hb] at hp
    exact aZe (by omega) hx hu (by omega) (by omega) hin (jF hp) (aO (by omega)) rfl)
  (fun i x hx hp=>by
   have hin:=hr x (kQ4 hx);obtain ⟨a,b,c,d,e,f,rfl⟩:=len6 (hu _ (kQ4 hx));have hin:inR (a-1):=hin;have hp:orB [a,b,c,d,e,f]=false:=by simpa using hp
   have:=aT hx;rw [bGn] at hp
   by_cases hb:b≤4
   ·rw [if_pos hb] at hp
    exact aZb (by omega) hx hu (by omega) (by simpa using hp)
   ·rw [if_neg hb] at hp
    exact aZd (by omega) hx hu (by omega) (by omega) hin (aLc hp))
  (aZf (by omega)) with ⟨i,x,h1,h2,h3,h4⟩ | ⟨h1,h2,h3⟩
 ·exact .inl ⟨by rw [← zN,eL h2];simp,i,h4⟩
 ·exact .inr ⟨by rw [List.all_eq_not_any_not,h2];rfl,h3⟩
theorem aHo(dl:Int)(sk dc:Lqq)(us:uni 2 sk)(ud:uni 6 dc){base:Nat}:FV Tp 31 [.p (.agg (bB dl sk dc))] base (.p (aA (dC dl sk dc))) []:=by
 unfold dC
 by_cases h1:(sk.length:Int)<1
 ·rw [if_pos (.inl (by unfold within;rw [decide_eq_false (by omega)];rfl))];exact bSb h1
 by_cases h2:(30:Int)<(sk.length:Int)
 ·rw [if_pos (.inl (by unfold within;rw [decide_eq_false (p:=(sk.length:Int)≤30) (by omega),Bool.and_false]))];exact bSc (by omega) h2
 by_cases h3:(40:Int)<(dc.length:Int)
 ·rw [if_pos (.inr h3)];exact bSd (by omega) (by omega) h3
 have hw:within (sk.length:Int) 1 30=true:=bY.2 (by omega)
 rw [if_neg (by rw [hw];simp;omega)]
 cases h4:within dl 0 10000 with
 | false=>rw [if_pos (.inl rfl)];exact bSe (by omega) (by omega) (by omega) (aLc h4)
 | true =>
 have o4:=jF h4;have a1:(1:Int)≤(sk.length:Int):=by omega
 have a2:(sk.length:Int)≤30:=by omega
 have a3:(dc.length:Int)≤40:=by omega
 rcases r0 dl sk dc us (by omega) with ⟨q0,i0,L0⟩ | ⟨q0,L0⟩
 ·rw [if_pos (.inr (.inl q0))];exact bLb a1 a2 a3 o4 L0
 rcases r1 dl sk dc ud (by omega) with ⟨q1,i1,L1⟩ | ⟨q1,L1⟩
 ·rw [if_pos (.inr (.inr q1))];exact bSk a1 a2 a3 o4 L0 L1
 rw [if_neg (by rw [q0,q1];simp)]
 rcases rso dl sk dc us (by omega) with ⟨q2,i2,L2⟩ | ⟨q2,L2⟩
 ·rw [if_pos (.inl q2)];exact bSj a1 a2 a3 o4 L0 L1 L2
 rcases rdo dl sk dc ud (by omega) with ⟨q3,i3,L3⟩ | ⟨q3,L3⟩
 ·rw [if_pos (.inr q3)];exact bSi a1 a2 a3 o4 L0 L1 L2 L3
 rw [if_neg (by simp [q2,q3])]
 rcases r6 dl sk dc us (by omega) ud (by omega) with ⟨q6,i6,L6⟩ | ⟨q6,L6⟩
 ·rw [if_pos q6];exact bSh a1 a2 a3 o4 L0 L1 L2 L3 L6
 rw [if_neg (by rw [q6];simp)]
 have hr:∀ x∈dc,inR (x.getD 0 0-1):=fun x hx=>by
  have:=gU.1 (jY.1 q1 x hx);unfold inR;omega
 rcases r7 dl sk dc ud (by omega) hr with ⟨q7,i7,L7⟩ | ⟨q7,L7⟩
 ·rw [if_pos q7];exact bSg a1 a2 a3 o4 L0 L1 L2 L3 L6 L7
 rw [if_neg (by rw [q7];simp)]
 exact bSf a1 a2 a3 o4 L0 L1 L2 L3 L6 L7
end
section
variable {dl:Int}{sk dc:Lqq}

noncomputable abbrev aBu:Code:=sub (cd Tryz.f36) [1,1,0,1,0,0]
noncomputable abbrev aBv:Code:=sub (cd Tryz.f36) [1,1,1,0,1,0,0]
theorem bGk{r:Int}(dl:Int)(sk dc:Lqq)(v:Int)(hu:uni 2 sk)(hl:sk.length≤1000)(h:bD (fun x=>decide (x.getD 0 0=v)) sk=r){base:Nat}:FV Tp 92 [.p (.agg (bB dl sk dc)),.p (aA v)] base (pI r) []:=by
 have q:=aPj dl sk dc v hu hl (base:=base);rw [h] at q
 exact q
theorem aBw{r:Int}(dl:Int)(sk dc:Lqq)(v:Int)(hu:uni 6 dc)(hl:dc.length≤1000)(h:bD (fun x=>decide (x.getD 0 0=v)) dc=r){base:Nat}:FV Tp 101 [.p (.agg (bB dl sk dc)),.p (aA v)] base (pI r) []:=by
 have q:=bSa dl sk dc v hu hl (base:=base);rw [h] at q
 exact q
def jD(dl:Int)(sk:Lqq)(dc:Lqq)(b:Nat)(on:Nat)(oc:List PV):St:=⟨fr 59 [(1,(.ptr 0 0)),(2,(.ptr 1 0)),(3,(.ptr 2 0)),(4,(pI (b:Int)))],[some (.box 61 [(pI dl),(.p (fS sk)),(.p (fS dc))]),some (.box 61 [(pI 0),(.p bI),(.p bI)]),some (.box 61 [(pI dl),(.own 3),(.p bI)]),some (.row 73 on oc)]⟩
def jE(dl:Int)(sk:Lqq)(dc:Lqq)(o'1:Lqq)(n:Nat)(qn:Nat)(qc:List PV):St:=⟨fr 59 [(1,(.ptr 0 0)),(2,(.ptr 1 0)),(3,(.ptr 2 0)),(6,(pI (n:Int)))],[some (.box 61 [(pI dl),(.p (fS sk)),(.p (fS dc))]),some (.box 61 [(pI 0),(.p bI),(.p bI)]),some (.box 61 [(pI dl),(.own 3),(.own 4)]),some (.row 73 o'1.length (o'1.flatten.map aA)),some (.row 119 qn qc)]⟩
theorem bRv{b'0:Nat}{o'1:Lqq}{n'2:Nat}{q'3:Lqq}(hl0:aE Tp 0 aBu (jD dl sk dc 1 0 []) (.exit 0) (jD dl sk dc b'0 o'1.length (o'1.flatten.map aA)))(hl1:aE Tp 0 aBv (jE dl sk dc o'1 1 0 []) (.exit 2) (jE dl sk dc o'1 n'2 q'3.length (q'3.flatten.map aA))){base:Nat}:FV Tp 36 [(.p (.agg (bB dl sk dc)))] base (.p (.agg (bB dl o'1 q'3))) []:=by
 exact FV.frz (FMM.fin (k:=0) (g:=⟨[],[],[3,4],[]⟩) rfl Tryz.func36 rfl (o:=[.k 8 ⟨(rng [(0,1),(5,1),(8,22)]),[0,1,2,3],[],[(102001,73)]⟩ (.exit 0) (jD dl sk dc b'0 o'1.length (o'1.flatten.map aA)),.k 4 ⟨(rng [(0,1),(4,2),(7,51)]),[0,1,2,3,4],[],[(102002,119)]⟩ (.exit 2) (jE dl sk dc o'1 n'2 q'3.length (q'3.flatten.map aA))]) (l:=[_,_]) (by kernel_rfl) (gc hl1.code (gc hl0.code gn))) (by kernel_rfl)
theorem aXp{b:Nat}{o:Lqq}{z100 y101 y102:Int}{b':Nat}{o':Lqq}(h0:(b:Int)≤999)(h1:uni 2 sk)(h2:sk.length≤1000)(h3:bD (fun x=>decide (x.getD 0 0=(b:Int))) sk=z100)(h4:(0:Int)≤z100)(h5:sk[z100.toNat]? = some [y101,y102])(h6:0≤z100)(h7:[(aA y101),(aA y102)].length=1*2∧o.length+1≤1000000)(h8:inR (((b+1):Nat):Int))(eb':b'=(b+1))(eo'n:o'.length=(o.length+1))(eo'c:o'.flatten.map aA=((o.flatten.map aA)++[(aA y101),(aA y102)])):aC Tp 0 aBu (jD dl sk dc b o.length (o.flatten.map aA)) .normal (jD dl sk dc b' o'.length (o'.flatten.map aA)):=by
 subst eb';have raw:aC Tp 0 aBu (jD dl sk dc b o.length (o.flatten.map aA)) .normal (jD dl sk dc (b+1) (o.length+1) ((o.flatten.map aA)++[(aA y101),(aA y102)])):=aC.fin (g:=⟨(rng [(0,1),(5,1),(8,22)]),[0,1,2,5],[],[]⟩) (o:=[bT,.c (pI z100) [],bT,.x (.agg [(aA y101),(aA y102)])]) (l:=[_,_,[(aA y101),(aA y102)].length=2,_,_,0≤z100∧z100<(sk.length:Int)∧(z100.toNat*2)<(sk.flatten.map aA).length,_,_,_]) (by kernel_rfl) (gc h8 (gc h7 (gc (by first | decide | simp) (gc (aL (i:=z100.toNat) h1 h5) (gc (aW (i:=z100.toNat) h1 h5) (gc (aV (k:=2) (i:=z100) (by decide) h1 h6 h5) (gc (mD h4) (gc (fk 4 (bGk dl sk dc (b:Int) h1 h2 h3) rfl) (gc (mD h0) gn)))))))))
 exact raw.cast (by rw [eo'n,eo'c])
theorem aXq{b:Nat}{o:Lqq}{z100:Int}{b':Nat}(h0:(b:Int)≤999)(h1:uni 2 sk)(h2:sk.length≤1000)(h3:bD (fun x=>decide (x.getD 0 0=(b:Int))) sk=z100)(h4:z100<0)(h5:inR (((b+1):Nat):Int))(eb':b'=(b+1)):aC Tp 0 aBu (jD dl sk dc b o.length (o.flatten.map aA)) .normal (jD dl sk dc b' o.length (o.flatten.map aA)):=by
 subst eb';exact aC.fin (g:=⟨(rng [(0,1),(5,1),(8,22)]),[0,1,2,3],[],[]⟩) (o:=[bT,.c (pI z100) [],bF]) (l:=[_,_,_,_]) (by kernel_rfl) (gc h5 (gc (lT h4) (gc (fk 4 (bGk dl sk dc (b:Int) h1 h2 h3) rfl) (gc (mD h0) gn))))
theorem aXr{b:Nat}{o:Lqq}(h0:(999:Int)<(b:Int)):aC Tp 0 aBu (jD dl sk dc b o.length (o.flatten.map aA)) (.exit 0) (jD dl sk dc b o.length (o.flatten.map aA)):=by
 exact aC.fin (g:=⟨(rng [(0,1),(5,1),(8,22)]),[0,1,2,3],[],[]⟩) (o:=[bF]) (l:=[_]) (by kernel_rfl) (gc (lT h0) gn)
theorem aXs{dl:Int}{sk dc o'1:Lqq}{n:Nat}{q:Lqq}{z200 y201 y202 y203 y204 y205 y206:Int}{n':Nat}{q':Lqq}(h0:(n:Int)≤9999)(h1:(q.length:Int)<(dc.length:Int))(h2:uni 6 dc)(h3:dc.length≤1000)(h4:bD (fun x=>decide (x.getD 0 0=(n:Int))) dc=z200)(h5:(0:Int)≤z200)(h6:dc[z200.toNat]? = some [y201,y202,y203,y204,y205,y206])(h7:0≤z200)(h8:[(aA y201),(aA y202),(aA y203),(aA y204),(aA y205),(aA y206)].length=1*6∧q.length+1≤1000000)(h9:inR (((n+1):Nat):Int))(en':n'=(n+1))(eq'n:q'.length=(q.length+1))(eq'c:q'.flatten.map aA=((q.flatten.map aA)++[(aA y201),(aA y202),(aA y203),(aA y204),(aA y205),(aA y206)])):aC Tp 0 aBv (jE dl sk dc o'1 n q.length (q.flatten.map aA)) .normal (jE dl sk dc o'1 n' q'.length (q'.flatten.map aA)):=by
 subst en';have raw:aC Tp 0 aBv (jE dl sk dc o'1 n q.length (q.flatten.map aA)) .normal (jE dl sk dc o'1 (n+1) (q.length+1) ((q.flatten.map aA)++[(aA y201),(aA y202),(aA y203),(aA y204),(aA y205),(aA y206)])):=aC.fin (g:=⟨(rng [(0,1),(4,2),(7,51)]),[0,1,2,3,6],[],[]⟩) (o:=[bT,bT,bT,bT,bT,bT,bT,bT,bT,.c (pI z200) [],bT,.x (dcE y201 y202 y203 y204 y205 y206)]) (l:=[_,_,[(aA y201),(aA y202),(aA y203),(aA y204),(aA y205),(aA y206)].length=6,_,_,0≤z200∧z200<(dc.length:Int)∧(z200.toNat*6)<(dc.flatten.map aA).length,_,_,_,_,_,_,_,_,_,_,_]) (by kernel_rfl) (gc h9 (gc h8 (gc (by first | decide | simp) (gc (aL (i:=z200.toNat) h2 h6) (gc (aW (i:=z200.toNat) h2 h6) (gc (aV (k:=6) (i:=z200) (by decide) h2 h7 h6) (gc (mD h5) (gc (fk 5 (aBw dl sk dc (n:Int) h2 h3 h4) rfl) (gc (aQ h1) (g8c (mD h0) gn))))))))))
 exact raw.cast (by rw [eq'n,eq'c])
theorem aXt{dl:Int}{sk dc o'1:Lqq}{n:Nat}{q:Lqq}{z200:Int}{n':Nat}(h0:(n:Int)≤9999)(h1:(q.length:Int)<(dc.length:Int))(h2:uni 6 dc)(h3:dc.length≤1000)(h4:bD (fun x=>decide (x.getD 0 0=(n:Int))) dc=z200)(h5:z200<0)(h6:inR (((n+1):Nat):Int))(en':n'=(n+1)):aC Tp 0 aBv (jE dl sk dc o'1 n q.length (q.flatten.map aA)) .normal (jE dl sk dc o'1 n' q.length (q.flatten.map aA)):=by
 subst en';exact aC.fin (g:=⟨(rng [(0,1),(4,2),(7,51)]),[0,1,2,3,4],[],[]⟩) (o:=[bT,bT,bT,bT,bT,bT,bT,bT,bT,.c (pI z200) [],bF]) (l:=[_,_,_,_,_,_,_,_,_,_,_,_]) (by kernel_rfl) (gc h6 (gc (lT h5) (gc (fk 5 (aBw dl sk dc (n:Int) h2 h3 h4) rfl) (gc (aQ h1) (g8c (mD h0) gn)))))
theorem aXu{dl:Int}{sk dc o'1:Lqq}{n:Nat}{q:Lqq}(h0:(n:Int)≤9999)(h1:(dc.length:Int)≤(q.length:Int)):aC Tp 0 aBv (jE dl sk dc o'1 n q.length (q.flatten.map aA)) (.exit 2) (jE dl sk dc o'1 n q.length (q.flatten.map aA)):=by
 exact aC.fin (g:=⟨(rng [(0,1),(4,2),(7,51)]),[0,1,2,3,4],[],[]⟩) (o:=[bT,bT,bT,bT,bT,bT,bT,bT,bF]) (l:=[_,_,_,_,_,_,_,_,_]) (by kernel_rfl) (gc (aR h1) (g8c (mD h0) gn))
theorem aXv{dl:Int}{sk dc o'1:Lqq}{n:Nat}{q:Lqq}(h0:(9999:Int)<(n:Int)):aC Tp 0 aBv (jE dl sk dc o'1 n q.length (q.flatten.map aA)) (.exit 2) (jE dl sk dc o'1 n q.length (q.flatten.map aA)):=by
 exact aC.fin (g:=⟨(rng [(0,1),(4,2),(7,51)]),[0,1,2,3,4],[],[]⟩) (o:=[bF,bF,bF,bF,bF,bF,bF,bF]) (l:=[_,_,_,_,_,_,_,_]) (by kernel_rfl) (g8c (lT h0) gn)
theorem sJ{l:Lqq}{p:List Int→Bool}(h:∀ x∈l,p x=false):l.filter p=[]:=List.filter_eq_nil_iff.2 fun x hx=>by rw [h x hx];simp
theorem uA(n:Int):∀ {l:Lqq},l.Pairwise (fun a b=>a.getD 0 0≤b.getD 0 0)→l.filter (fun x=>decide (x.getD 0 0<n+1))=l.filter (fun x=>decide (x.getD 0 0<n))++l.filter (fun x=>decide (x.getD 0 0=n))
 | [],_=>rfl
 | x::l,h=>by
  rw [List.pairwise_cons] at h
  have ih:=uA n h.2
  rcases Int.lt_trichotomy (x.getD 0 0) n with hx | hx | hx
  ·rw [List.filter_cons_of_pos (by rw [decide_eq_true_iff];omega),List.filter_cons_of_pos (by rw [decide_eq_true_iff];omega),List.filter_cons_of_neg (by rw [decide_eq_true_iff];omega),ih]
   rfl
  ·rw [List.filter_cons_of_pos (by rw [decide_eq_true_iff];omega),List.filter_cons_of_neg (by rw [decide_eq_true_iff];omega),List.filter_cons_of_pos (by rw [decide_eq_true_iff];omega),ih,
    sJ (l:=l) (p:=fun x=>decide (x.getD 0 0<n)) (fun y hy=>decide_eq_false (by have:=h.1 y hy;omega))]
   rfl
  ·rw [List.filter_cons_of_neg (by rw [decide_eq_true_iff];omega),List.filter_cons_of_neg (by rw [decide_eq_true_iff];omega),List.filter_cons_of_neg (by rw [decide_eq_true_iff];omega),ih]
theorem aKx:∀ {l:Lqq} {x:List Int},(aK l 0).Nodup→x∈l→l.filter (fun y=>decide (y.getD 0 0=x.getD 0 0))=[x]
 | [],x,_,h=>by cases h
 | y::l,x,hn,h=>by
  have hn':=hn;unfold aK at hn
  rw [iM,List.nodup_cons] at hn
  rcases kM.1 h with rfl | h
  ·rw [List.filter_cons_of_pos (by simp),sJ (fun z hz=>decide_eq_false fun e=>hn.1 (fF.2 ⟨z,hz,e⟩))]
  ·rw [List.filter_cons_of_neg (by rw [decide_eq_true_iff];exact fun e=>hn.1 (fF.2 ⟨x,h,e.symm⟩))]
   exact aKx hn.2 h
def upto(f:Lqq)(n:Nat):Lqq:=(aB f).filter fun x=>decide (x.getD 0 0<(n:Int))
theorem aKy{f:Lqq}(h:(aK f 0).Nodup):(aK (aB f) 0).Nodup:=((dY f).map _).nodup_iff.2 h
theorem aKz{f:Lqq}(hn:(aK f 0).Nodup){n:Nat}{x:List Int}(hx:x∈f)(hk:x.getD 0 0=(n:Int)):upto f (n+1)=upto f n++[x]:=by
 unfold upto;have e:((n+1:Nat):Int)=(n:Int)+1:=by omega
 rw [e,uA (n:Int) (mF f)];have:=aKx (aKy hn) ((dY f).mem_iff.2 hx);rw [hk] at this
 rw [this]
theorem aFb{f:Lqq}{n:Nat}(h:∀ x∈f,x.getD 0 0≠(n:Int)):upto f (n+1)=upto f n:=by
 unfold upto;have e:((n+1:Nat):Int)=(n:Int)+1:=by omega
 rw [e,uA (n:Int) (mF f),sJ (l:=aB f) (p:=fun x=>decide (x.getD 0 0=(n:Int))) (fun x hx=>decide_eq_false (h x ((dY f).mem_iff.1 hx))),List.append_nil]
theorem aLa{f:Lqq}{n:Nat}(h:∀ x∈f,x.getD 0 0<(n:Int)):upto f n=aB f:=List.filter_eq_self.2 fun x hx=>decide_eq_true (h x ((dY f).mem_iff.1 hx))
theorem bGl{f:Lqq}{n:Nat}(h:f.length≤(upto f n).length):upto f n=aB f:=by
 have h1:(upto f n).length≤(aB f).length:=rF _ _;have h2:=fM f;exact (List.filter_sublist).eq_of_length (by unfold upto at h h1;omega)
theorem aFc{f:Lqq}(h:∀ x∈f,1≤x.getD 0 0):upto f 1=[]:=sJ fun x hx=>decide_eq_false (by have:=h x ((dY f).mem_iff.1 hx);omega)
theorem aTe(f:Lqq)(n:Nat):(upto f n).length≤f.length:=by
 have h1:(upto f n).length≤(aB f).length:=rF _ _;rw [fM] at h1;exact h1
theorem aTf{f:Lqq}{v:Int}(h:0≤bD (fun x=>decide (x.getD 0 0=v)) f):∃ x,f[(bD (fun x=>decide (x.getD 0 0=v)) f).toNat]? = some x∧x.getD 0 0=v:=by
 unfold bD at h ⊢
 cases hq:f.findIdx? fun x=>decide (x.getD 0 0=v) with
 | none=>rw [hq] at h;simp at h
 | some i =>
  obtain ⟨hi,hp,_⟩:=List.findIdx?_eq_some_iff_getElem.1 hq;exact ⟨f[i],by simp [kQ0 hi],of_decide_eq_true hp⟩
theorem aLb{f:Lqq}{v:Int}(h:bD (fun x=>decide (x.getD 0 0=v)) f<0):∀ x∈f,x.getD 0 0≠v:=by
 unfold bD at h
 cases hq:f.findIdx? fun x=>decide (x.getD 0 0=v) with
 | none=>intro x hx e;have:=List.findIdx?_eq_none_iff.1 hq x hx;rw [decide_eq_true e] at this;cases this
 | some i=>rw [hq] at h;simp at h;omega
theorem aPh(dl:Int)(sk dc:Lqq)(h:cM dl sk dc){base:Nat}:FV Tp 36 [.p (.agg (bB dl sk dc))] base (.p (.agg (bB dl (aB sk) (aB dc)))) []:=by
 have l1:=h.len;have l2:=h.len2;have k1:∀ x∈sk,1≤x.getD 0 0∧x.getD 0 0≤999:=fun x hx=>(zL.1 (h.hsk x hx)).1
 have k2:∀ x∈dc,1≤x.getD 0 0∧x.getD 0 0≤9999:=fun x hx=>(gU.1 (h.hdc x hx)).1
 have L0:aE Tp 0 aBu (jD dl sk dc 1 0 []) (.exit 0) (jD dl sk dc 1000 (aB sk).length ((aB sk).flatten.map aA)):=by
  have L:=aE.count (P:=Tp) (k:=0) (b:=aBu) (e := .exit 0) (R:=jD dl sk dc 1000 (aB sk).length ((aB sk).flatten.map aA)) 999 (fun i=>jD dl sk dc (i+1) (upto sk (i+1)).length ((upto sk (i+1)).flatten.map aA))
   (fun i hi=>by
    by_cases hx:0≤bD (fun x=>decide (x.getD 0 0=(((i+1:Nat)):Int))) sk
    ·obtain ⟨x,h1,h2⟩:=aTf hx
     obtain ⟨a,b,rfl⟩:=len2 (h.us _ (kQ4 h1));have e:=aKz h.ns (kQ4 h1) h2;have:=aTe sk (i+1);exact aXp (b:=i+1) (o:=upto sk (i+1)) (o':=upto sk (i+1+1)) (by omega) h.us (by omega) rfl hx h1 hx ⟨rfl,by omega⟩ (aO (by omega)) rfl (by rw [e];simp) (by rw [e];exact (sK (l:=upto sk (i+1)) (x:=[a,b])).symm)
    ·rw [aFb (n:=i+1) (aLb (by omega))]
     exact aXq (b:=i+1) (by omega) h.us (by omega) rfl (by omega) (aO (by omega)) rfl)
   (by rw [show upto sk (999+1)=aB sk from aLa fun x hx=>by have:=k1 x hx;omega];exact aXr (by omega)) (by simp)
  have e:=aFc (f:=sk) fun x hx=>(k1 x hx).1
  simp only [gN,e] at L
  exact L
 have L1:∀ d i,i+d=10000→1≤i→∃ i',aE Tp 0 aBv (jE dl sk dc (aB sk) i (upto dc i).length ((upto dc i).flatten.map aA)) (.exit 2) (jE dl sk dc (aB sk) i' (aB dc).length ((aB dc).flatten.map aA)):=by
  intro d
  induction d with
  | zero =>
   intro i hi h1;rw [show upto dc i=aB dc from aLa fun x hx=>by have:=k2 x hx;omega]
   exact ⟨i,.exit (aXv (by omega)) (by simp)⟩
  | succ d ih =>
   intro i hi h1
   by_cases hl:dc.length≤(upto dc i).length
   ·rw [bGl hl]
    have:=fM dc;exact ⟨i,.exit (aXu (by omega) (by omega)) (by simp)⟩
   ·obtain ⟨i',ih⟩:=ih (i+1) (by omega) (by omega)
    refine ⟨i',.step ?_ ih⟩
    by_cases hx:0≤bD (fun x=>decide (x.getD 0 0=((i:Nat):Int))) dc
    ·obtain ⟨x,h1,h2⟩:=aTf hx
     obtain ⟨a,b,c,d,e,f,rfl⟩:=len6 (h.ud _ (kQ4 h1));have e:=aKz h.nd (kQ4 h1) h2;have:=aTe dc i;exact aXs (q:=upto dc i) (q':=upto dc (i+1)) (by omega) (by omega) h.ud (by omega) rfl hx h1 hx ⟨rfl,by omega⟩ (aO (by omega)) rfl (by rw [e];simp) (by rw [e];exact (sK (l:=upto dc i)).symm)
    ·rw [aFb (n:=i) (aLb (by omega))]
     exact aXt (by omega) (by omega) h.ud (by omega) rfl (by omega) (aO (by omega)) rfl
 obtain ⟨i',L1⟩:=L1 9999 1 (by omega) (by omega)
 rw [aFc (f:=dc) fun x hx=>(k2 x hx).1] at L1
 exact bRv L0 L1
end
section
mutual
def wkP:PV→PV
 | .v (.slice none 0 0) => .sl 0 []
 | .agg cs => .agg (bHb cs)
 | x=>x
def bHb:List PV→List PV
 | []=>[]
 | x::r=>wkP x::bHb r
end
theorem aLk:∀ l:List PV,bHb l=l.map wkP
 | []=>by simp [bHb]
 | x::r=>by rw [bHb,aLk r];rfl
def wk1:AV→AV
 | .p x => .p (wkP x)
 | x=>x
theorem bMi{F:Nat→Prop}{w:World}{x:PV}{u:Value}(h:cX F w x u):cX F w (wkP x) u:=by
 induction h with
 | v x =>
  unfold wkP
  split
  ·rename_i e
   cases e;exact .sl 0 [] none 0 (fun _=>undef) (eG _) (Nat.zero_le _) (fun i h=>by simp at h) (fun i h=>by simp at h) (fun i h=>by simp at h)
  ·rename_i e;cases e
  ·exact .v x
 | sl n cs p cap us h1 h2 h3 h4 h5 _=>unfold wkP;exact .sl n cs p cap us h1 h2 h3 h4 h5
 | agg cs vs h0 h1 _ ih =>
  unfold wkP;rw [aLk];exact .agg _ vs (fun i hi=>h0 i (by simpa using hi)) (by simpa using h1) (fun i hi=>by
   have:=ih i (by simpa using hi)
   simpa using this)
 | mp es b cl arr us hb h0 h1 h2 h3 _=>unfold wkP;exact .mp es b cl arr us hb h0 h1 h2 h3
 | rp cs off b o us h1 h2 h3 _=>unfold wkP;exact .rp cs off b o us h1 h2 h3
theorem bMj{C:Cx}{M:Mem}{w:World}{x:AV}{u:Value}(h:Rep C M w x u):Rep C M w (wk1 x) u:=by
 cases h with
 | p x u h=>exact .p _ _ (bMi h)
 | _=>unfold wk1;constructor <;> assumption
theorem dM.wk{C:Cx}{M:Mem}{w:World}:∀ {args:List AV} {us:List Value},dM C M w args us→dM C M w (args.map wk1) us
 | [],_,h=>by cases h;exact .nil
 | x::l,_,h=>by
  cases h with
  | cons _ _ u us h1 h2=>exact .cons _ _ _ _ (bMj h1) h2.wk
theorem FMM.argwk{P:Program}{f:Nat}{args args':List AV}{r:AV}{M M':Mem}(h:FMM P f args' M r M')(e:args.map wk1=args'):FMM P f args M r M':=fun C w us hus hM n=>by
 subst e;exact h C w us hus.wk hM n
theorem FV.argwk{P:Program}{f base:Nat}{args args':List AV}{y:AV}{L:Upd}(h:FV P f args' base y L)(e:args.map wk1=args'):FV P f args base y L:=by
 obtain ⟨r,M1,h1,h2⟩:=h;exact ⟨r,M1,h1.argwk e,h2⟩
end
section
variable {dl:Int}{sk dc:Lqq}

theorem bRj{el:Int}{tk ec:Lqq}{r0:Bool}(h0:dl=el)(h1:uni 2 sk)(h2:uni 2 tk)(h3:sk.length≤1000)(h4:(decide (sk=tk))=true)(h5:uni 6 dc)(h6:uni 6 ec)(h7:dc.length≤1000)(er0:r0=(decide (dc=ec))){base:Nat}:FV Tp 35 [(.p (.agg (bB dl sk dc))),(.p (.agg (bB el tk ec)))] base (pB r0) []:=by
 subst er0;exact FV.fin Tryz.func35 rfl (o:=[bT,bT,bT,bT,bT,.c (pB (decide (sk=tk))) [],bT,bT,bT,bT,bT,bT,.c (pB (decide (dc=ec))) [],bT]) (l:=[_,_,_,_,_,_,_,_,_,_,_,_,_,_]) (by kernel_rfl) (gc h4 (gc (fk 2 (bTa dc ec h5 h6 h7) rfl) (g5c h4 (gc (cC h0) (gc (fk 2 (bGo sk tk h1 h2 h3) rfl) (g5c (cC h0) gn))))))
theorem bRk{el:Int}{tk ec:Lqq}(h0:dl=el)(h1:uni 2 sk)(h2:uni 2 tk)(h3:sk.length≤1000)(h4:(decide (sk=tk))=false){base:Nat}:FV Tp 35 [(.p (.agg (bB dl sk dc))),(.p (.agg (bB el tk ec)))] base (pB false) []:=by
 exact FV.fin Tryz.func35 rfl (o:=[bT,bT,bT,bT,bT,.c (pB (decide (sk=tk))) [],bT,bF,bF,bF,bF,bF,bF]) (l:=[_,_,_,_,_,_,_,_,_,_,_,_,_]) (by kernel_rfl) (g6c h4 (gc (cC h0) (gc (fk 2 (bGo sk tk h1 h2 h3) rfl) (g5c (cC h0) gn))))
theorem bRl{el:Int}{tk ec:Lqq}(h0:dl≠el){base:Nat}:FV Tp 35 [(.p (.agg (bB dl sk dc))),(.p (.agg (bB el tk ec)))] base (pB false) []:=by
 exact FV.fin Tryz.func35 rfl (o:=[bF,bF,bF,bF,bF,bF]) (l:=[_,_,_,_,_,_]) (by kernel_rfl) (g6c (bE h0) gn)
theorem aHn(dl:Int)(sk dc:Lqq)(el:Int)(tk ec:Lqq)(u1:uni 2 sk∧sk.length≤1000)(u2:uni 6 dc∧dc.length≤1000)(v1:uni 2 tk)(v2:uni 6 ec){base:Nat}:FV Tp 35 [.p (.agg (bB dl sk dc)),.p (.agg (bB el tk ec))] base (pB (decide (dl=el∧sk=tk∧dc=ec))) []:=by
 by_cases h1:dl=el
 ·by_cases h2:sk=tk
  ·exact bRj h1 u1.1 v1 u1.2 (decide_eq_true h2) u2.1 v2 u2.2 (by simp [h1,h2])
  ·rw [decide_eq_false (fun h=>h2 h.2.1)];exact bRk h1 u1.1 v1 u1.2 (decide_eq_false h2)
 ·rw [decide_eq_false (fun h=>h1 h.1)];exact bRl h1
theorem bRm{n m:Int}(h0:n<(sk.length:Int))(h1:(sk.length:Int)≤30){base:Nat}:FV Tp 29 [(.p (.agg (bB dl sk dc))),(pI n),(pI m)] base (pB true) []:=by
 exact FV.fin Tryz.func29 rfl (o:=[bT,bT,bT,bT,bT,bT,bT,bT,bT,bT]) (l:=[_,_,_,_,_,_,_,_,_,_]) (by kernel_rfl) (g5c (mD h1) (g5c (aQ h0) gn))
theorem bRn{n m:Int}(h0:n<(sk.length:Int))(h1:(30:Int)<(sk.length:Int))(h2:(35:Int)<(sk.length:Int)){base:Nat}:FV Tp 29 [(.p (.agg (bB dl sk dc))),(pI n),(pI m)] base (pB true) []:=by
 exact FV.fin Tryz.func29 rfl (o:=[bT,bT,bT,bT,bT,bF,bF,bF,bF,bF,bT,bT,bT,bT,bT,bT,bT,bT]) (l:=[_,_,_,_,_,_,_,_,_,_,_,_,_,_,_,_,_,_]) (by kernel_rfl) (g8c (aQ h2) (g5c (lT h1) (g5c (aQ h0) gn)))
theorem bRo{n m:Int}(h0:n<(sk.length:Int))(h1:(30:Int)<(sk.length:Int))(h2:(sk.length:Int)≤35)(h3:m<(dc.length:Int))(h4:(dc.length:Int)≤40){base:Nat}:FV Tp 29 [(.p (.agg (bB dl sk dc))),(pI n),(pI m)] base (pB true) []:=by
 exact FV.fin Tryz.func29 rfl (o:=[bT,bT,bT,bT,bT,bF,bF,bF,bF,bF,bF,bF,bF,bF,bF,bF,bT,bT,bT,bT,bF,bT,bF,bT,bT,bT,bT,bT]) (l:=[_,_,_,_,_,_,_,_,_,_,_,_,_,_,_,_,_,_,_,_,_,_,_,_,_,_,_,_]) (by kernel_rfl) (g5c (mD h4) (gc (aR h2) (gc (aQ h3) (gc (aR h2) (g4c (aQ h3) (g6c (aR h2) (g5c (lT h1) (g5c (aQ h0) gn))))))))
theorem bRp{n m:Int}{r0:Bool}(h0:n<(sk.length:Int))(h1:(30:Int)<(sk.length:Int))(h2:(sk.length:Int)≤35)(h3:m<(dc.length:Int))(h4:(40:Int)<(dc.length:Int))(er0:r0=(decide ((dc.length:Int) > (45:Int)))){base:Nat}:FV Tp 29 [(.p (.agg (bB dl sk dc))),(pI n),(pI m)] base (pB r0) []:=by
 subst er0;exact FV.fin Tryz.func29 rfl (o:=[bT,bT,bT,bT,bT,bF,bF,bF,bF,bF,bF,bF,bF,bF,bF,bF,bT,bT,bT,bT,bF,bT,bF,bF,bF,bF,bF,bF]) (l:=[_,_,_,_,_,_,_,_,_,_,_,_,_,_,_,_,_,_,_,_,_,_,_,_,_,_,_,_]) (by kernel_rfl) (g5c (lT h4) (gc (aR h2) (gc (aQ h3) (gc (aR h2) (g4c (aQ h3) (g6c (aR h2) (g5c (lT h1) (g5c (aQ h0) gn))))))))
theorem bRq{n m:Int}{r0:Bool}(h0:n<(sk.length:Int))(h1:(30:Int)<(sk.length:Int))(h2:(sk.length:Int)≤35)(h3:(dc.length:Int)≤m)(er0:r0=(decide ((dc.length:Int) > (45:Int)))){base:Nat}:FV Tp 29 [(.p (.agg (bB dl sk dc))),(pI n),(pI m)] base (pB r0) []:=by
 subst er0;exact FV.fin Tryz.func29 rfl (o:=[bT,bT,bT,bT,bT,bF,bF,bF,bF,bF,bF,bF,bF,bF,bF,bF,bF,bF,bF,bF,bF,bF,bF]) (l:=[_,_,_,_,_,_,_,_,_,_,_,_,_,_,_,_,_,_,_,_,_,_,_]) (by kernel_rfl) (gc (aR h2) (gc (aR h3) (gc (aR h2) (g4c (aR h3) (g6c (aR h2) (g5c (lT h1) (g5c (aQ h0) gn)))))))
theorem bRr{n m:Int}(h0:(sk.length:Int)≤n)(h1:(35:Int)<(sk.length:Int)){base:Nat}:FV Tp 29 [(.p (.agg (bB dl sk dc))),(pI n),(pI m)] base (pB true) []:=by
 exact FV.fin Tryz.func29 rfl (o:=[bF,bF,bF,bF,bF,bT,bT,bT,bT,bT,bT,bT,bT]) (l:=[_,_,_,_,_,_,_,_,_,_,_,_,_]) (by kernel_rfl) (g8c (aQ h1) (g5c (aR h0) gn))
theorem bRs{n m:Int}(h0:(sk.length:Int)≤n)(h1:(sk.length:Int)≤35)(h2:m<(dc.length:Int))(h3:(dc.length:Int)≤40){base:Nat}:FV Tp 29 [(.p (.agg (bB dl sk dc))),(pI n),(pI m)] base (pB true) []:=by
 exact FV.fin Tryz.func29 rfl (o:=[bF,bF,bF,bF,bF,bF,bF,bF,bF,bF,bF,bT,bT,bT,bT,bF,bT,bF,bT,bT,bT,bT,bT]) (l:=[_,_,_,_,_,_,_,_,_,_,_,_,_,_,_,_,_,_,_,_,_,_,_]) (by kernel_rfl) (g5c (mD h3) (gc (aR h1) (gc (aQ h2) (gc (aR h1) (g4c (aQ h2) (g6c (aR h1) (g5c (aR h0) gn)))))))
theorem bRt{n m:Int}{r0:Bool}(h0:(sk.length:Int)≤n)(h1:(sk.length:Int)≤35)(h2:m<(dc.length:Int))(h3:(40:Int)<(dc.length:Int))(er0:r0=(decide ((dc.length:Int) > (45:Int)))){base:Nat}:FV Tp 29 [(.p (.agg (bB dl sk dc))),(pI n),(pI m)] base (pB r0) []:=by
 subst er0;exact FV.fin Tryz.func29 rfl (o:=[bF,bF,bF,bF,bF,bF,bF,bF,bF,bF,bF,bT,bT,bT,bT,bF,bT,bF,bF,bF,bF,bF,bF]) (l:=[_,_,_,_,_,_,_,_,_,_,_,_,_,_,_,_,_,_,_,_,_,_,_]) (by kernel_rfl) (g5c (lT h3) (gc (aR h1) (gc (aQ h2) (gc (aR h1) (g4c (aQ h2) (g6c (aR h1) (g5c (aR h0) gn)))))))
theorem bRu{n m:Int}{r0:Bool}(h0:(sk.length:Int)≤n)(h1:(sk.length:Int)≤35)(h2:(dc.length:Int)≤m)(er0:r0=(decide ((dc.length:Int) > (45:Int)))){base:Nat}:FV Tp 29 [(.p (.agg (bB dl sk dc))),(pI n),(pI m)] base (pB r0) []:=by
 subst er0;exact FV.fin Tryz.func29 rfl (o:=[bF,bF,bF,bF,bF,bF,bF,bF,bF,bF,bF,bF,bF,bF,bF,bF,bF,bF]) (l:=[_,_,_,_,_,_,_,_,_,_,_,_,_,_,_,_,_,_]) (by kernel_rfl) (gc (aR h1) (gc (aR h2) (gc (aR h1) (g4c (aR h2) (g6c (aR h1) (g5c (aR h0) gn))))))
def nY(sk dc:Lqq)(n m:Int):Bool:=decide ((n<(sk.length:Int)∧(sk.length:Int)≤30)∨(35:Int)<(sk.length:Int)∨(m<(dc.length:Int)∧(dc.length:Int)≤40)∨(45:Int)<(dc.length:Int))
theorem aBt(dl:Int)(sk dc:Lqq)(n m:Int){base:Nat}:FV Tp 29 [.p (.agg (bB dl sk dc)),.p (aA n),.p (aA m)] base (pB (nY sk dc n m)) []:=by
 have T:∀ {p:Prop} [Decidable p],p→true=decide p:=fun h=>(decide_eq_true h).symm
 by_cases h1:n<(sk.length:Int)
 ·by_cases h2:(sk.length:Int)≤30
  ·rw [show nY sk dc n m=true from decide_eq_true (.inl ⟨h1,h2⟩)];exact bRm h1 h2
  by_cases h3:(35:Int)<(sk.length:Int)
  ·rw [show nY sk dc n m=true from decide_eq_true (.inr (.inl h3))];exact bRn h1 (by omega) h3
  by_cases h4:m<(dc.length:Int)
  ·by_cases h5:(dc.length:Int)≤40
   ·rw [show nY sk dc n m=true from decide_eq_true (.inr (.inr (.inl ⟨h4,h5⟩)))];exact bRo h1 (by omega) (by omega) h4 h5
   ·exact bRp h1 (by omega) (by omega) h4 (by omega) (by unfold nY;rw [Bool.eq_iff_iff];simp only [decide_eq_true_eq];omega)
  ·exact bRq h1 (by omega) (by omega) (by omega) (by unfold nY;rw [Bool.eq_iff_iff];simp only [decide_eq_true_eq];omega)
 ·by_cases h3:(35:Int)<(sk.length:Int)
  ·rw [show nY sk dc n m=true from decide_eq_true (.inr (.inl h3))];exact bRr (by omega) h3
  by_cases h4:m<(dc.length:Int)
  ·by_cases h5:(dc.length:Int)≤40
   ·rw [show nY sk dc n m=true from decide_eq_true (.inr (.inr (.inl ⟨h4,h5⟩)))];exact bRs (by omega) (by omega) h4 h5
   ·exact bRt (by omega) (by omega) h4 (by omega) (by unfold nY;rw [Bool.eq_iff_iff];simp only [decide_eq_true_eq];omega)
  ·exact bRu (by omega) (by omega) (by omega) (by unfold nY;rw [Bool.eq_iff_iff];simp only [decide_eq_true_eq];omega)
end
section

theorem aHm(dl:Int)(sk dc:Lqq)(h0:uni 2 sk)(h1:sk.length≤1000)(h2:uni 6 dc)(h3:dc.length≤1000){base:Nat}:FV Tp 27 [.p (.agg (bB dl sk dc))] base (.p (.agg (bB dl sk dc))) []:=bSl h0 h1 h2 h3
end
section
section
variable {α:Type} {E:α→List PV} {k:Nat}
theorem zO(hE:∀ a,(E a).length=k)(l:List α):((l.map E).flatten).length=l.length*k:=by
 induction l with
 | nil=>simp
 | cons a l ih=>rw [iM,tY,oS,hE,ih,vK,aHh];omega
theorem wW(hE:∀ a,(E a).length=k){l:List α}{i:Nat}{e:α}(h:l[i]? = some e):∃ a b,(l.map E).flatten=a++(E e++b)∧a.length=i*k:=by
 obtain ⟨hi,rfl⟩:=kQ3.1 h;refine ⟨((l.take i).map E).flatten,((l.drop (i+1)).map E).flatten,?_,?_⟩
 ·have:l=l.take i++(l[i]::l.drop (i+1)):=by rw [← aKr hi,aOj]
  have e2:=congrArg (fun l=>(l.map E).flatten) this
  simp only [iY,iM,aOk,tY] at e2
  exact e2
 ·rw [zO hE,nC];congr 1;omega
theorem bM{l:List α}{i f:Nat}(hE:∀ a,(E a).length=k){e:α}{x:PV}(h:l[i]? = some e)(hx:(E e)[f]? = some x):((l.map E).flatten)[i*k+f]? = some x:=by
 obtain ⟨a,b,e1,e2⟩:=wW hE h;have hf:=(kQ3.1 hx).1;rw [e1,← e2,wR (by omega),Nat.add_sub_cancel_left,aBk hf]
 exact hx
theorem uF{l:List α}{i:Nat}(hE:∀ a,(E a).length=k){e:α}(h:l[i]? = some e):i*k+k≤((l.map E).flatten).length:=by
 obtain ⟨a,b,e1,e2⟩:=wW hE h;rw [e1,oS,oS,hE,e2];omega
theorem mW{l:List α}{i:Nat}(hE:∀ a,(E a).length=k){e:α}(h:l[i]? = some e){x:PV}(hx:PV.agg (E e)=x):some (.agg ((((l.map E).flatten).drop (i*k)).take k):PV)=some x:=by
 obtain ⟨a,b,e1,e2⟩:=wW hE h;rw [e1,← e2,List.drop_left,List.take_left' (hE e),hx]
theorem rJ{l:List α}{i:Int}(hE:∀ a,(E a).length=k)(hk:0<k)(h0:0≤i){e:α}(h:l[i.toNat]? = some e):0≤i∧i<(l.length:Int)∧i.toNat*k<((l.map E).flatten).length:=by
 have hi:=(kQ3.1 h).1;refine ⟨h0,by omega,?_⟩
 rw [zO hE];exact Nat.mul_lt_mul_of_pos_right hi hk
end
end
section
variable {dl:Int}{sk dc:Lqq}

noncomputable abbrev iE:Code:=sub (cd Tryz.f75) [1,1,0,1,0,0,1,0,0,1,1,1,1,1,1,0,1,0,0]
noncomputable abbrev lQ:Code:=sub (cd Tryz.f75) [1,1,0,1,0,0]
noncomputable abbrev pT:Code:=sub (cd Tryz.f75) [1,1,0,1,0,0,1,0,0,1,1,1,1,1,1,1,1,0,1,0,0]
abbrev RS:=Bool × Bool × Bool × Bool × Int × Int × Int
def rsE(s:RS):List PV:=[blP s.1,blP s.2.1,blP s.2.2.1,blP s.2.2.2.1,aA s.2.2.2.2.1,aA s.2.2.2.2.2.1,aA s.2.2.2.2.2.2]
def dW(dl:Int)(sk:Lqq)(dc:Lqq)(q:List Int)(i:Int)(Ln:Nat)(Lc:List PV):St:=⟨fr 165 [(1,(.p (aG q))),(2,(.ptr 0 0)),(4,(.p bI)),(5,(.own 1)),(6,(pI i))],[some (.box 61 [(pI dl),(.p (fS sk)),(.p (fS dc))]),some (.row 121 Ln Lc)]⟩
theorem bRi{q:List Int}{i'0:Int}{L'1:List RS}(h0:0≤(dc.length:Int)∧(dc.length:Int)≤(dc.length:Int)∧(dc.length:Int)≤1000000)(h1:inR ((dc.length:Int)-1))(hl2:aE Tp 0 lQ (dW dl sk dc q ((dc.length:Int)-1) dc.length ((List.replicate dc.length [(blP false),(blP false),(blP false),(blP false),(aA 0),(aA 0),(aA 0)]).flatten)) (.exit 0) (dW dl sk dc q i'0 L'1.length ((L'1.map rsE).flatten))){base:Nat}:FV Tp 75 [(.p (.agg (bB dl sk dc))),(.p (aG q))] base (.own base) [(base,(.row 121 L'1.length ((L'1.map rsE).flatten)))]:=by
 exact FV.fin Tryz.func75 rfl (o:=[.k 8 ⟨(rng [(0,1),(3,1),(7,158)]),[0,1],[],[]⟩ (.exit 0) (dW dl sk dc q i'0 L'1.length ((L'1.map rsE).flatten))]) (l:=[_,_,_]) (by kernel_rfl) (gc hl2.code (gc h1 (gc h0 gn)))
def bX(dl:Int)(sk:Lqq)(dc:Lqq)(q:List Int)(i:Int)(L:List RS)(y100:Int)(y101:Int)(y102:Int)(y103:Int)(y104:Int)(y105:Int)(k:Int)(l:Bool)(a:Bool)(c:Bool)(u:Bool)(m:Int)(b:Int)(f:Int)(r:Bool):St:=⟨fr 165 [(1,(.p (aG q))),(2,(.ptr 0 0)),(4,(.p bI)),(5,(.own 1)),(6,(pI i)),(7,(.ptr 2 0)),(8,(.ptr 3 0)),(9,(pB a)),(10,(pB r)),(11,(pI k))],[some (.box 61 [(pI dl),(.p (fS sk)),(.p (fS dc))]),some (.row 121 L.length ((L.map rsE).flatten)),some (.box 119 [(pI y100),(pI y101),(pI y102),(pI y103),(pI y104),(pI y105)]),some (.box 121 [(pB l),(pB c),(pB false),(pB u),(pI m),(pI b),(pI f)])]⟩
def dX(dl:Int)(sk:Lqq)(dc:Lqq)(q:List Int)(i:Int)(L:List RS)(y100:Int)(y101:Int)(y102:Int)(y103:Int)(y104:Int)(y105:Int)(l'107:Bool)(c'109:Bool)(m'111:Int)(b'112:Int)(f'113:Int)(r'114:Bool)(n:Nat)(o:Bool)(u:Bool):St:=⟨fr 165 [(1,(.p (aG q))),(2,(.ptr 0 0)),(4,(.p bI)),(5,(.own 1)),(6,(pI i)),(7,(.ptr 2 0)),(8,(.ptr 3 0)),(10,(pB r'114)),(13,(pI (n:Int)))],[some (.box 61 [(pI dl),(.p (fS sk)),(.p (fS dc))]),some (.row 121 L.length ((L.map rsE).flatten)),some (.box 119 [(pI y100),(pI y101),(pI y102),(pI y103),(pI y104),(pI y105)]),some (.box 121 [(pB l'107),(pB c'109),(pB o),(pB u),(pI m'111),(pI b'112),(pI f'113)])]⟩
theorem aXd{q:List Int}{i:Int}{L:List RS}{y100 y101 y102 y103 y104 y105 k'106:Int}{l'107 a'108 c'109 u'110:Bool}{m'111 b'112 f'113:Int}{r'114:Bool}{n'115:Nat}{o'116 u'117:Bool}{i':Int}{L':List RS}(h0:(0:Int)≤i)(h1:dc[i.toNat]? = some [y100,y101,y102,y103,y104,y105])(h2:0≤i)(h3:uni 6 dc)(h4:y101=4)(h5:inR ((L.length:Int)-1))(hl6:aE Tp 0 iE (bX dl sk dc q i L y100 y101 y102 y103 y104 y105 ((L.length:Int)-1) (decide (y102 > dl)) true (!(decide (y102 > dl))) false y104 (0:Int) (0:Int) false) (.exit 2) (bX dl sk dc q i L y100 y101 y102 y103 y104 y105 k'106 l'107 a'108 c'109 u'110 m'111 b'112 f'113 r'114))(h7:a'108=true)(h8:c'109=true)(hl9:aE Tp 0 pT (dX dl sk dc q i L y100 y101 y102 y103 y104 y105 l'107 c'109 m'111 b'112 f'113 r'114 0 (!r'114) u'110) (.exit 4) (dX dl sk dc q i L y100 y101 y102 y103 y104 y105 l'107 c'109 m'111 b'112 f'113 r'114 n'115 o'116 u'117))(h10:0≤i∧i<(L.length:Int))(h11:[(blP l'107),(blP c'109),(blP o'116),(blP u'117),(aA m'111),(aA b'112),(aA f'113)].length=7∧(i.toNat*7)+7≤((L.map rsE).flatten).length)(h12:inR (i-1))(ei':i'=(i-1))(eL'n:L'.length=L.length)(eL'c:(L'.map rsE).flatten=(((L.map rsE).flatten).take (i.toNat*7)++[(blP l'107),(blP c'109),(blP o'116),(blP u'117),(aA m'111),(aA b'112),(aA f'113)]++((L.map rsE).flatten).drop ((i.toNat*7)+7))):aC Tp 0 lQ (dW dl sk dc q i L.length ((L.map rsE).flatten)) .normal (dW dl sk dc q i' L'.length ((L'.map rsE).flatten)):=by
 subst ei';have raw:aC Tp 0 lQ (dW dl sk dc q i L.length ((L.map rsE).flatten)) .normal (dW dl sk dc q (i-1) L.length (((L.map rsE).flatten).take (i.toNat*7)++[(blP l'107),(blP c'109),(blP o'116),(blP u'117),(aA m'111),(aA b'112),(aA f'113)]++((L.map rsE).flatten).drop ((i.toNat*7)+7))):=aC.fin (g:=⟨(rng [(0,1),(3,1),(7,158)]),[0,1],[],[]⟩) (o:=[bT,.x (dcE y100 y101 y102 y103 y104 y105),bT,bT,bT,bT,.k 10 ⟨(rng [(0,1),(3,1),(12,1),(14,151)]),[0,1,2,3],[],[(9,0),(10,0)]⟩ (.exit 2) (bX dl sk dc q i L y100 y101 y102 y103 y104 y105 k'106 l'107 a'108 c'109 u'110 m'111 b'112 f'113 r'114),bT,bT,bT,bT,bT,bT,.k 4 ⟨(rng [(0,1),(3,1),(9,1),(11,1),(14,151)]),[0,1,2,3],[],[]⟩ (.exit 4) (dX dl sk dc q i L y100 y101 y102 y103 y104 y105 l'107 c'109 m'111 b'112 f'113 r'114 n'115 o'116 u'117)]) (l:=[_,_,_,_,_,_,_,_,_,_,_,_,_,_,_,_,_,_,0≤i∧i<(dc.length:Int)∧(i.toNat*6)<(dc.flatten.map aA).length,_]) (by kernel_rfl) (gc h12 (gc h11 (gc h10 (gc hl9.code (g3c h8 (g3c h7 (gc hl6.code (gc h5 (g4c (cC h4) (gc (aL (i:=i.toNat) h3 h1) (gc (aW (i:=i.toNat) h3 h1) (gc (aV (k:=6) (i:=i) (by decide) h3 h2 h1) (gc (mD h0) gn)))))))))))))
 exact raw.cast (by rw [eL'n,eL'c])
theorem aXe{q:List Int}{i:Int}{L:List RS}{y100 y101 y102 y103 y104 y105 k'106:Int}{l'107 a'108 c'109 u'110:Bool}{m'111 b'112 f'113:Int}{r'114:Bool}{n'115:Nat}{o'116 u'117:Bool}{i':Int}{L':List RS}(h0:(0:Int)≤i)(h1:dc[i.toNat]? = some [y100,y101,y102,y103,y104,y105])(h2:0≤i)(h3:uni 6 dc)(h4:y101=4)(h5:inR ((L.length:Int)-1))(hl6:aE Tp 0 iE (bX dl sk dc q i L y100 y101 y102 y103 y104 y105 ((L.length:Int)-1) (decide (y102 > dl)) true (!(decide (y102 > dl))) false y104 (0:Int) (0:Int) false) (.exit 2) (bX dl sk dc q i L y100 y101 y102 y103 y104 y105 k'106 l'107 a'108 c'109 u'110 m'111 b'112 f'113 r'114))(h7:a'108=true)(h8:c'109=false)(hl9:aE Tp 0 pT (dX dl sk dc q i L y100 y101 y102 y103 y104 y105 l'107 c'109 m'111 b'112 f'113 r'114 0 false u'110) (.exit 4) (dX dl sk dc q i L y100 y101 y102 y103 y104 y105 l'107 c'109 m'111 b'112 f'113 r'114 n'115 o'116 u'117))(h10:0≤i∧i<(L.length:Int))(h11:[(blP l'107),(blP c'109),(blP o'116),(blP u'117),(aA m'111),(aA b'112),(aA f'113)].length=7∧(i.toNat*7)+7≤((L.map rsE).flatten).length)(h12:inR (i-1))(ei':i'=(i-1))(eL'n:L'.length=L.length)(eL'c:(L'.map rsE).flatten=(((L.map rsE).flatten).take (i.toNat*7)++[(blP l'107),(blP c'109),(blP o'116),(blP u'117),(aA m'111),(aA b'112),(aA f'113)]++((L.map rsE).flatten).drop ((i.toNat*7)+7))):aC Tp 0 lQ (dW dl sk dc q i L.length ((L.map rsE).flatten)) .normal (dW dl sk dc q i' L'.length ((L'.map rsE).flatten)):=by
 subst ei';have raw:aC Tp 0 lQ (dW dl sk dc q i L.length ((L.map rsE).flatten)) .normal (dW dl sk dc q (i-1) L.length (((L.map rsE).flatten).take (i.toNat*7)++[(blP l'107),(blP c'109),(blP o'116),(blP u'117),(aA m'111),(aA b'112),(aA f'113)]++((L.map rsE).flatten).drop ((i.toNat*7)+7))):=aC.fin (g:=⟨(rng [(0,1),(3,1),(7,158)]),[0,1],[],[]⟩) (o:=[bT,.x (dcE y100 y101 y102 y103 y104 y105),bT,bT,bT,bT,.k 10 ⟨(rng [(0,1),(3,1),(12,1),(14,151)]),[0,1,2,3],[],[(9,0),(10,0)]⟩ (.exit 2) (bX dl sk dc q i L y100 y101 y102 y103 y104 y105 k'106 l'107 a'108 c'109 u'110 m'111 b'112 f'113 r'114),bT,bT,bT,bF,bF,bF,.k 4 ⟨(rng [(0,1),(3,1),(9,1),(11,1),(14,151)]),[0,1,2,3],[],[(103002,0)]⟩ (.exit 4) (dX dl sk dc q i L y100 y101 y102 y103 y104 y105 l'107 c'109 m'111 b'112 f'113 r'114 n'115 o'116 u'117)]) (l:=[_,_,_,_,_,_,_,_,_,_,_,_,_,_,_,_,_,_,0≤i∧i<(dc.length:Int)∧(i.toNat*6)<(dc.flatten.map aA).length,_]) (by kernel_rfl) (gc h12 (gc h11 (gc h10 (gc hl9.code (g3c h8 (g3c h7 (gc hl6.code (gc h5 (g4c (cC h4) (gc (aL (i:=i.toNat) h3 h1) (gc (aW (i:=i.toNat) h3 h1) (gc (aV (k:=6) (i:=i) (by decide) h3 h2 h1) (gc (mD h0) gn)))))))))))))
 exact raw.cast (by rw [eL'n,eL'c])
theorem aXf{q:List Int}{i:Int}{L:List RS}{y100 y101 y102 y103 y104 y105 k'106:Int}{l'107 a'108 c'109 u'110:Bool}{m'111 b'112 f'113:Int}{r'114:Bool}{n'115:Nat}{o'116 u'117:Bool}{i':Int}{L':List RS}(h0:(0:Int)≤i)(h1:dc[i.toNat]? = some [y100,y101,y102,y103,y104,y105])(h2:0≤i)(h3:uni 6 dc)(h4:y101≠4)(h5:y101=7)(h6:inR ((L.length:Int)-1))(hl7:aE Tp 0 iE (bX dl sk dc q i L y100 y101 y102 y103 y104 y105 ((L.length:Int)-1) (decide (y102 > dl)) (y101 == (7:Int)) (!(decide (y102 > dl))) false y104 (0:Int) (0:Int) false) (.exit 2) (bX dl sk dc q i L y100 y101 y102 y103 y104 y105 k'106 l'107 a'108 c'109 u'110 m'111 b'112 f'113 r'114))(h8:a'108=true)(h9:c'109=true)(hl10:aE Tp 0 pT (dX dl sk dc q i L y100 y101 y102 y103 y104 y105 l'107 c'109 m'111 b'112 f'113 r'114 0 (!r'114) u'110) (.exit 4) (dX dl sk dc q i L y100 y101 y102 y103 y104 y105 l'107 c'109 m'111 b'112 f'113 r'114 n'115 o'116 u'117))(h11:0≤i∧i<(L.length:Int))(h12:[(blP l'107),(blP c'109),(blP o'116),(blP u'117),(aA m'111),(aA b'112),(aA f'113)].length=7∧(i.toNat*7)+7≤((L.map rsE).flatten).length)(h13:inR (i-1))(ei':i'=(i-1))(eL'n:L'.length=L.length)(eL'c:(L'.map rsE).flatten=(((L.map rsE).flatten).take (i.toNat*7)++[(blP l'107),(blP c'109),(blP o'116),(blP u'117),(aA m'111),(aA b'112),(aA f'113)]++((L.map rsE).flatten).drop ((i.toNat*7)+7))):aC Tp 0 lQ (dW dl sk dc q i L.length ((L.map rsE).flatten)) .normal (dW dl sk dc q i' L'.length ((L'.map rsE).flatten)):=by
 subst ei';have raw:aC Tp 0 lQ (dW dl sk dc q i L.length ((L.map rsE).flatten)) .normal (dW dl sk dc q (i-1) L.length (((L.map rsE).flatten).take (i.toNat*7)++[(blP l'107),(blP c'109),(blP o'116),(blP u'117),(aA m'111),(aA b'112),(aA f'113)]++((L.map rsE).flatten).drop ((i.toNat*7)+7))):=aC.fin (g:=⟨(rng [(0,1),(3,1),(7,158)]),[0,1],[],[]⟩) (o:=[bT,.x (dcE y100 y101 y102 y103 y104 y105),bF,bF,bF,bF,bT,bT,bT,bT,bT,bT,.k 8 ⟨(rng [(0,1),(3,1),(12,1),(14,151)]),[0,1,2,3],[],[(10,0)]⟩ (.exit 2) (bX dl sk dc q i L y100 y101 y102 y103 y104 y105 k'106 l'107 a'108 c'109 u'110 m'111 b'112 f'113 r'114),bT,bT,bT,bT,bT,bT,.k 4 ⟨(rng [(0,1),(3,1),(9,1),(11,1),(14,151)]),[0,1,2,3],[],[]⟩ (.exit 4) (dX dl sk dc q i L y100 y101 y102 y103 y104 y105 l'107 c'109 m'111 b'112 f'113 r'114 n'115 o'116 u'117)]) (l:=[_,_,_,_,_,_,_,_,_,_,_,_,_,_,_,_,_,_,_,_,_,_,_,_,0≤i∧i<(dc.length:Int)∧(i.toNat*6)<(dc.flatten.map aA).length,_]) (by kernel_rfl) (gc h13 (gc h12 (gc h11 (gc hl10.code (g3c h9 (g3c h8 (gc hl7.code (gc h6 (g6c (cC h5) (g4c (bE h4) (gc (aL (i:=i.toNat) h3 h1) (gc (aW (i:=i.toNat) h3 h1) (gc (aV (k:=6) (i:=i) (by decide) h3 h2 h1) (gc (mD h0) gn))))))))))))))
 exact raw.cast (by rw [eL'n,eL'c])
theorem aXg{q:List Int}{i:Int}{L:List RS}{y100 y101 y102 y103 y104 y105 k'106:Int}{l'107 a'108 c'109 u'110:Bool}{m'111 b'112 f'113:Int}{r'114:Bool}{n'115:Nat}{o'116 u'117:Bool}{i':Int}{L':List RS}(h0:(0:Int)≤i)(h1:dc[i.toNat]? = some [y100,y101,y102,y103,y104,y105])(h2:0≤i)(h3:uni 6 dc)(h4:y101≠4)(h5:y101=7)(h6:inR ((L.length:Int)-1))(hl7:aE Tp 0 iE (bX dl sk dc q i L y100 y101 y102 y103 y104 y105 ((L.length:Int)-1) (decide (y102 > dl)) (y101 == (7:Int)) (!(decide (y102 > dl))) false y104 (0:Int) (0:Int) false) (.exit 2) (bX dl sk dc q i L y100 y101 y102 y103 y104 y105 k'106 l'107 a'108 c'109 u'110 m'111 b'112 f'113 r'114))(h8:a'108=true)(h9:c'109=false)(hl10:aE Tp 0 pT (dX dl sk dc q i L y100 y101 y102 y103 y104 y105 l'107 c'109 m'111 b'112 f'113 r'114 0 false u'110) (.exit 4) (dX dl sk dc q i L y100 y101 y102 y103 y104 y105 l'107 c'109 m'111 b'112 f'113 r'114 n'115 o'116 u'117))(h11:0≤i∧i<(L.length:Int))(h12:[(blP l'107),(blP c'109),(blP o'116),(blP u'117),(aA m'111),(aA b'112),(aA f'113)].length=7∧(i.toNat*7)+7≤((L.map rsE).flatten).length)(h13:inR (i-1))(ei':i'=(i-1))(eL'n:L'.length=L.length)(eL'c:(L'.map rsE).flatten=(((L.map rsE).flatten).take (i.toNat*7)++[(blP l'107),(blP c'109),(blP o'116),(blP u'117),(aA m'111),(aA b'112),(aA f'113)]++((L.map rsE).flatten).drop ((i.toNat*7)+7))):aC Tp 0 lQ (dW dl sk dc q i L.length ((L.map rsE).flatten)) .normal (dW dl sk dc q i' L'.length ((L'.map rsE).flatten)):=by
 subst ei';have raw:aC Tp 0 lQ (dW dl sk dc q i L.length ((L.map rsE).flatten)) .normal (dW dl sk dc q (i-1) L.length (((L.map rsE).flatten).take (i.toNat*7)++[(blP l'107),(blP c'109),(blP o'116),(blP u'117),(aA m'111),(aA b'112),(aA f'113)]++((L.map rsE).flatten).drop ((i.toNat*7)+7))):=aC.fin (g:=⟨(rng [(0,1),(3,1),(7,158)]),[0,1],[],[]⟩) (o:=[bT,.x (dcE y100 y101 y102 y103 y104 y105),bF,bF,bF,bF,bT,bT,bT,bT,bT,bT,.k 8 ⟨(rng [(0,1),(3,1),(12,1),(14,151)]),[0,1,2,3],[],[(10,0)]⟩ (.exit 2) (bX dl sk dc q i L y100 y101 y102 y103 y104 y105 k'106 l'107 a'108 c'109 u'110 m'111 b'112 f'113 r'114),bT,bT,bT,bF,bF,bF,.k 4 ⟨(rng [(0,1),(3,1),(9,1),(11,1),(14,151)]),[0,1,2,3],[],[(103002,0)]⟩ (.exit 4) (dX dl sk dc q i L y100 y101 y102 y103 y104 y105 l'107 c'109 m'111 b'112 f'113 r'114 n'115 o'116 u'117)]) (l:=[_,_,_,_,_,_,_,_,_,_,_,_,_,_,_,_,_,_,_,_,_,_,_,_,0≤i∧i<(dc.length:Int)∧(i.toNat*6)<(dc.flatten.map aA).length,_]) (by kernel_rfl) (gc h13 (gc h12 (gc h11 (gc hl10.code (g3c h9 (g3c h8 (gc hl7.code (gc h6 (g6c (cC h5) (g4c (bE h4) (gc (aL (i:=i.toNat) h3 h1) (gc (aW (i:=i.toNat) h3 h1) (gc (aV (k:=6) (i:=i) (by decide) h3 h2 h1) (gc (mD h0) gn))))))))))))))
 exact raw.cast (by rw [eL'n,eL'c])
theorem aXh{q:List Int}{i:Int}{L:List RS}{y100 y101 y102 y103 y104 y105 k'106:Int}{l'107 a'108 c'109 u'110:Bool}{m'111 b'112 f'113:Int}{r'114:Bool}{n'115:Nat}{o'116 u'117:Bool}{i':Int}{L':List RS}(h0:(0:Int)≤i)(h1:dc[i.toNat]? = some [y100,y101,y102,y103,y104,y105])(h2:0≤i)(h3:uni 6 dc)(h4:y101≠4)(h5:y101≠7)(h6:inR ((L.length:Int)-1))(hl7:aE Tp 0 iE (bX dl sk dc q i L y100 y101 y102 y103 y104 y105 ((L.length:Int)-1) false (y101 == (7:Int)) true false y104 (0:Int) (0:Int) false) (.exit 2) (bX dl sk dc q i L y100 y101 y102 y103 y104 y105 k'106 l'107 a'108 c'109 u'110 m'111 b'112 f'113 r'114))(h8:a'108=false)(hl9:aE Tp 0 pT (dX dl sk dc q i L y100 y101 y102 y103 y104 y105 l'107 c'109 m'111 b'112 f'113 r'114 0 false u'110) (.exit 4) (dX dl sk dc q i L y100 y101 y102 y103 y104 y105 l'107 c'109 m'111 b'112 f'113 r'114 n'115 o'116 u'117))(h10:0≤i∧i<(L.length:Int))(h11:[(blP l'107),(blP c'109),(blP o'116),(blP u'117),(aA m'111),(aA b'112),(aA f'113)].length=7∧(i.toNat*7)+7≤((L.map rsE).flatten).length)(h12:inR (i-1))(ei':i'=(i-1))(eL'n:L'.length=L.length)(eL'c:(L'.map rsE).flatten=(((L.map rsE).flatten).take (i.toNat*7)++[(blP l'107),(blP c'109),(blP o'116),(blP u'117),(aA m'111),(aA b'112),(aA f'113)]++((L.map rsE).flatten).drop ((i.toNat*7)+7))):aC Tp 0 lQ (dW dl sk dc q i L.length ((L.map rsE).flatten)) .normal (dW dl sk dc q i' L'.length ((L'.map rsE).flatten)):=by
 subst ei';have raw:aC Tp 0 lQ (dW dl sk dc q i L.length ((L.map rsE).flatten)) .normal (dW dl sk dc q (i-1) L.length (((L.map rsE).flatten).take (i.toNat*7)++[(blP l'107),(blP c'109),(blP o'116),(blP u'117),(aA m'111),(aA b'112),(aA f'113)]++((L.map rsE).flatten).drop ((i.toNat*7)+7))):=aC.fin (g:=⟨(rng [(0,1),(3,1),(7,158)]),[0,1],[],[]⟩) (o:=[bT,.x (dcE y100 y101 y102 y103 y104 y105),bF,bF,bF,bF,bF,bF,bF,bF,bF,bF,.k 8 ⟨(rng [(0,1),(3,1),(12,1),(14,151)]),[0,1,2,3],[],[(103000,0),(103001,0),(10,0)]⟩ (.exit 2) (bX dl sk dc q i L y100 y101 y102 y103 y104 y105 k'106 l'107 a'108 c'109 u'110 m'111 b'112 f'113 r'114),bF,bF,bF,.k 4 ⟨(rng [(0,1),(3,1),(9,1),(11,1),(14,151)]),[0,1,2,3],[],[(103002,0)]⟩ (.exit 4) (dX dl sk dc q i L y100 y101 y102 y103 y104 y105 l'107 c'109 m'111 b'112 f'113 r'114 n'115 o'116 u'117)]) (l:=[_,_,_,_,_,_,_,_,_,_,_,_,_,_,_,_,_,_,_,_,_,0≤i∧i<(dc.length:Int)∧(i.toNat*6)<(dc.flatten.map aA).length,_]) (by kernel_rfl) (gc h12 (gc h11 (gc h10 (gc hl9.code (g3c h8 (gc hl7.code (gc h6 (g6c (bE h5) (g4c (bE h4) (gc (aL (i:=i.toNat) h3 h1) (gc (aW (i:=i.toNat) h3 h1) (gc (aV (k:=6) (i:=i) (by decide) h3 h2 h1) (gc (mD h0) gn)))))))))))))
 exact raw.cast (by rw [eL'n,eL'c])
theorem aXi{q:List Int}{i:Int}{L:List RS}(h0:i<0):aC Tp 0 lQ (dW dl sk dc q i L.length ((L.map rsE).flatten)) (.exit 0) (dW dl sk dc q i L.length ((L.map rsE).flatten)):=by
 exact aC.fin (g:=⟨(rng [(0,1),(3,1),(7,158)]),[0,1],[],[]⟩) (o:=[bF]) (l:=[_]) (by kernel_rfl) (gc (lT h0) gn)
theorem aXj{q:List Int}{i:Int}{L:List RS}{y100 y101 y102 y103 y104 y105 k:Int}{l a c u:Bool}{m b f:Int}{r:Bool}{y200 y201 y202 y203 y204 y205 k':Int}(h0:i<k)(h1:dc[k.toNat]? = some [y200,y201,y202,y203,y204,y205])(h2:0≤k)(h3:uni 6 dc)(h4:y205≠y100)(h5:inR (k-1))(ek':k'=(k-1)):aC Tp 0 iE (bX dl sk dc q i L y100 y101 y102 y103 y104 y105 k l a c u m b f r) .normal (bX dl sk dc q i L y100 y101 y102 y103 y104 y105 k' l a c u m b f r):=by
 subst ek';exact aC.fin (g:=⟨(rng [(0,1),(3,1),(12,1),(14,151)]),[0,1,2,3],[],[]⟩) (o:=[bT,.x (dcE y200 y201 y202 y203 y204 y205),bT,bT,bT,bT,bT,bT,bT]) (l:=[_,_,_,_,_,_,_,_,_,_,0≤k∧k<(dc.length:Int)∧(k.toNat*6)<(dc.flatten.map aA).length,_]) (by kernel_rfl) (gc h5 (g7c (iD h4) (gc (aL (i:=k.toNat) h3 h1) (gc (aW (i:=k.toNat) h3 h1) (gc (aV (k:=6) (i:=k) (by decide) h3 h2 h1) (gc (aQ h0) gn))))))
theorem aXk{q:List Int}{i:Int}{L:List RS}{y100 y101 y102 y103 y104 y105 k:Int}{l a c u:Bool}{m b f:Int}{r:Bool}{y200 y201 y202 y203 y204 y205:Int}{la206 cn207 op208 up209:Bool}{mu210 bt211 fr212 k':Int}(h0:i<k)(h1:dc[k.toNat]? = some [y200,y201,y202,y203,y204,y205])(h2:0≤k)(h3:uni 6 dc)(h4:y205=y100)(h5:0≤k∧k<(L.length:Int))(h6:L[k.toNat]? = some (la206,cn207,op208,up209,mu210,bt211,fr212))(h7:cn207=false)(h8:inR (k-1))(ek':k'=(k-1)):aC Tp 0 iE (bX dl sk dc q i L y100 y101 y102 y103 y104 y105 k l a c u m b f r) .normal (bX dl sk dc q i L y100 y101 y102 y103 y104 y105 k' l a c u m b f r):=by
 subst ek';exact aC.fin (g:=⟨(rng [(0,1),(3,1),(12,1),(14,151)]),[0,1,2,3],[],[]⟩) (o:=[bT,.x (dcE y200 y201 y202 y203 y204 y205),bF,bF,bF,bF,bF,.x (blP cn207),bF,bF,bT]) (l:=[_,_,_,_,((L.map rsE).flatten)[((k.toNat*7)+1)]? = some (blP cn207),_,_,_,_,_,_,_,_,0≤k∧k<(dc.length:Int)∧(k.toNat*6)<(dc.flatten.map aA).length,_]) (by kernel_rfl) (gc h8 (gc (cP h7) (g2c (cT h4) (gc (bM (E:=rsE) (i:=k.toNat) (f:=1) (k:=7) (fun _=>rfl) h6 rfl) (g2c (cT h4) (gc h5 (g3c (cT h4) (gc (aL (i:=k.toNat) h3 h1) (gc (aW (i:=k.toNat) h3 h1) (gc (aV (k:=6) (i:=k) (by decide) h3 h2 h1) (gc (aQ h0) gn)))))))))))
theorem aOx{q:List Int}{i:Int}{L:List RS}{y100 y101 y102 y103 y104 y105 k:Int}{l a c u:Bool}{m b f:Int}{r:Bool}{y200 y201 y202 y203 y204 y205:Int}{la206 cn207 op208 up209:Bool}{mu210 bt211 fr212 k':Int}(h0:i<k)(h1:dc[k.toNat]? = some [y200,y201,y202,y203,y204,y205])(h2:0≤k)(h3:uni 6 dc)(h4:y205=y100)(h5:0≤k∧k<(L.length:Int))(h6:L[k.toNat]? = some (la206,cn207,op208,up209,mu210,bt211,fr212))(h7:cn207=true)(h8:y201=5)(h9:y201≤7)(h10:y201≠6)(h11:inR (k-1))(ek':k'=(k-1)):aC Tp 0 iE (bX dl sk dc q i L y100 y101 y102 y103 y104 y105 k l a c u m b f r) .normal (bX dl sk dc q i L y100 y101 y102 y103 y104 y105 k' l a false u m b f r):=by
 subst ek';exact aC.fin (g:=⟨(rng [(0,1),(3,1),(12,1),(14,151)]),[0,1,2,3],[],[(103001,0)]⟩) (o:=[bT,.x (dcE y200 y201 y202 y203 y204 y205),bF,bF,bF,bF,bF,.x (blP cn207),bF,bF,bF,bT,bT,bT,bT,bT,bT,bT,bT,bF,bF,bF,bF,bF,bF,bF]) (l:=[_,_,_,_,_,_,_,_,_,_,_,_,_,_,_,_,_,_,_,((L.map rsE).flatten)[((k.toNat*7)+1)]? = some (blP cn207),_,_,_,_,_,_,_,_,0≤k∧k<(dc.length:Int)∧(k.toNat*6)<(dc.flatten.map aA).length,_]) (by kernel_rfl) (gc h11 (g4c (bE h10) (g3c (aR h9) (g8c (cC h8) (gc (bA h7) (g2c (cT h4) (gc (bM (E:=rsE) (i:=k.toNat) (f:=1) (k:=7) (fun _=>rfl) h6 rfl) (g2c (cT h4) (gc h5 (g3c (cT h4) (gc (aL (i:=k.toNat) h3 h1) (gc (aW (i:=k.toNat) h3 h1) (gc (aV (k:=6) (i:=k) (by decide) h3 h2 h1) (gc (aQ h0) gn))))))))))))))
theorem aOy{q:List Int}{i:Int}{L:List RS}{y100 y101 y102 y103 y104 y105 k:Int}{l a c u:Bool}{m b f:Int}{r:Bool}{y200 y201 y202 y203 y204 y205:Int}{la206 cn207 op208 up209:Bool}{mu210 bt211 fr212 k':Int}(h0:i<k)(h1:dc[k.toNat]? = some [y200,y201,y202,y203,y204,y205])(h2:0≤k)(h3:uni 6 dc)(h4:y205=y100)(h5:0≤k∧k<(L.length:Int))(h6:L[k.toNat]? = some (la206,cn207,op208,up209,mu210,bt211,fr212))(h7:cn207=true)(h8:y201≠5)(h9:y201=7)(h10:up209=true)(h11:y101<8)(h12:y201≤7)(h13:y201≠6)(h14:inR (k-1))(ek':k'=(k-1)):aC Tp 0 iE (bX dl sk dc q i L y100 y101 y102 y103 y104 y105 k l a c u m b f r) .normal (bX dl sk dc q i L y100 y101 y102 y103 y104 y105 k' l a false u m b f r):=by
 subst ek';exact aC.fin (g:=⟨(rng [(0,1),(3,1),(12,1),(14,151)]),[0,1,2,3],[],[(103001,0)]⟩) (o:=[bT,.x (dcE y200 y201 y202 y203 y204 y205),bF,bF,bF,bF,bF,.x (blP cn207),bF,bF,bF,bF,bF,bF,bF,bT,bT,bT,bT,bT,.x (blP up209),bF,bT,bF,bT,bT,bT,bF,bT,bF,bT,bF,bF,bF,bF,bF,bF,bF]) (l:=[_,_,_,_,_,_,_,_,_,_,_,_,_,_,_,_,_,_,((L.map rsE).flatten)[((k.toNat*7)+3)]? = some (blP up209),_,_,_,_,_,_,_,_,_,_,_,_,_,((L.map rsE).flatten)[((k.toNat*7)+1)]? = some (blP cn207),_,_,_,_,_,_,_,_,0≤k∧k<(dc.length:Int)∧(k.toNat*6)<(dc.flatten.map aA).length,_]) (by kernel_rfl) (gc h14 (g4c (bE h13) (g3c (aR h12) (gc (aQ h11) (gc (bE h8) (gc h10 (gc (bE h8) (g3c h10 (gc (bE h8) (gc (cC h9) (gc (bE h8) (gc (bM (E:=rsE) (i:=k.toNat) (f:=3) (k:=7) (fun _=>rfl) h6 rfl) (g2c (cC h9) (gc h5 (g3c (cC h9) (g4c (bE h8) (gc (bA h7) (g2c (cT h4) (gc (bM (E:=rsE) (i:=k.toNat) (f:=1) (k:=7) (fun _=>rfl) h6 rfl) (g2c (cT h4) (gc h5 (g3c (cT h4) (gc (aL (i:=k.toNat) h3 h1) (gc (aW (i:=k.toNat) h3 h1) (gc (aV (k:=6) (i:=k) (by decide) h3 h2 h1) (gc (aQ h0) gn))))))))))))))))))))))))))
theorem aOz{q:List Int}{i:Int}{L:List RS}{y100 y101 y102 y103 y104 y105 k:Int}{l a c u:Bool}{m b f:Int}{r:Bool}{y200 y201 y202 y203 y204 y205:Int}{la206 cn207 op208 up209:Bool}{mu210 bt211 fr212 k':Int}(h0:i<k)(h1:dc[k.toNat]? = some [y200,y201,y202,y203,y204,y205])(h2:0≤k)(h3:uni 6 dc)(h4:y205=y100)(h5:0≤k∧k<(L.length:Int))(h6:L[k.toNat]? = some (la206,cn207,op208,up209,mu210,bt211,fr212))(h7:cn207=true)(h8:y201≠5)(h9:y201=7)(h10:up209=true)(h11:(8:Int)≤y101)(h12:y201≤7)(h13:y201≠6)(h14:inR (k-1))(ek':k'=(k-1)):aC Tp 0 iE (bX dl sk dc q i L y100 y101 y102 y103 y104 y105 k l a c u m b f r) .normal (bX dl sk dc q i L y100 y101 y102 y103 y104 y105 k' l a c u m b f r):=by
 subst ek';exact aC.fin (g:=⟨(rng [(0,1),(3,1),(12,1),(14,151)]),[0,1,2,3],[],[]⟩) (o:=[bT,.x (dcE y200 y201 y202 y203 y204 y205),bF,bF,bF,bF,bF,.x (blP cn207),bF,bF,bF,bF,bF,bF,bF,bT,bT,bT,bT,bT,.x (blP up209),bF,bT,bF,bT,bT,bT,bF,bT,bF,bF,bF,bF,bF,bF,bF,bF,bF]) (l:=[_,_,_,_,_,_,_,_,_,_,_,_,_,_,_,_,_,_,((L.map rsE).flatten)[((k.toNat*7)+3)]? = some (blP up209),_,_,_,_,_,_,_,_,_,_,_,_,_,((L.map rsE).flatten)[((k.toNat*7)+1)]? = some (blP cn207),_,_,_,_,_,_,_,_,0≤k∧k<(dc.length:Int)∧(k.toNat*6)<(dc.flatten.map aA).length,_]) (by kernel_rfl) (gc h14 (g4c (bE h13) (g3c (aR h12) (gc (aR h11) (gc (bE h8) (gc h10 (gc (bE h8) (g3c h10 (gc (bE h8) (gc (cC h9) (gc (bE h8) (gc (bM (E:=rsE) (i:=k.toNat) (f:=3) (k:=7) (fun _=>rfl) h6 rfl) (g2c (cC h9) (gc h5 (g3c (cC h9) (g4c (bE h8) (gc (bA h7) (g2c (cT h4) (gc (bM (E:=rsE) (i:=k.toNat) (f:=1) (k:=7) (fun _=>rfl) h6 rfl) (g2c (cT h4) (gc h5 (g3c (cT h4) (gc (aL (i:=k.toNat) h3 h1) (gc (aW (i:=k.toNat) h3 h1) (gc (aV (k:=6) (i:=k) (by decide) h3 h2 h1) (gc (aQ h0) gn))))))))))))))))))))))))))
theorem aPa{q:List Int}{i:Int}{L:List RS}{y100 y101 y102 y103 y104 y105 k:Int}{l a c u:Bool}{m b f:Int}{r:Bool}{y200 y201 y202 y203 y204 y205:Int}{la206 cn207 op208 up209:Bool}{mu210 bt211 fr212 k':Int}(h0:i<k)(h1:dc[k.toNat]? = some [y200,y201,y202,y203,y204,y205])(h2:0≤k)(h3:uni 6 dc)(h4:y205=y100)(h5:0≤k∧k<(L.length:Int))(h6:L[k.toNat]? = some (la206,cn207,op208,up209,mu210,bt211,fr212))(h7:cn207=true)(h8:y201≠5)(h9:y201=7)(h10:up209=false)(h11:y201≤7)(h12:y201≠6)(h13:inR (k-1))(ek':k'=(k-1)):aC Tp 0 iE (bX dl sk dc q i L y100 y101 y102 y103 y104 y105 k l a c u m b f r) .normal (bX dl sk dc q i L y100 y101 y102 y103 y104 y105 k' l a c u m b f r):=by
 subst ek';exact aC.fin (g:=⟨(rng [(0,1),(3,1),(12,1),(14,151)]),[0,1,2,3],[],[]⟩) (o:=[bT,.x (dcE y200 y201 y202 y203 y204 y205),bF,bF,bF,bF,bF,.x (blP cn207),bF,bF,bF,bF,bF,bF,bF,bT,bT,bT,bT,bT,.x (blP up209),bF,bT,bF,bF,bF,bF,bF,bF,bF,bF,bF,bF,bF,bF,bF,bF]) (l:=[_,_,_,_,_,_,_,_,_,_,_,_,_,_,_,_,_,((L.map rsE).flatten)[((k.toNat*7)+3)]? = some (blP up209),_,_,_,_,_,_,_,_,_,_,_,_,_,((L.map rsE).flatten)[((k.toNat*7)+1)]? = some (blP cn207),_,_,_,_,_,_,_,_,0≤k∧k<(dc.length:Int)∧(k.toNat*6)<(dc.flatten.map aA).length,_]) (by kernel_rfl) (gc h13 (g4c (bE h12) (g3c (aR h11) (gc (bE h8) (gc h10 (gc (bE h8) (g3c h10 (gc (bE h8) (gc (cC h9) (gc (bE h8) (gc (bM (E:=rsE) (i:=k.toNat) (f:=3) (k:=7) (fun _=>rfl) h6 rfl) (g2c (cC h9) (gc h5 (g3c (cC h9) (g4c (bE h8) (gc (bA h7) (g2c (cT h4) (gc (bM (E:=rsE) (i:=k.toNat) (f:=1) (k:=7) (fun _=>rfl) h6 rfl) (g2c (cT h4) (gc h5 (g3c (cT h4) (gc (aL (i:=k.toNat) h3 h1) (gc (aW (i:=k.toNat) h3 h1) (gc (aV (k:=6) (i:=k) (by decide) h3 h2 h1) (gc (aQ h0) gn)))))))))))))))))))))))))
theorem aPb{q:List Int}{i:Int}{L:List RS}{y100 y101 y102 y103 y104 y105 k:Int}{l a c u:Bool}{m b f:Int}{r:Bool}{y200 y201 y202 y203 y204 y205:Int}{la206 cn207 op208 up209:Bool}{mu210 bt211 fr212 k':Int}{u':Bool}(h0:i<k)(h1:dc[k.toNat]? = some [y200,y201,y202,y203,y204,y205])(h2:0≤k)(h3:uni 6 dc)(h4:y205=y100)(h5:0≤k∧k<(L.length:Int))(h6:L[k.toNat]? = some (la206,cn207,op208,up209,mu210,bt211,fr212))(h7:cn207=true)(h8:y201≠5)(h9:y201≠7)(h10:(7:Int)<y201)(h11:r=false)(h12:y201≠6)(h13:inR (k-1))(ek':k'=(k-1))(eu':u'=(y201 == (8:Int))):aC Tp 0 iE (bX dl sk dc q i L y100 y101 y102 y103 y104 y105 k l a c u m b f r) .normal (bX dl sk dc q i L y100 y101 y102 y103 y104 y105 k' l a c u' m y200 f true):=by
 subst ek' eu';exact aC.fin (g:=⟨(rng [(0,1),(3,1),(12,1),(14,151)]),[0,1,2,3],[],[(10,0)]⟩) (o:=[bT,.x (dcE y200 y201 y202 y203 y204 y205),bF,bF,bF,bF,bF,.x (blP cn207),bF,bF,bF,bF,bF,bF,bF,bF,bF,bF,bF,bF,bF,bF,bF,bF,bF,bT,bT,bT,bT,bF,bF,bF,bF]) (l:=[_,_,_,_,_,_,_,_,_,_,_,_,_,_,_,_,_,_,_,_,_,_,_,_,_,_,((L.map rsE).flatten)[((k.toNat*7)+1)]? = some (blP cn207),_,_,_,_,_,_,_,_,0≤k∧k<(dc.length:Int)∧(k.toNat*6)<(dc.flatten.map aA).length,_]) (by kernel_rfl) (gc h13 (g4c (bE h12) (gc (cP h11) (g3c (aQ h10) (g3c (bE h8) (gc (bE h9) (gc (bE h8) (g5c (bE h9) (g4c (bE h8) (gc (bA h7) (g2c (cT h4) (gc (bM (E:=rsE) (i:=k.toNat) (f:=1) (k:=7) (fun _=>rfl) h6 rfl) (g2c (cT h4) (gc h5 (g3c (cT h4) (gc (aL (i:=k.toNat) h3 h1) (gc (aW (i:=k.toNat) h3 h1) (gc (aV (k:=6) (i:=k) (by decide) h3 h2 h1) (gc (aQ h0) gn)))))))))))))))))))
theorem aPc{q:List Int}{i:Int}{L:List RS}{y100 y101 y102 y103 y104 y105 k:Int}{l a c u:Bool}{m b f:Int}{r:Bool}{y200 y201 y202 y203 y204 y205:Int}{la206 cn207 op208 up209:Bool}{mu210 bt211 fr212 k':Int}(h0:i<k)(h1:dc[k.toNat]? = some [y200,y201,y202,y203,y204,y205])(h2:0≤k)(h3:uni 6 dc)(h4:y205=y100)(h5:0≤k∧k<(L.length:Int))(h6:L[k.toNat]? = some (la206,cn207,op208,up209,mu210,bt211,fr212))(h7:cn207=true)(h8:y201≠5)(h9:y201≠7)(h10:(7:Int)<y201)(h11:r=true)(h12:y201≠6)(h13:inR (k-1))(ek':k'=(k-1)):aC Tp 0 iE (bX dl sk dc q i L y100 y101 y102 y103 y104 y105 k l a c u m b f r) .normal (bX dl sk dc q i L y100 y101 y102 y103 y104 y105 k' l a c u m b f r):=by
 subst ek';exact aC.fin (g:=⟨(rng [(0,1),(3,1),(12,1),(14,151)]),[0,1,2,3],[],[]⟩) (o:=[bT,.x (dcE y200 y201 y202 y203 y204 y205),bF,bF,bF,bF,bF,.x (blP cn207),bF,bF,bF,bF,bF,bF,bF,bF,bF,bF,bF,bF,bF,bF,bF,bF,bF,bT,bT,bT,bF,bF,bF,bF,bF]) (l:=[_,_,_,_,_,_,_,_,_,_,_,_,_,_,_,_,_,_,_,_,_,_,_,_,_,_,((L.map rsE).flatten)[((k.toNat*7)+1)]? = some (blP cn207),_,_,_,_,_,_,_,_,0≤k∧k<(dc.length:Int)∧(k.toNat*6)<(dc.flatten.map aA).length,_]) (by kernel_rfl) (gc h13 (g4c (bE h12) (gc (bA h11) (g3c (aQ h10) (g3c (bE h8) (gc (bE h9) (gc (bE h8) (g5c (bE h9) (g4c (bE h8) (gc (bA h7) (g2c (cT h4) (gc (bM (E:=rsE) (i:=k.toNat) (f:=1) (k:=7) (fun _=>rfl) h6 rfl) (g2c (cT h4) (gc h5 (g3c (cT h4) (gc (aL (i:=k.toNat) h3 h1) (gc (aW (i:=k.toNat) h3 h1) (gc (aV (k:=6) (i:=k) (by decide) h3 h2 h1) (gc (aQ h0) gn)))))))))))))))))))
theorem aPd{q:List Int}{i:Int}{L:List RS}{y100 y101 y102 y103 y104 y105 k:Int}{l a c u:Bool}{m b f:Int}{r:Bool}{y200 y201 y202 y203 y204 y205:Int}{la206 cn207 op208 up209:Bool}{mu210 bt211 fr212 k':Int}(h0:i<k)(h1:dc[k.toNat]? = some [y200,y201,y202,y203,y204,y205])(h2:0≤k)(h3:uni 6 dc)(h4:y205=y100)(h5:0≤k∧k<(L.length:Int))(h6:L[k.toNat]? = some (la206,cn207,op208,up209,mu210,bt211,fr212))(h7:cn207=true)(h8:y201≠5)(h9:y201≠7)(h10:y201≤7)(h11:y201=6)(h12:f=0)(h13:inR (k-1))(ek':k'=(k-1)):aC Tp 0 iE (bX dl sk dc q i L y100 y101 y102 y103 y104 y105 k l a c u m b f r) .normal (bX dl sk dc q i L y100 y101 y102 y103 y104 y105 k' l a c u mu210 b y200 r):=by
 subst ek';exact aC.fin (g:=⟨(rng [(0,1),(3,1),(12,1),(14,151)]),[0,1,2,3],[],[]⟩) (o:=[bT,.x (dcE y200 y201 y202 y203 y204 y205),bF,bF,bF,bF,bF,.x (blP cn207),bF,bF,bF,bF,bF,bF,bF,bF,bF,bF,bF,bF,bF,bF,bF,bF,bF,bF,bF,bF,bT,bT,bT,bT,bT,.x (aA mu210)]) (l:=[_,((L.map rsE).flatten)[((k.toNat*7)+4)]? = some (aA mu210),_,_,_,_,_,_,_,_,_,_,_,_,_,_,_,_,_,_,_,_,_,_,_,_,_,_,((L.map rsE).flatten)[((k.toNat*7)+1)]? = some (blP cn207),_,_,_,_,_,_,_,_,0≤k∧k<(dc.length:Int)∧(k.toNat*6)<(dc.flatten.map aA).length,_]) (by kernel_rfl) (gc h13 (gc (bM (E:=rsE) (i:=k.toNat) (f:=4) (k:=7) (fun _=>rfl) h6 rfl) (gc h5 (gc (cC h12) (g4c (cC h11) (g3c (aR h10) (g3c (bE h8) (gc (bE h9) (gc (bE h8) (g5c (bE h9) (g4c (bE h8) (gc (bA h7) (g2c (cT h4) (gc (bM (E:=rsE) (i:=k.toNat) (f:=1) (k:=7) (fun _=>rfl) h6 rfl) (g2c (cT h4) (gc h5 (g3c (cT h4) (gc (aL (i:=k.toNat) h3 h1) (gc (aW (i:=k.toNat) h3 h1) (gc (aV (k:=6) (i:=k) (by decide) h3 h2 h1) (gc (aQ h0) gn)))))))))))))))))))))
theorem aPe{q:List Int}{i:Int}{L:List RS}{y100 y101 y102 y103 y104 y105 k:Int}{l a c u:Bool}{m b f:Int}{r:Bool}{y200 y201 y202 y203 y204 y205:Int}{la206 cn207 op208 up209:Bool}{mu210 bt211 fr212 k':Int}(h0:i<k)(h1:dc[k.toNat]? = some [y200,y201,y202,y203,y204,y205])(h2:0≤k)(h3:uni 6 dc)(h4:y205=y100)(h5:0≤k∧k<(L.length:Int))(h6:L[k.toNat]? = some (la206,cn207,op208,up209,mu210,bt211,fr212))(h7:cn207=true)(h8:y201≠5)(h9:y201≠7)(h10:y201≤7)(h11:y201=6)(h12:f≠0)(h13:inR (k-1))(ek':k'=(k-1)):aC Tp 0 iE (bX dl sk dc q i L y100 y101 y102 y103 y104 y105 k l a c u m b f r) .normal (bX dl sk dc q i L y100 y101 y102 y103 y104 y105 k' l a c u m b f r):=by
 subst ek';exact aC.fin (g:=⟨(rng [(0,1),(3,1),(12,1),(14,151)]),[0,1,2,3],[],[]⟩) (o:=[bT,.x (dcE y200 y201 y202 y203 y204 y205),bF,bF,bF,bF,bF,.x (blP cn207),bF,bF,bF,bF,bF,bF,bF,bF,bF,bF,bF,bF,bF,bF,bF,bF,bF,bF,bF,bF,bT,bT,bT,bT,bF]) (l:=[_,_,_,_,_,_,_,_,_,_,_,_,_,_,_,_,_,_,_,_,_,_,_,_,_,_,((L.map rsE).flatten)[((k.toNat*7)+1)]? = some (blP cn207),_,_,_,_,_,_,_,_,0≤k∧k<(dc.length:Int)∧(k.toNat*6)<(dc.flatten.map aA).length,_]) (by kernel_rfl) (gc h13 (gc (bE h12) (g4c (cC h11) (g3c (aR h10) (g3c (bE h8) (gc (bE h9) (gc (bE h8) (g5c (bE h9) (g4c (bE h8) (gc (bA h7) (g2c (cT h4) (gc (bM (E:=rsE) (i:=k.toNat) (f:=1) (k:=7) (fun _=>rfl) h6 rfl) (g2c (cT h4) (gc h5 (g3c (cT h4) (gc (aL (i:=k.toNat) h3 h1) (gc (aW (i:=k.toNat) h3 h1) (gc (aV (k:=6) (i:=k) (by decide) h3 h2 h1) (gc (aQ h0) gn)))))))))))))))))))
theorem aPf{q:List Int}{i:Int}{L:List RS}{y100 y101 y102 y103 y104 y105 k:Int}{l a c u:Bool}{m b f:Int}{r:Bool}{y200 y201 y202 y203 y204 y205:Int}{la206 cn207 op208 up209:Bool}{mu210 bt211 fr212 k':Int}(h0:i<k)(h1:dc[k.toNat]? = some [y200,y201,y202,y203,y204,y205])(h2:0≤k)(h3:uni 6 dc)(h4:y205=y100)(h5:0≤k∧k<(L.length:Int))(h6:L[k.toNat]? = some (la206,cn207,op208,up209,mu210,bt211,fr212))(h7:cn207=true)(h8:y201≠5)(h9:y201≠7)(h10:y201≤7)(h11:y201≠6)(h12:inR (k-1))(ek':k'=(k-1)):aC Tp 0 iE (bX dl sk dc q i L y100 y101 y102 y103 y104 y105 k l a c u m b f r) .normal (bX dl sk dc q i L y100 y101 y102 y103 y104 y105 k' l a c u m b f r):=by
 subst ek';exact aC.fin (g:=⟨(rng [(0,1),(3,1),(12,1),(14,151)]),[0,1,2,3],[],[]⟩) (o:=[bT,.x (dcE y200 y201 y202 y203 y204 y205),bF,bF,bF,bF,bF,.x (blP cn207),bF,bF,bF,bF,bF,bF,bF,bF,bF,bF,bF,bF,bF,bF,bF,bF,bF,bF,bF,bF,bF,bF,bF,bF]) (l:=[_,_,_,_,_,_,_,_,_,_,_,_,_,_,_,_,_,_,_,_,_,_,_,_,_,((L.map rsE).flatten)[((k.toNat*7)+1)]? = some (blP cn207),_,_,_,_,_,_,_,_,0≤k∧k<(dc.length:Int)∧(k.toNat*6)<(dc.flatten.map aA).length,_]) (by kernel_rfl) (gc h12 (g4c (bE h11) (g3c (aR h10) (g3c (bE h8) (gc (bE h9) (gc (bE h8) (g5c (bE h9) (g4c (bE h8) (gc (bA h7) (g2c (cT h4) (gc (bM (E:=rsE) (i:=k.toNat) (f:=1) (k:=7) (fun _=>rfl) h6 rfl) (g2c (cT h4) (gc h5 (g3c (cT h4) (gc (aL (i:=k.toNat) h3 h1) (gc (aW (i:=k.toNat) h3 h1) (gc (aV (k:=6) (i:=k) (by decide) h3 h2 h1) (gc (aQ h0) gn))))))))))))))))))
theorem aPg{q:List Int}{i:Int}{L:List RS}{y100 y101 y102 y103 y104 y105 k:Int}{l a c u:Bool}{m b f:Int}{r:Bool}(h0:k≤i):aC Tp 0 iE (bX dl sk dc q i L y100 y101 y102 y103 y104 y105 k l a c u m b f r) (.exit 2) (bX dl sk dc q i L y100 y101 y102 y103 y104 y105 k l a c u m b f r):=by
 exact aC.fin (g:=⟨(rng [(0,1),(3,1),(12,1),(14,151)]),[0,1,2,3],[],[]⟩) (o:=[bF]) (l:=[_]) (by kernel_rfl) (gc (aR h0) gn)
theorem aXl{q:List Int}{i:Int}{L:List RS}{y100 y101 y102 y103 y104 y105:Int}{l'107 c'109:Bool}{m'111 b'112 f'113:Int}{r'114:Bool}{n:Nat}{o u:Bool}{x300:Int}{n':Nat}(h0:(n:Int)<(q.length:Int))(h1:r'114=false)(h2:q[n]? = some x300)(h3:x300=y100)(h4:inR (((n+1):Nat):Int))(en':n'=(n+1)):aC Tp 0 pT (dX dl sk dc q i L y100 y101 y102 y103 y104 y105 l'107 c'109 m'111 b'112 f'113 r'114 n o u) .normal (dX dl sk dc q i L y100 y101 y102 y103 y104 y105 l'107 c'109 m'111 b'112 f'113 r'114 n' o true):=by
 subst en';exact aC.fin (g:=⟨(rng [(0,1),(3,1),(9,1),(11,1),(14,151)]),[0,1,2,3],[],[(103003,0)]⟩) (o:=[bT,bT,bT,bT,bT,.x (aA x300),bT,bT,bT,bT,bT]) (l:=[_,_,_,_,_,_,_,_,_,_,_,_,_]) (by kernel_rfl) (gc h4 (gc (cC h3) (g4c (cP h1) (gc (atm aA h2) (gc (cP h1) (gc (ixn aA h2) (g3c (cP h1) (gc (aQ h0) gn))))))))
theorem aXm{q:List Int}{i:Int}{L:List RS}{y100 y101 y102 y103 y104 y105:Int}{l'107 c'109:Bool}{m'111 b'112 f'113:Int}{r'114:Bool}{n:Nat}{o u:Bool}{x300:Int}{n':Nat}(h0:(n:Int)<(q.length:Int))(h1:r'114=false)(h2:q[n]? = some x300)(h3:x300≠y100)(h4:inR (((n+1):Nat):Int))(en':n'=(n+1)):aC Tp 0 pT (dX dl sk dc q i L y100 y101 y102 y103 y104 y105 l'107 c'109 m'111 b'112 f'113 r'114 n o u) .normal (dX dl sk dc q i L y100 y101 y102 y103 y104 y105 l'107 c'109 m'111 b'112 f'113 r'114 n' o u):=by
 subst en';exact aC.fin (g:=⟨(rng [(0,1),(3,1),(9,1),(11,1),(14,151)]),[0,1,2,3],[],[]⟩) (o:=[bT,bT,bT,bT,bT,.x (aA x300),bT,bT,bT,bT,bF]) (l:=[_,_,_,_,_,_,_,_,_,_,_,_,_]) (by kernel_rfl) (gc h4 (gc (bE h3) (g4c (cP h1) (gc (atm aA h2) (gc (cP h1) (gc (ixn aA h2) (g3c (cP h1) (gc (aQ h0) gn))))))))
theorem aXn{q:List Int}{i:Int}{L:List RS}{y100 y101 y102 y103 y104 y105:Int}{l'107 c'109:Bool}{m'111 b'112 f'113:Int}{r'114:Bool}{n:Nat}{o u:Bool}{n':Nat}(h0:(n:Int)<(q.length:Int))(h1:r'114=true)(h2:inR (((n+1):Nat):Int))(en':n'=(n+1)):aC Tp 0 pT (dX dl sk dc q i L y100 y101 y102 y103 y104 y105 l'107 c'109 m'111 b'112 f'113 r'114 n o u) .normal (dX dl sk dc q i L y100 y101 y102 y103 y104 y105 l'107 c'109 m'111 b'112 f'113 r'114 n' o u):=by
 subst en';exact aC.fin (g:=⟨(rng [(0,1),(3,1),(9,1),(11,1),(14,151)]),[0,1,2,3],[],[]⟩) (o:=[bT,bF,bF,bF,bF,bF,bF,bF,bF]) (l:=[_,_,_,_,_,_,_,_,_,_]) (by kernel_rfl) (gc h2 (g8c (bA h1) (gc (aQ h0) gn)))
theorem aXo{q:List Int}{i:Int}{L:List RS}{y100 y101 y102 y103 y104 y105:Int}{l'107 c'109:Bool}{m'111 b'112 f'113:Int}{r'114:Bool}{n:Nat}{o u:Bool}(h0:(q.length:Int)≤(n:Int)):aC Tp 0 pT (dX dl sk dc q i L y100 y101 y102 y103 y104 y105 l'107 c'109 m'111 b'112 f'113 r'114 n o u) (.exit 4) (dX dl sk dc q i L y100 y101 y102 y103 y104 y105 l'107 c'109 m'111 b'112 f'113 r'114 n o u):=by
 exact aC.fin (g:=⟨(rng [(0,1),(3,1),(9,1),(11,1),(14,151)]),[0,1,2,3],[],[]⟩) (o:=[bF]) (l:=[_]) (by kernel_rfl) (gc (aR h0) gn)
end
section
theorem bKy{dl:Int}{sk dc:Lqq}{q:List Int}{i:Int}{L:List RS}{y100 y101 y102 y103 y104 y105 k:Int}{l a c u:Bool}{m b f:Int}{r:Bool}{y200 y201 y202 y203 y204 y205:Int}{la206 cn207 op208 up209:Bool}{mu210 bt211 fr212:Int}(hik:i<k)(hx:dc[k.toNat]? = some [y200,y201,y202,y203,y204,y205])(hk0:0≤k)(hu:uni 6 dc)(hkl:k<(L.length:Int))(hL:L[k.toNat]? = some (la206,cn207,op208,up209,mu210,bt211,fr212))(hin:inR (k-(1:Int))) :
  aC Tp 0 (sub (cd Tryz.f75) [1,1,0,1,0,0,1,0,0,1,1,1,1,1,1,0,1,0,0]) (bX dl sk dc q i L y100 y101 y102 y103 y104 y105 k l a c u m b f r) .normal (bX dl sk dc q i L y100 y101 y102 y103 y104 y105 (k-1) l a (if (y205=y100∧cn207=true)∧(y201=5∨(y201=7∧up209=true∧y101<8)) then false else c) (if (y205=y100∧cn207=true)∧7<y201∧r=false then y201 == 8 else u) (if (y205=y100∧cn207=true)∧y201=6∧f=0 then mu210 else m) (if (y205=y100∧cn207=true)∧7<y201∧r=false then y200 else b) (if (y205=y100∧cn207=true)∧y201=6∧f=0 then y200 else f) (if (y205=y100∧cn207=true)∧7<y201 then true else r)):=by
 by_cases d0:y205=y100
 ·by_cases d1:cn207=true
  ·by_cases d2:y201=(5:Int)
   ·by_cases d3:(7:Int)<y201
    ·by_cases d4:r=true
     ·by_cases d5:y201=(6:Int)
      ·by_cases d6:f=(0:Int)
       ·exfalso;omega
       ·exfalso;omega
      ·exfalso;omega
     ·by_cases d5:y201=(6:Int)
      ·by_cases d6:f=(0:Int)
       ·exfalso;omega
       ·exfalso;omega
      ·exfalso;omega
    ·by_cases d4:y201=(6:Int)
     ·by_cases d5:f=(0:Int)
      ·exfalso;omega
      ·exfalso;omega
     ·exact (aOx hik hx hk0 hu d0 ⟨hk0,hkl⟩ hL d1 d2 (by omega) d4 hin rfl).cast (by simp [d0,d1,d2,d3,d4])
   ·by_cases d3:y201=(7:Int)
    ·by_cases d4:up209=true
     ·by_cases d5:y101<(8:Int)
      ·by_cases d6:(7:Int)<y201
       ·by_cases d7:r=true
        ·by_cases d8:y201=(6:Int)
         ·by_cases d9:f=(0:Int)
          ·exfalso;omega
          ·exfalso;omega
         ·exfalso;omega
        ·by_cases d8:y201=(6:Int)
         ·by_cases d9:f=(0:Int)
          ·exfalso;omega
          ·exfalso;omega
         ·exfalso;omega
       ·by_cases d7:y201=(6:Int)
        ·by_cases d8:f=(0:Int)
         ·exfalso;omega
         ·exfalso;omega
        ·exact (aOy hik hx hk0 hu d0 ⟨hk0,hkl⟩ hL d1 d2 d3 d4 d5 (by omega) d7 hin rfl).cast (by simp [d0,d1,d2,d3,d4,d5,d6,d7])
      ·by_cases d6:(7:Int)<y201
       ·by_cases d7:r=true
        ·by_cases d8:y201=(6:Int)
         ·by_cases d9:f=(0:Int)
          ·exfalso;omega
          ·exfalso;omega
         ·exfalso;omega
        ·by_cases d8:y201=(6:Int)
         ·by_cases d9:f=(0:Int)
          ·exfalso;omega
          ·exfalso;omega
         ·exfalso;omega
       ·by_cases d7:y201=(6:Int)
        ·by_cases d8:f=(0:Int)
         ·exfalso;omega
         ·exfalso;omega
        ·exact (aOz hik hx hk0 hu d0 ⟨hk0,hkl⟩ hL d1 d2 d3 d4 (by omega) (by omega) d7 hin rfl).cast (by simp [d0,d1,d2,d3,d4,d5,d6,d7])
     ·by_cases d5:(7:Int)<y201
      ·by_cases d6:r=true
       ·by_cases d7:y201=(6:Int)
        ·by_cases d8:f=(0:Int)
         ·exfalso;omega
         ·exfalso;omega
        ·exfalso;omega
       ·by_cases d7:y201=(6:Int)
        ·by_cases d8:f=(0:Int)
         ·exfalso;omega
         ·exfalso;omega
        ·exfalso;omega
      ·by_cases d6:y201=(6:Int)
       ·by_cases d7:f=(0:Int)
        ·exfalso;omega
        ·exfalso;omega
       ·exact (aPa hik hx hk0 hu d0 ⟨hk0,hkl⟩ hL d1 d2 d3 (by simpa using d4) (by omega) d6 hin rfl).cast (by simp [d0,d1,d2,d3,d4,d5,d6])
    ·by_cases d4:(7:Int)<y201
     ·by_cases d5:r=true
      ·by_cases d6:y201=(6:Int)
       ·by_cases d7:f=(0:Int)
        ·exfalso;omega
        ·exfalso;omega
       ·exact (aPc hik hx hk0 hu d0 ⟨hk0,hkl⟩ hL d1 d2 d3 d4 d5 d6 hin rfl).cast (by simp [d0,d1,d2,d3,d4,d5,d6])
      ·by_cases d6:y201=(6:Int)
       ·by_cases d7:f=(0:Int)
        ·exfalso;omega
        ·exfalso;omega
       ·exact (aPb hik hx hk0 hu d0 ⟨hk0,hkl⟩ hL d1 d2 d3 d4 (by simpa using d5) d6 hin rfl rfl).cast (by simp [d0,d1,d2,d3,d4,d5,d6])
     ·by_cases d5:y201=(6:Int)
      ·by_cases d6:f=(0:Int)
       ·exact (aPd hik hx hk0 hu d0 ⟨hk0,hkl⟩ hL d1 d2 d3 (by omega) d5 d6 hin rfl).cast (by simp [d0,d1,d2,d3,d4,d5,d6])
       ·exact (aPe hik hx hk0 hu d0 ⟨hk0,hkl⟩ hL d1 d2 d3 (by omega) d5 d6 hin rfl).cast (by simp [d0,d1,d2,d3,d4,d5,d6])
      ·exact (aPf hik hx hk0 hu d0 ⟨hk0,hkl⟩ hL d1 d2 d3 (by omega) d5 hin rfl).cast (by simp [d0,d1,d2,d3,d4,d5])
  ·exact (aXk hik hx hk0 hu d0 ⟨hk0,hkl⟩ hL (by simpa using d1) hin rfl).cast (by simp [d0,d1])
 ·exact (aXj hik hx hk0 hu d0 hin rfl).cast (by simp [d0])
end
section

abbrev dN(x:List Int):Int:=x.getD 0 0
abbrev dK(x:List Int):Int:=x.getD 1 0
abbrev dMi(x:List Int):Int:=x.getD 2 0
abbrev dB(x:List Int):Int:=x.getD 3 0
abbrev dMu(x:List Int):Int:=x.getD 4 0
abbrev dAb(x:List Int):Int:=x.getD 5 0
def eM(k:Int):Bool:=k == 4 || k == 7
def cQ(k:Int):Bool:=k == 8 || k == 9

def cH(dc:Lqq)(n:Int):Lqq:=dc.reverse.filter fun x=>dAb x == n

structure DS where
 x:List Int
 cnt:Bool
 upd:Bool
 rul:Option (List Int)
 chg:Option (List Int)
 much:Int

def eB(t:List DS)(n:Int):List DS:=t.reverse.filter fun s=>dAb s.x == n
def cA(dl:Int)(x:List Int):Bool:=eM (dK x) && decide (dl<dMi x)
def tF(x:List Int)(y:List Int):Bool:=dK y == 5 || (dK y == 7 && !cQ (dK x))
def qH(x:List Int)(s:DS):Bool:=tF x s.x && s.cnt && (dK s.x == 5 || s.upd)
def mkS(dl:Int)(oc:List Int)(x:List Int)(t:List DS):DS :=
 ⟨x,!cA dl x && !((eB t (dN x)).any (qH x)),
  match (eB t (dN x)).find? fun s=>cQ (dK s.x) && s.cnt with
   | some s=>dK s.x == 8
   | none=>oc.contains (dN x),
  ((eB t (dN x)).find? fun s=>cQ (dK s.x) && s.cnt).map (·.x),
  ((eB t (dN x)).find? fun s=>dK s.x == 6 && s.cnt).map (·.x),
  match (eB t (dN x)).find? fun s=>dK s.x == 6 && s.cnt with
   | some s=>s.much
   | none=>dMu x⟩
def bS(dl:Int)(oc:List Int):Lqq→List DS
 | []=>[]
 | x::r=>mkS dl oc x (bS dl oc r)::bS dl oc r

theorem uG(dl:Int)(oc:List Int):∀ dc:Lqq,(bS dl oc dc).map (·.x)=dc
 | []=>rfl
 | x::r=>by rw [bS,iM,uG dl oc r];rfl
theorem kJ(dl:Int)(oc:List Int)(dc:Lqq):(bS dl oc dc).length=dc.length:=by
 have:=congrArg List.length (uG dl oc dc);simpa using this
theorem bMk(dl:Int)(oc:List Int)(dc:Lqq)(n:Int):(eB (bS dl oc dc) n).map (·.x)=cH dc n:=by
 unfold eB cH
 conv=>rhs;rw [← uG dl oc dc]
 rw [← List.map_reverse,List.filter_map];rfl

structure cE (dc:Lqq):Prop where
 ud:uni 6 dc
 len:dc.length≤1000
 rng:∀ x∈dc,dcB x=true
 up:dc.Pairwise fun a b=>dN a<dN b
 ord:∀ x∈dc,orB x=true

theorem cE.tail{x:List Int}{r:Lqq}(h:cE (x::r)):cE r :=
 ⟨fun y hy=>h.ud y (kQ7 _ hy),by have:=h.len;simp at this;omega,fun y hy=>h.rng y (kQ7 _ hy),(List.pairwise_cons.1 h.up).2,fun y hy=>h.ord y (kQ7 _ hy)⟩
theorem aQc{a r:Lqq}{x:List Int}(h:cE (a++x::r)):cH (a++x::r) (dN x)=cH r (dN x):=by
 unfold cH;have e:a++x::r=(a++[x])++r:=by simp
 rw [e,List.reverse_append,sQ];have:(a++[x]).reverse.filter (fun y=>dAb y == dN x)=[]:=by
  rw [List.filter_eq_nil_iff];intro y hy;have hy:y∈a++[x]:=aBn.1 hy;have hm:y∈a++x::r:=by rw [e];exact pQ _ hy
  have hx1:1≤dN x:=(gU.1 (h.rng x (by simp))).1.1
  have hle:dN y≤dN x:=by
   rcases nV.1 hy with hy | hy
   ·exact Int.le_of_lt ((List.pairwise_append.1 h.up).2.2 y hy x (by simp))
   ·simp at hy;rw [hy];exact aWm _
  have ho:=h.ord y hm;unfold orB at ho
  simp only [beq_iff_eq];show ¬ y.getD 5 0=x.getD 0 0
  split at ho
  ·have:y.getD 5 0=0:=by simpa using ho
   unfold dN at hx1;omega
  ·have:=bY.1 ho
   unfold dN at hle;omega
 rw [this,List.append_nil]

def yN(L:List (Int × Lqq))(k:Int):Lqq:=match L.find? fun e=>e.1 == k with
 | some e=>e.2
 | none=>[]
def aDp(L:List (Int × Lqq))(k:Int)(v:Lqq):List (Int × Lqq):=if L.any (fun e=>e.1 == k) then L.map (fun e=>if e.1 == k then (k,v) else e) else L++[(k,v)]
def jK(L:List (Int × Lqq))(x:List Int):List (Int × Lqq):=if 0<dAb x then aDp L (dAb x) (yN L (dAb x)++[x]) else L
def abM(dc:Lqq):List (Int × Lqq):=dc.reverse.foldl jK []

structure aLn (q:Lqq) (L:List (Int × Lqq)):Prop where
 nd:(L.map (·.1)).Nodup
 mem:∀ e∈L,0<e.1∧e.2≠[]∧e.2=q.filter fun x=>dAb x == e.1
 all:∀ x∈q,0<dAb x→dAb x∈L.map (·.1)
theorem aLn.look{q:Lqq}{L:List (Int × Lqq)}(h:aLn q L){n:Int}(hn:0<n):yN L n=q.filter fun x=>dAb x == n:=by
 unfold yN;cases hf:L.find? fun e=>e.1 == n with
 | some e =>
  have h1:=vJ hf;have h2:e.1=n:=by simpa using aWk hf
  rw [← h2];exact (h.mem e h1).2.2
 | none =>
  symm;rw [List.filter_eq_nil_iff];intro x hx he;have he:dAb x=n:=by simpa using he
  obtain ⟨e,h1,h2⟩:=fF.1 (h.all x hx (by omega))
  have:=aBm.1 hf e h1;exact this (by rw [h2,he];exact beq_self_eq_true n)
theorem bHd{L:List (Int × Lqq)}{k:Int}{v:Lqq}{e:Int × Lqq}(h:e∈aDp L k v):e=(k,v)∨(e∈L∧e.1≠k):=by
 unfold aDp at h
 split at h
 ·obtain ⟨z,hz,rfl⟩:=fF.1 h
  by_cases hk:z.1=k
  ·left;simp [hk]
  ·right;simp [hk,hz]
 ·rename_i hn
  rcases nV.1 h with h | h
  ·right
   refine ⟨h,fun hk=>hn (List.any_eq_true.2 ⟨e,h,by simpa using hk⟩)⟩
  ·left;simpa using h
theorem bAf{L:List (Int × Lqq)}{k:Int}{v:Lqq}:(k∈L.map (·.1)∧(aDp L k v).map (·.1)=L.map (·.1))∨(k∉L.map (·.1)∧(aDp L k v).map (·.1)=L.map (·.1)++[k]):=by
 unfold aDp
 by_cases h:L.any (fun e=>e.1 == k)=true
 ·left
  rw [if_pos h];refine ⟨?_,?_⟩
  ·obtain ⟨e,h1,h2⟩:=List.any_eq_true.1 h
   exact fF.2 ⟨e,h1,by simpa using h2⟩
  ·rw [tZ]
   refine aHe fun e _ => ?_
   by_cases hk:e.1=k
   ·simp [hk]
   ·simp [hk]
 ·right
  rw [if_neg h];refine ⟨fun hm=>h ?_,by simp⟩
  obtain ⟨e,h1,h2⟩:=fF.1 hm;exact List.any_eq_true.2 ⟨e,h1,by simpa using h2⟩
theorem aLn.step{q:Lqq}{L:List (Int × Lqq)}(h:aLn q L)(x:List Int)(hx:0≤dAb x):aLn (q++[x]) (jK L x):=by
 unfold jK
 by_cases hp:0<dAb x
 ·rw [if_pos hp]
  have hk:=bAf (L:=L) (k:=dAb x) (v:=yN L (dAb x)++[x]);refine ⟨?_,fun e he => ?_,fun y hy h0 => ?_⟩
  ·rcases hk with ⟨_,hk⟩ | ⟨hn,hk⟩
   ·rw [hk];exact h.nd
   ·rw [hk,List.nodup_append]
    exact ⟨h.nd,by simp,fun a ha b hb he=>hn (by rw [← List.mem_singleton.1 hb,← he];exact ha)⟩
  ·rcases bHd he with rfl | ⟨h1,h2⟩
   ·refine ⟨hp,by simp,?_⟩
    dsimp only;rw [h.look hp,sQ];simp
   ·obtain ⟨q1,q2,q3⟩:=h.mem e h1
    refine ⟨q1,q2,?_⟩;rw [sQ,← q3];have:[x].filter (fun y=>dAb y == e.1)=[]:=by
     rw [List.filter_eq_nil_iff];intro y hy;simp at hy
     subst hy;simpa using fun he=>h2 he.symm
    rw [this,List.append_nil]
  ·have:dAb y=dAb x∨dAb y∈L.map (·.1):=by
    rcases nV.1 hy with hy | hy
    ·exact .inr (h.all y hy h0)
    ·simp at hy;left;rw [hy]
   rcases hk with ⟨hm,hk⟩ | ⟨hn,hk⟩
   ·rw [hk]
    rcases this with h1 | h1
    ·rw [h1];exact hm
    ·exact h1
   ·rw [hk]
    rcases this with h1 | h1
    ·rw [h1];simp
    ·exact pQ _ h1
 ·rw [if_neg hp]
  have h0:dAb x=0:=by omega
  refine ⟨h.nd,fun e he => ?_,fun y hy h1 => ?_⟩
  ·obtain ⟨q1,q2,q3⟩:=h.mem e he
   refine ⟨q1,q2,?_⟩;rw [sQ,← q3];have:[x].filter (fun y=>dAb y == e.1)=[]:=by
    rw [List.filter_eq_nil_iff];intro y hy;simp at hy
    subst hy;simp only [beq_iff_eq];omega
   rw [this,List.append_nil]
  ·rcases nV.1 hy with hy | hy
   ·exact h.all y hy h1
   ·simp at hy;rw [hy] at h1;omega
theorem wX:∀ (p q:Lqq) (L:List (Int × Lqq)),aLn q L→(∀ x∈p,0≤dAb x)→aLn (q++p) (p.foldl jK L)
 | [],q,L,h,_=>by simpa using h
 | x::p,q,L,h,hp=>by
  have:=wX p (q++[x]) (jK L x) (h.step x (hp x (mC ..))) (fun y hy=>hp y (kQ7 _ hy))
  simpa using this
theorem kV{dc:Lqq}(h:cE dc):∀ x∈dc,0≤dAb x∧dAb x≤9998:=fun x hx=>by
 have h1:=gU.1 (h.rng x hx);have ho:=h.ord x hx;unfold orB at ho
 show 0≤x.getD 5 0∧x.getD 5 0≤9998
 split at ho
 ·have:x.getD 5 0=0:=by simpa using ho
  omega
 ·have:=bY.1 ho;omega
theorem aQd{dc:Lqq}(h:cE dc):aLn dc.reverse (abM dc):=by
 have:=wX dc.reverse [] [] ⟨by simp,fun e he=>(by cases he),fun x hx=>(by cases hx)⟩ (fun x hx=>(kV h x (by simpa using hx)).1)
 simpa [abM] using this
theorem bHe{dc:Lqq}(h:cE dc){n:Int}(hn:0<n):yN (abM dc) n=cH dc n:=(aQd h).look hn
end
section

def stF(dl:Int)(oc:List Int)(dc:Lqq)(x:List Int):DS:=((bS dl oc dc).find? fun s=>s.x == x).getD (mkS dl oc x [])
def cD(dl:Int)(oc:List Int)(dc:Lqq)(x:List Int):Bool:=(stF dl oc dc x).cnt
def aHs(dl:Int)(oc:List Int)(dc:Lqq)(x:List Int):Bool:=(stF dl oc dc x).upd
def sS(dl:Int)(oc:List Int)(dc:Lqq)(x:List Int):Option (List Int):=(stF dl oc dc x).rul
def aHt(dl:Int)(oc:List Int)(dc:Lqq)(x:List Int):Option (List Int):=(stF dl oc dc x).chg
def iR(dl:Int)(oc:List Int)(dc:Lqq)(x:List Int):Int:=(stF dl oc dc x).much

theorem aLl{a r:Lqq}{x:List Int}(h:cE (a++x::r)){y:List Int}(hy:y∈a):dN y<dN x:=(List.pairwise_append.1 h.up).2.2 y hy x (by simp)
theorem aLm(dl:Int)(oc:List Int){x:List Int}{r:Lqq}:∀ (a:Lqq),cE (a++x::r)→(bS dl oc (a++x::r)).find? (fun s=>s.x == x)=some (mkS dl oc x (bS dl oc r))
 | [],h=>by
  simp only [List.nil_append,bS];rw [List.find?_cons_of_pos];show (mkS dl oc x (bS dl oc r)).x == x;exact beq_self_eq_true x
 | y::a,h=>by
  simp only [List.cons_append,bS];rw [List.find?_cons_of_neg,aLm dl oc a h.tail];show ¬ ((mkS dl oc y (bS dl oc (a++x::r))).x == x)=true;have h1:=aLl h (y:=y) (by simp)
  intro he;have:y=x:=by simpa [mkS] using he
  rw [this] at h1;omega
theorem aCf{dl:Int}{oc:List Int}{a r:Lqq}{x:List Int}(h:cE (a++x::r)):stF dl oc (a++x::r) x=mkS dl oc x (bS dl oc r):=by
 unfold stF;rw [aLm dl oc a h];rfl
theorem aTn(dl:Int)(oc:List Int)(r:Lqq):∀ a:Lqq,∃ l,bS dl oc (a++r)=l++bS dl oc r
 | []=>⟨[],rfl⟩
 | y::a=>by
  obtain ⟨l,h⟩:=aTn dl oc r a;exact ⟨mkS dl oc y (bS dl oc (a++r))::l,by simp [bS,h]⟩
theorem aTo{dl:Int}{oc:List Int}{s:DS}:∀ {dc:Lqq},s∈bS dl oc dc→∃ a r,dc=a++s.x::r∧s=mkS dl oc s.x (bS dl oc r)
 | [],h=>by simp [bS] at h
 | y::q,h=>by
  simp only [bS,kM] at h
  rcases h with rfl | h
  ·exact ⟨[],q,rfl,rfl⟩
  ·obtain ⟨a,r,h1,h2⟩:=aTo h
   exact ⟨y::a,r,by rw [h1];rfl,h2⟩
theorem aFn{dl:Int}{oc:List Int}{dc:Lqq}{s:DS}(h:cE dc)(hs:s∈bS dl oc dc):stF dl oc dc s.x=s:=by
 obtain ⟨a,r,h1,h2⟩:=aTo hs;subst h1;rw [aCf h,← h2]
theorem aQb{dl:Int}{oc:List Int}{dc:Lqq}{x:List Int}(h:cE dc)(hx:x∈dc):(stF dl oc dc x).x=x:=by
 obtain ⟨a,r,rfl⟩:=List.append_of_mem hx;rw [aCf h];rfl
theorem rK{dl:Int}{oc:List Int}{a r:Lqq}{x:List Int}(h:cE (a++x::r)):eB (bS dl oc r) (dN x)=(cH (a++x::r) (dN x)).map (stF dl oc (a++x::r)):=by
 rw [aQc h,← bMk dl oc r (dN x),tZ]
 conv=>lhs;rw [← List.map_id (eB (bS dl oc r) (dN x))]
 refine aHe fun s hs => ?_
 have hs:s∈bS dl oc r:=by
  unfold eB at hs
  exact aBn.1 (aOm.1 hs).1
 have e:a++x::r=(a++[x])++r:=by simp
 have:s∈bS dl oc (a++x::r):=by
  obtain ⟨l,hl⟩:=aTn dl oc r (a++[x]);rw [e,hl];exact aBl _ hs
 exact (aFn h this).symm

theorem eX{dc:Lqq}{n:Int}{y:List Int}(h:y∈cH dc n):y∈dc∧dAb y=n:=by
 unfold cH at h
 obtain ⟨h1,h2⟩:=aOm.1 h;exact ⟨aBn.1 h1,by simpa using h2⟩
section
variable {dl:Int} {oc:List Int} {dc:Lqq} {x:List Int}
theorem bUp(h:cE dc)(l:Lqq)(hl:∀ y∈l,y∈dc)(f:DS→Bool)(g:List Int→Bool)(hfg:∀ y∈dc,f (stF dl oc dc y)=g y):(l.map (stF dl oc dc)).any f=l.any g:=by
 rw [List.any_map]
 induction l with
 | nil=>rfl
 | cons y l ih =>
  rw [List.any_cons,List.any_cons,ih fun z hz=>hl z (kQ7 _ hz)]
  rw [Function.comp,hfg y (hl y (mC ..))]
theorem zP(h:cE dc)(l:Lqq)(hl:∀ y∈l,y∈dc)(f:DS→Bool)(g:List Int→Bool)(hfg:∀ y∈dc,f (stF dl oc dc y)=g y):(l.map (stF dl oc dc)).find? f=(l.find? g).map (stF dl oc dc):=by
 induction l with
 | nil=>rfl
 | cons y l ih =>
  rw [iM,List.find?_cons,List.find?_cons,hfg y (hl y (mC ..)),ih fun z hz=>hl z (kQ7 _ hz)]
  cases g y <;> rfl
theorem bUq(h:cE dc)(hx:x∈dc):cD dl oc dc x=(!cA dl x && !((cH dc (dN x)).any fun y=>tF x y && cD dl oc dc y && (dK y == 5 || aHs dl oc dc y))):=by
 obtain ⟨a,r,rfl⟩:=List.append_of_mem hx;unfold cD;rw [aCf h];simp only [mkS];rw [rK h,bUp (dl:=dl) (oc:=oc) h _ (fun y hy=>(eX hy).1) (qH x) (fun y=>tF x y && cD dl oc (a++x::r) y && (dK y == 5 || aHs dl oc (a++x::r) y)) (fun y hy => ?_)]
 ·rfl
 ·unfold qH cD aHs
  rw [aQb h hy]
theorem tE{l:Lqq}{g:List Int→Bool}{y:List Int}(h:l.find? g=some y):y∈l:=vJ h
theorem aCg(h:cE dc)(l:Lqq)(hl:∀ y∈l,y∈dc)(g:List Int→Bool):((l.find? g).map (stF dl oc dc)).map (·.x)=l.find? g:=by
 cases hf:l.find? g with
 | none=>rfl
 | some y=>simp only [Option.map_some];rw [aQb h (hl y (tE hf))]
theorem aCh(h:cE dc)(hx:x∈dc):sS dl oc dc x=(cH dc (dN x)).find? fun y=>cQ (dK y) && cD dl oc dc y:=by
 obtain ⟨a,r,rfl⟩:=List.append_of_mem hx;unfold sS;rw [aCf h];simp only [mkS];rw [rK h,zP (dl:=dl) (oc:=oc) h _ (fun y hy=>(eX hy).1) _ (fun y=>cQ (dK y) && cD dl oc (a++x::r) y) (fun y hy => ?_),aCg h _ (fun y hy=>(eX hy).1)]
 unfold cD;rw [aQb h hy]
theorem bUr(h:cE dc)(hx:x∈dc):aHs dl oc dc x=match sS dl oc dc x with | some y=>dK y == 8 | none=>oc.contains (dN x):=by
 rw [aCh h hx];obtain ⟨a,r,rfl⟩:=List.append_of_mem hx;unfold aHs;rw [aCf h];simp only [mkS];rw [rK h,zP (dl:=dl) (oc:=oc) h _ (fun y hy=>(eX hy).1) _ (fun y=>cQ (dK y) && cD dl oc (a++x::r) y) (fun y hy => ?_)]
 ·cases hf:(cH (a++x::r) (dN x)).find? fun y=>cQ (dK y) && cD dl oc (a++x::r) y with
  | none=>rfl
  | some y=>simp only [Option.map_some];rw [aQb h (eX (tE hf)).1]
 ·unfold cD;rw [aQb h hy]
theorem aCi(h:cE dc)(hx:x∈dc):aHt dl oc dc x=(cH dc (dN x)).find? fun y=>dK y == 6 && cD dl oc dc y:=by
 obtain ⟨a,r,rfl⟩:=List.append_of_mem hx;unfold aHt;rw [aCf h];simp only [mkS];rw [rK h,zP (dl:=dl) (oc:=oc) h _ (fun y hy=>(eX hy).1) _ (fun y=>dK y == 6 && cD dl oc (a++x::r) y) (fun y hy => ?_),aCg h _ (fun y hy=>(eX hy).1)]
 unfold cD;rw [aQb h hy]
theorem aTp(h:cE dc)(hx:x∈dc):iR dl oc dc x=match aHt dl oc dc x with | some y=>iR dl oc dc y | none=>dMu x:=by
 rw [aCi h hx];obtain ⟨a,r,rfl⟩:=List.append_of_mem hx;unfold iR;rw [aCf h];simp only [mkS];rw [rK h,zP (dl:=dl) (oc:=oc) h _ (fun y hy=>(eX hy).1) _ (fun y=>dK y == 6 && cD dl oc (a++x::r) y) (fun y hy => ?_)]
 ·cases hf:(cH (a++x::r) (dN x)).find? fun y=>dK y == 6 && cD dl oc (a++x::r) y with
  | none=>rfl
  | some y=>rfl
 ·unfold cD;rw [aQb h hy]
theorem bHc(h:cE dc){y:List Int}(hy:y∈dc){n:Int}(hn:dAb y=n)(h1:1≤n):n<dN y:=by
 have ho:=h.ord y hy;unfold orB at ho
 split at ho
 ·have:y.getD 5 0=0:=by simpa using ho
  rw [show y.getD 5 0=dAb y from rfl] at this;omega
 ·have:=bY.1 ho
  rw [show y.getD 5 0=dAb y from rfl] at this
  rw [show y.getD 0 0=dN y from rfl] at this
  omega
end
end
section
abbrev Acc:=Bool × Bool × Int × Int × Int × Bool
def aOw(n kx:Int)(A:Acc)(s:DS):Acc :=
 (if (dAb s.x=n∧s.cnt=true)∧(dK s.x=5∨(dK s.x=7∧s.upd=true∧kx<8)) then false else A.1,
  if (dAb s.x=n∧s.cnt=true)∧7<dK s.x∧A.2.2.2.2.2=false then dK s.x == 8 else A.2.1,
  if (dAb s.x=n∧s.cnt=true)∧dK s.x=6∧A.2.2.2.2.1=0 then s.much else A.2.2.1,
  if (dAb s.x=n∧s.cnt=true)∧7<dK s.x∧A.2.2.2.2.2=false then dN s.x else A.2.2.2.1,
  if (dAb s.x=n∧s.cnt=true)∧dK s.x=6∧A.2.2.2.2.1=0 then dN s.x else A.2.2.2.2.1,
  if (dAb s.x=n∧s.cnt=true)∧7<dK s.x then true else A.2.2.2.2.2)
def cZ(dl:Int)(s:DS):RS:=(cA dl s.x,s.cnt,eM (dK s.x) && (s.cnt && s.rul.isNone),s.upd,s.much,(s.rul.map dN).getD 0,(s.chg.map dN).getD 0)
def rs0:RS:=(false,false,false,false,0,0,0)
theorem bKw{α:Type}{E:α→List PV}{k:Nat}(hE:∀ a,(E a).length=k){l:List α}{i:Nat}(hi:i<l.length)(e:α):((l.set i e).map E).flatten=((l.map E).flatten).take (i*k)++E e++((l.map E).flatten).drop (i*k+k):=by
 have h1:l.set i e=l.take i++e::l.drop (i+1):=by rw [List.set_eq_take_append_cons_drop,if_pos hi]
 have h2:l=l.take i++l[i]::l.drop (i+1):=by rw [← aKr hi,aOj]
 have hlen:((l.take i).map E).flatten.length=i*k:=by rw [zO hE,nC];congr 1;omega
 have h3:(l.map E).flatten=((l.take i).map E).flatten++(E l[i]++((l.drop (i+1)).map E).flatten):=by
  have e2:=congrArg (fun l=>(l.map E).flatten) h2
  simp only [iY,iM,aOk,tY] at e2
  exact e2
 rw [h1,h3,← hlen,List.take_left,iY,iM,aOk,tY];have hd:(((l.take i).map E).flatten++(E l[i]++((l.drop (i+1)).map E).flatten)).drop (((l.take i).map E).flatten.length+k)=((l.drop (i+1)).map E).flatten:=by
  rw [← hE l[i],← oS,← List.append_assoc,List.drop_left]
 rw [hd,List.append_assoc]
theorem bRh(i:Nat)(e:RS)(T:List RS):(List.replicate (i+1) rs0++T).set i e=List.replicate i rs0++e::T:=by
 rw [List.set_append_left _ _ (by simp),List.replicate_succ',List.set_append_right _ _ (by simp)]
 simp
section
variable {dl:Int} {sk dc:Lqq} {q:List Int} {i:Int} {L:List RS} {y100 y101 y102 y103 y104 y105:Int}
theorem bGj{A:Acc}{lt:Bool}(hlt:lt=(eM y101 && decide (dl<y102)))(h0:0≤i)(hx:dc[i.toNat]? = some [y100,y101,y102,y103,y104,y105])(hu:uni 6 dc)(hil:i<(L.length:Int))(hLl:L.length≤1000)
  (H1:∀ l a,aE Tp 0 (sub (cd Tryz.f75) [1,1,0,1,0,0,1,0,0,1,1,1,1,1,1,0,1,0,0]) (bX dl sk dc q i L y100 y101 y102 y103 y104 y105 ((L.length:Int)-(1:Int)) l a (!lt) false y104 0 0 false) (.exit 2) (bX dl sk dc q i L y100 y101 y102 y103 y104 y105 i l a A.1 A.2.1 A.2.2.1 A.2.2.2.1 A.2.2.2.2.1 A.2.2.2.2.2))
  (H2:∀ l c m b f o u,aE Tp 0 (sub (cd Tryz.f75) [1,1,0,1,0,0,1,0,0,1,1,1,1,1,1,1,1,0,1,0,0]) (dX dl sk dc q i L y100 y101 y102 y103 y104 y105 l c m b f A.2.2.2.2.2 0 o u) (.exit 4) (dX dl sk dc q i L y100 y101 y102 y103 y104 y105 l c m b f A.2.2.2.2.2 q.length o (u || (!A.2.2.2.2.2 && q.contains y100)))) :
  aC Tp 0 (sub (cd Tryz.f75) [1,1,0,1,0,0]) (dW dl sk dc q i L.length ((L.map rsE).flatten)) .normal (dW dl sk dc q (i-1) (L.set i.toNat (lt,A.1,eM y101 && (A.1 && !A.2.2.2.2.2),A.2.1 || (!A.2.2.2.2.2 && q.contains y100),A.2.2.1,A.2.2.2.1,A.2.2.2.2.1)).length (((L.set i.toNat (lt,A.1,eM y101 && (A.1 && !A.2.2.2.2.2),A.2.1 || (!A.2.2.2.2.2 && q.contains y100),A.2.2.1,A.2.2.2.1,A.2.2.2.2.1)).map rsE).flatten)):=by
 have hi:i.toNat<L.length:=by omega
 have hin:inR ((L.length:Int)-(1:Int)):=by unfold inR;omega
 have hin2:inR (i-(1:Int)):=by unfold inR;omega
 have hc:∀ o:Bool,[(blP lt),(blP A.1),(blP o),(blP (A.2.1 || (!A.2.2.2.2.2 && q.contains y100))),(aA A.2.2.1),(aA A.2.2.2.1),(aA A.2.2.2.2.1)].length=7∧(i.toNat*7)+7≤((L.map rsE).flatten).length:=fun o=>⟨rfl,by
  rw [zO (k:=7) (fun _=>rfl)]
  have:=Nat.mul_le_mul_right 7 (show i.toNat+1≤L.length from hi)
  omega⟩
 have hs:=fun e=>bKw (E:=rsE) (k:=7) (fun _=>rfl) hi e
 by_cases h4:y101=4
 ·have e1:lt=decide (y102 > dl):=by rw [hlt,h4];rfl
  have e2:eM y101=true:=by rw [h4];rfl
  have H1':=H1 lt true;have ht:decide (y102 > dl)=lt:=e1.symm;rw [e2];cases hA:A.1 with
  | true =>
   rw [hA] at H1'
   exact aXd (a'108:=true) (c'109:=true) h0 hx h0 hu h4 hin (by rw [ht];exact H1') rfl rfl (H2 _ _ _ _ _ _ _) ⟨h0,hil⟩ (by have:=hc (!A.2.2.2.2.2);rw [hA] at this;exact this) hin2 rfl (by rw [oT]) (hs _)
  | false =>
   rw [hA] at H1'
   exact aXe (a'108:=true) (c'109:=false) h0 hx h0 hu h4 hin (by rw [ht];exact H1') rfl rfl (H2 _ _ _ _ _ _ _) ⟨h0,hil⟩ (by have:=hc false;rw [hA] at this;exact this) hin2 rfl (by rw [oT]) (hs _)
 ·by_cases h7:y101=7
  ·have e1:lt=decide (y102 > dl):=by rw [hlt,h7];rfl
   have e2:eM y101=true:=by rw [h7];rfl
   have H1':=H1 lt (y101 == 7);have ht:decide (y102 > dl)=lt:=e1.symm;have ha:(y101 == 7)=true:=by rw [h7];rfl
   rw [e2];cases hA:A.1 with
   | true =>
    rw [hA] at H1'
    exact aXf (c'109:=true) h0 hx h0 hu h4 h7 hin (by rw [ht];exact H1') ha rfl (H2 _ _ _ _ _ _ _) ⟨h0,hil⟩ (by have:=hc (!A.2.2.2.2.2);rw [hA] at this;exact this) hin2 rfl (by rw [oT]) (hs _)
   | false =>
    rw [hA] at H1'
    exact aXg (c'109:=false) h0 hx h0 hu h4 h7 hin (by rw [ht];exact H1') ha rfl (H2 _ _ _ _ _ _ _) ⟨h0,hil⟩ (by have:=hc false;rw [hA] at this;exact this) hin2 rfl (by rw [oT]) (hs _)
  ·have e2:eM y101=false:=by unfold eM;simp [h4,h7]
   have e1:lt=false:=by rw [hlt,e2];rfl
   have ha:(y101 == 7)=false:=by simpa using h7
   rw [e1] at H1 hc ⊢
   rw [e2];exact aXh h0 hx h0 hu h4 h7 hin (H1 false (y101 == 7)) ha (H2 _ _ _ _ _ _ _) ⟨h0,hil⟩ (hc false) hin2 rfl (by rw [oT]) (hs _)
theorem bKx(l c:Bool)(m b f:Int)(r o:Bool)(u:Bool)(hq:q.length≤1000):aE Tp 0 (sub (cd Tryz.f75) [1,1,0,1,0,0,1,0,0,1,1,1,1,1,1,1,1,0,1,0,0]) (dX dl sk dc q i L y100 y101 y102 y103 y104 y105 l c m b f r 0 o u) (.exit 4) (dX dl sk dc q i L y100 y101 y102 y103 y104 y105 l c m b f r q.length o (u || (!r && q.contains y100))):=by
 have:=aE.range (P:=Tp) (k:=0) (b:=sub (cd Tryz.f75) [1,1,0,1,0,0,1,0,0,1,1,1,1,1,1,1,1,0,1,0,0]) (e := .exit 4) (fun n u=>dX dl sk dc q i L y100 y101 y102 y103 y104 y105 l c m b f r n o u) (fun u=>dX dl sk dc q i L y100 y101 y102 y103 y104 y105 l c m b f r q.length o u) (fun u (y:Int)=>u || (!r && y == y100)) (fun _ _=>True) (by simp) q (a0:=u) trivial
  (fun n y u hy _=>by
   have hn:=aT hy;refine ⟨trivial,?_⟩;cases r with
   | true=>rw [show (u || (!true && y == y100))=u by simp];exact aXn (by omega) rfl (aO (by omega)) rfl
   | false =>
    by_cases he:y=y100
    ·rw [show (u || (!false && y == y100))=true by simp [he]];exact aXl (by omega) rfl hy he (aO (by omega)) rfl
    ·rw [show (u || (!false && y == y100))=u by simp [he]];exact aXm (by omega) rfl hy he (aO (by omega)) rfl)
  (fun u _=>aXo (by omega))
 have e:∀ (q:List Int) (u:Bool),q.foldl (fun u (y:Int)=>u || (!r && y == y100)) u=(u || (!r && q.contains y100)):=by
  intro q
  induction q with
  | nil=>intro u;simp
  | cons a q ih =>
   intro u;rw [yZ,ih,List.contains_cons];cases u <;> cases r <;> simp [Bool.or_assoc,eq_comm,BEq.comm]
 rw [e] at this
 exact this
end
end
section
theorem aOv(s:DS)(T:List DS)(n:Int):eB (s::T) n=eB T n++(if dAb s.x=n then [s] else []):=by
 unfold eB;rw [List.reverse_cons,sQ]
 congr 1
 by_cases h:dAb s.x=n
 ·rw [if_pos h,List.filter_cons_of_pos (by simpa using h)];rfl
 ·rw [if_neg h,List.filter_cons_of_neg (by simpa using h)];rfl
abbrev prB(s:DS):Bool:=cQ (dK s.x) && s.cnt
abbrev pcB(s:DS):Bool:=dK s.x == 6 && s.cnt
def uOf:Option DS→Bool
 | some s=>dK s.x == 8
 | none=>false
def mOf(x:List Int):Option DS→Int
 | some s=>s.much
 | none=>dMu x
def nOf:Option DS→Int
 | some s=>dN s.x
 | none=>0
def mR(x:List Int)(c0:Bool)(l:List DS):Acc :=
 (c0 && !(l.any (qH x)),uOf (l.find? prB),mOf x (l.find? pcB),nOf (l.find? prB),nOf (l.find? pcB),(l.find? prB).isSome)
theorem find1(p:DS→Bool)(s:DS):[s].find? p=if p s=true then some s else none:=by
 cases h:p s with
 | true=>rw [List.find?_cons_of_pos h];rfl
 | false=>rw [List.find?_cons_of_neg (by rw [h];simp)];rfl
theorem aKv{x:List Int}(hx:dK x≤9){s:DS}(hc:s.cnt=true):qH x s=true↔(dK s.x=5∨dK s.x=7∧s.upd=true∧dK x<8):=by
 have hx8:(dK x<8)↔cQ (dK x)=false:=by
  unfold cQ;rw [Bool.or_eq_false_iff,beq_eq_false_iff_ne,beq_eq_false_iff_ne];constructor
  ·intro h;constructor <;> omega
  ·rintro ⟨h2,h3⟩;omega
 rw [hx8];unfold qH tF;rw [hc];simp only [kQ6,aWl,beq_iff_eq,Bool.not_eq_true',and_true];constructor
 ·rintro ⟨h2 | ⟨h2,h3⟩,h4 | h4⟩
  ·exact .inl h2
  ·exact .inl h2
  ·exact .inl h4
  ·exact .inr ⟨h2,h4,h3⟩
 ·rintro (h2 | ⟨h2,h3,h4⟩)
  ·exact ⟨.inl h2,.inl h2⟩
  ·exact ⟨.inr ⟨h2,h4⟩,.inr h3⟩
theorem aXc{x:List Int}(hx:dK x≤9)(c0:Bool){l:List DS}(hl:∀ s∈l,1≤dN s.x){s:DS}(hs:dK s.x≤9):aOw (dN x) (dK x) (mR x c0 l) s=mR x c0 (l++(if dAb s.x=dN x then [s] else [])):=by
 by_cases h1:dAb s.x=dN x
 ·rw [if_pos h1]
  have hr7:(7<dK s.x)↔cQ (dK s.x)=true:=by
   unfold cQ;rw [aWl,beq_iff_eq,beq_iff_eq];omega
  have hf:(nOf (l.find? pcB)=0)↔(l.find? pcB)=none:=by
   cases hc:l.find? pcB with
   | none=>exact ⟨fun _=>rfl,fun _=>rfl⟩
   | some y =>
    have:=hl y (vJ hc);exact ⟨fun h=>absurd (show dN y.x=0 from h) (by omega),fun h=>by cases h⟩
  unfold mR;rw [List.any_append,List.find?_append,List.find?_append,find1,find1,List.any_cons,List.any_nil,Bool.or_false];cases hc:s.cnt with
  | false =>
   have e1:qH x s=false:=by unfold qH;rw [hc,Bool.and_false,Bool.false_and]
   have e2:¬ prB s=true:=by show ¬ (cQ (dK s.x) && s.cnt)=true;rw [hc,Bool.and_false];simp
   have e3:¬ pcB s=true:=by show ¬ (dK s.x == 6 && s.cnt)=true;rw [hc,Bool.and_false];simp
   rw [if_neg e2,if_neg e3,e1,Bool.or_false,Option.or_none,Option.or_none];unfold aOw;have hn:¬ (dAb s.x=dN x∧s.cnt=true):=by rw [hc];simp
   rw [if_neg (fun q=>hn q.1),if_neg (fun q=>hn q.1),if_neg (fun q=>hn q.1),if_neg (fun q=>hn q.1),if_neg (fun q=>hn q.1),if_neg (fun q=>hn q.1)]
  | true =>
   have hh:dAb s.x=dN x∧s.cnt=true:=⟨h1,hc⟩;have p1:(prB s=true)↔7<dK s.x:=by
    rw [hr7];show (cQ (dK s.x) && s.cnt)=true↔_;rw [hc,Bool.and_true]
   have p2:(pcB s=true)↔dK s.x=6:=by
    show (dK s.x == 6 && s.cnt)=true↔_;rw [hc,Bool.and_true,beq_iff_eq]
   unfold aOw;refine Prod.ext ?_ (Prod.ext ?_ (Prod.ext ?_ (Prod.ext ?_ (Prod.ext ?_ ?_))))
   ·show (if (dAb s.x=dN x∧s.cnt=true)∧(dK s.x=5∨dK s.x=7∧s.upd=true∧dK x<8) then false else (c0 && !(l.any (qH x))))=(c0 && !(l.any (qH x) || qH x s))
    by_cases h:dK s.x=5∨dK s.x=7∧s.upd=true∧dK x<8
    ·rw [if_pos ⟨hh,h⟩,(aKv hx hc).2 h];simp
    ·rw [if_neg (fun q=>h q.2),show qH x s=false from Bool.eq_false_iff.2 fun q=>h ((aKv hx hc).1 q)];simp
   ·show (if (dAb s.x=dN x∧s.cnt=true)∧7<dK s.x∧(l.find? prB).isSome=false then dK s.x == 8 else uOf (l.find? prB))=uOf ((l.find? prB).or (if prB s=true then some s else none))
    cases hr:l.find? prB with
    | some y=>rw [if_neg (fun q=>by cases q.2.2)];rfl
    | none =>
     by_cases h7:7<dK s.x
     ·rw [if_pos ⟨hh,h7,rfl⟩,if_pos (p1.2 h7)];rfl
     ·rw [if_neg (fun q=>h7 q.2.1),if_neg (fun q=>h7 (p1.1 q))];rfl
   ·show (if (dAb s.x=dN x∧s.cnt=true)∧dK s.x=6∧nOf (l.find? pcB)=0 then s.much else mOf x (l.find? pcB))=mOf x ((l.find? pcB).or (if pcB s=true then some s else none))
    cases hr:l.find? pcB with
    | some y =>
     rw [hr] at hf
     rw [if_neg (fun q=>by cases hf.1 q.2.2)];rfl
    | none =>
     by_cases h7:dK s.x=6
     ·rw [if_pos ⟨hh,h7,rfl⟩,if_pos (p2.2 h7)];rfl
     ·rw [if_neg (fun q=>h7 q.2.1),if_neg (fun q=>h7 (p2.1 q))];rfl
   ·show (if (dAb s.x=dN x∧s.cnt=true)∧7<dK s.x∧(l.find? prB).isSome=false then dN s.x else nOf (l.find? prB))=nOf ((l.find? prB).or (if prB s=true then some s else none))
    cases hr:l.find? prB with
    | some y=>rw [if_neg (fun q=>by cases q.2.2)];rfl
    | none =>
     by_cases h7:7<dK s.x
     ·rw [if_pos ⟨hh,h7,rfl⟩,if_pos (p1.2 h7)];rfl
     ·rw [if_neg (fun q=>h7 q.2.1),if_neg (fun q=>h7 (p1.1 q))];rfl
   ·show (if (dAb s.x=dN x∧s.cnt=true)∧dK s.x=6∧nOf (l.find? pcB)=0 then dN s.x else nOf (l.find? pcB))=nOf ((l.find? pcB).or (if pcB s=true then some s else none))
    cases hr:l.find? pcB with
    | some y =>
     rw [hr] at hf
     rw [if_neg (fun q=>by cases hf.1 q.2.2)];rfl
    | none =>
     by_cases h7:dK s.x=6
     ·rw [if_pos ⟨hh,h7,rfl⟩,if_pos (p2.2 h7)];rfl
     ·rw [if_neg (fun q=>h7 q.2.1),if_neg (fun q=>h7 (p2.1 q))];rfl
   ·show (if (dAb s.x=dN x∧s.cnt=true)∧7<dK s.x then true else (l.find? prB).isSome)=((l.find? prB).or (if prB s=true then some s else none)).isSome
    by_cases h7:7<dK s.x
    ·rw [if_pos ⟨hh,h7⟩,if_pos (p1.2 h7)]
     cases l.find? prB <;> rfl
    ·rw [if_neg (fun q=>h7 q.2),if_neg (fun q=>h7 (p1.1 q)),Option.or_none]
 ·rw [if_neg h1,List.append_nil]
  unfold aOw;rw [if_neg (fun q=>h1 q.1.1),if_neg (fun q=>h1 q.1.1),if_neg (fun q=>h1 q.1.1),if_neg (fun q=>h1 q.1.1),if_neg (fun q=>h1 q.1.1),if_neg (fun q=>h1 q.1.1)]
theorem aKw{x:List Int}(hx:dK x≤9)(c0:Bool):∀ {T:List DS},(∀ s∈T,1≤dN s.x∧dK s.x≤9)→T.reverse.foldl (aOw (dN x) (dK x)) (c0,false,dMu x,0,0,false)=mR x c0 (eB T (dN x))
 | [],_=>by
  show (c0,false,dMu x,(0:Int),(0:Int),false)=(c0 && true,false,dMu x,(0:Int),(0:Int),false);rw [Bool.and_true]
 | s::T,h=>by
  rw [List.reverse_cons,aHg,aKw hx c0 (fun y hy=>h y (kQ7 _ hy)),yZ,List.foldl_nil,aOv]
  refine aXc hx c0 (fun y hy => ?_) (h s (mC ..)).2
  unfold eB at hy
  exact (h y (kQ7 _ (aBn.1 (aOm.1 hy).1))).1
end
section

theorem bZu{dc:Lqq}{base:Nat}:FV Tp 147 [(.p (fS dc))] base (.fn 187 [] [(.rp [(fS dc)] 0)]) []:=by
 exact FV.fin Tryz.func147 rfl (o:=[.g 3 ⟨[],[],[0],[]⟩]) (l:=[]) (by kernel_rfl) (gn)
end
section
variable {P:Program} {C C0:Cx} {M M0:Mem} {w w0:World}

theorem cK{w:World}{b:Nat}{o:Obj}(h:w.heap[b]? = some o):b<w.heap.size:=(kQ9.1 h).1

theorem aCr(hM:aU P C M w){w':World}(hsz:w.heap.size≤w'.heap.size)(hF:∀ b,C.F b→w'.heap[b]? = w.heap[b]?)(hL:∀ (id:Nat) (o:AO) (b:Nat),M[id]? = some (some o)→o.live=true→C.ι id=some b→w'.heap[b]? = w.heap[b]?) :
  aU P C M w'∧Le C C M M w w':=by
 have hle:Le C C M M w w':=⟨fun _ o h=>⟨o,h⟩,fun _ _ _ _ _ cs h=>⟨cs,h⟩,fun _ o h o' h' hl=>by rw [h] at h';cases h';exact ⟨hl,rfl,rfl⟩,fun _ h=>h,hF⟩
 refine ⟨⟨fun i ty' n cs hm => ?_,fun i ty' cs hm => ?_,fun i es cl hm => ?_,hM.inj,hM.nF,fun b hb=>kQ8 (hM.Fs b hb) hsz,fun i x b hm hl hb=>kQ8 (hM.lt i x b hm hl hb) hsz⟩,hle⟩
 ·rcases hM.row _ _ _ _ hm with h4 | ⟨b,arr,inf,q0,q1,q2,q3,q4,q5,q6,q7,q8⟩
  ·exact .inl h4
  ·exact .inr ⟨b,arr,inf,q0,by rw [hL _ _ _ hm rfl q0];exact q1,q2,q3,q4,q5,q6,fun j hj=>(q7 j hj).mono hle.F hle.fz,q8⟩
 ·obtain ⟨b,arr,q0,q1,q2,q3,q4⟩:=hM.box _ _ _ hm
  exact ⟨b,arr,q0,by rw [hL _ _ _ hm rfl q0];exact q1,q2,fun j hj=>(q3 j hj).mono hle,q4⟩
 ·obtain ⟨b,arr,q0,q1,q2,q3⟩:=hM.mp _ _ _ hm
  refine ⟨b,arr,q0,by rw [hL _ _ _ hm rfl q0];exact q1,q2,fun j hj => ?_⟩
  obtain ⟨en,r1,r2,r3,r4⟩:=q3 j hj;exact ⟨en,r1,r2,r3,r4.mono hle.F hle.fz⟩

theorem Sim.beside{R R':List (Nat × Obj)}{st:St}{a:Act}{w':World}(h:Sim P (C0.with R) M0 w0 st a w)(X:Nat→Prop)(hX:∀ b,X b→∃ o,(b,o)∈R)(h1:w'.os=w.os)(h2:w'.tape=w.tape)(h3:w'.output=w.output)
  (hsz:w.heap.size≤w'.heap.size) (hk:∀ b,b<w.heap.size→¬ X b→w'.heap[b]? = w.heap[b]?)
  (hR':∀ p∈R',(p∈R∧¬ X p.1)∨(w'.heap[p.1]? = some p.2∧p.2 ≠ .deferred (some [])∧(w.heap.size≤p.1∨∃ o,(p.1,o)∈R))):Sim P (C0.with R') M0 w0 st a w':=by
 obtain ⟨C,hS,hM,hF,⟨l,m1,m2,m3⟩,hR,hP⟩:=h;have hXR:∀ b,X b→∃ o,w.heap[b]? = some o∧w0.heap.size≤b∧o ≠ .deferred (some [])∧¬ C.F b∧∀ (id:Nat) (o:AO),st.m[id]? = some (some o)→o.live=true→C.ι id≠some b:=fun b hb=>by
  obtain ⟨o,ho⟩:=hX b hb;exact ⟨o,hR _ ho⟩
 have hFz:∀ b,C.F b→w'.heap[b]? = w.heap[b]? := fun b hb=>hk b (hM.Fs b hb) (fun hx=>by obtain ⟨_,_,_,_,q,_⟩:=hXR b hx;exact q hb)
 have hLv:∀ (id:Nat) (o:AO) (b:Nat),st.m[id]? = some (some o)→o.live=true→C.ι id=some b→w'.heap[b]? = w.heap[b]? := fun id o b ho hl hb=>hk b (hM.lt _ _ _ ho hl hb) (fun hx=>by obtain ⟨_,_,_,_,_,q⟩:=hXR b hx;exact q id o ho hl hb)
 obtain ⟨hM',hle⟩:=aCr hM hsz hFz hLv;refine ⟨C,hS.le hle,hM',⟨h1.trans hF.os,h2.trans hF.tape,h3.trans hF.out,gO hF.size hsz,fun b hb hn=>(hk b (kQ8 hb hF.size) (fun hx=>by obtain ⟨_,_,q,_⟩:=hXR b hx;omega)).trans (hF.keep b hb hn),hF.ids,hF.row,hF.liv,hF.new,hF.F1,hF.F2⟩,⟨l,m1,m2,fun D hD => ?_⟩,fun p hp => ?_,fun i to ti sz L hm => ?_,hP.2⟩
 ·obtain ⟨q1,q2,q3⟩:=m3 D hD
  refine ⟨(hk D (cK q1) (fun hx => ?_)).trans q1,q2,q3⟩
  obtain ⟨o,r1,_,r3,_⟩:=hXR D hx;rw [q1] at r1;cases r1;exact r3 rfl
 ·rcases hR' p hp with ⟨hin,hx⟩ | ⟨r1,r2,r3⟩
  ·obtain ⟨q1,q2,q3,q4,q5⟩:=hR p hin
   exact ⟨(hk _ (cK q1) hx).trans q1,q2,q3,q4,q5⟩
  ·rcases r3 with r3 | ⟨o,ho⟩
   ·refine ⟨r1,gO hF.size r3,r2,fun hf => ?_,fun id o ho hl hb => ?_⟩
    ·have:=hM.Fs _ hf;omega
    ·have:=hM.lt _ _ _ ho hl hb;omega
   ·obtain ⟨q1,q2,q3,q4,q5⟩:=hR _ ho
    exact ⟨r1,q2,r2,q4,q5⟩
 ·obtain ⟨p,p0,p1⟩:=hP.1 _ _ _ _ _ hm
  refine ⟨p.move p.io rfl (fun _ h=>h) hFz fun b hb=>⟨hk b (p.lt hb).1 fun hx => ?_,p.own b hb⟩,p0,fun b hb=>⟨(p1 b hb).1,fun q hq e => ?_⟩⟩
  ·obtain ⟨o,ho⟩:=hX b hx
   exact (p1 b hb).2 _ ho rfl
  ·rcases hR' q hq with ⟨hin,_⟩ | ⟨_,_,r3⟩
   ·exact (p1 b hb).2 q hin e
   ·rcases r3 with r3 | ⟨o,ho⟩
    ·have:=(p.lt hb).1;omega
    ·exact (p1 b hb).2 _ ho e

theorem Sim.has{R:List (Nat × Obj)}{st:St}{a:Act}(h:Sim P (C0.with R) M0 w0 st a w):∀ p∈R,w.heap[p.1]? = some p.2:=fun p hp=>by
 obtain ⟨C,_,_,_,_,hR,_⟩:=h;exact (hR p hp).1

end
section
open Go.Maps Go.MapKept
open Go.ChangeMaps (setBlock)

structure Ent where
 k:Int
 l:Lqq
 b:Nat
 cap:Nat
 arr:Array Value

def Ent.val(e:Ent):Value := .slice (some ⟨e.b,0,none⟩) e.l.length e.cap
def Ent.blk(e:Ent):Nat × Obj:=(e.b,.cells e.arr 44 (0,0))
structure Ent.OK (e:Ent):Prop where
 key:(Lit.int .i64 e.k).wf=true
 sz:e.arr.size=e.cap*6
 le:e.l.length≤e.cap
 cap:e.cap≤maxLen
 at_:e.arr.toList.take (e.l.length*6)=e.l.flatten.map (Value.int .i64)
 u:uni 6 e.l

structure lY (mb:Nat) (es:Array MapEntry) (L:List Ent):Prop where
 e1:∀ x∈es.toList,∃ e∈L,x.key = .int .i64 e.k∧x.val=e.val
 e2:∀ e∈L,∃ x∈es.toList,x.key = .int .i64 e.k∧x.val=e.val
 nd:es.toList.Pairwise (fun x y=>x.key≠y.key)
 ok:∀ e∈L,e.OK
 keys:(L.map (·.k)).Nodup
 blks:(mb::L.map (·.b)).Nodup
 ord:es.toList.map (fun x=>(x.key,x.val))=L.map fun e=>(Value.int .i64 e.k,e.val)

theorem lY.nil(mb:Nat):lY mb #[] []:=⟨fun x h=>by simp at h,fun e h=>by simp at h,by simp,fun e h=>by simp at h,by simp,by simp,rfl⟩

def rP(L:List Ent)(k:Int):Option Ent:=L.find? fun e=>e.k == k
def qJ(L:List Ent)(k:Int):Value:=match rP L k with
 | some e=>e.val
 | none => .slice none 0 0

theorem uI{L:List Ent}{k:Int}{e:Ent}(h:rP L k=some e):e∈L∧e.k=k:=⟨vJ h,by simpa using aWk h⟩
theorem aQz{L:List Ent}{k:Int}(h:rP L k=none):∀ e∈L,e.k≠k:=fun e he hk=>by
 have:=aBm.1 h e he;simp [hk] at this
theorem bCf{L:List Ent}{k:Int}{e:Ent}(hn:(L.map (·.k)).Nodup)(he:e∈L)(hk:e.k=k):rP L k=some e:=by
 cases h:rP L k with
 | none=>exact absurd hk (aQz h e he)
 | some e' =>
  obtain ⟨h1,h2⟩:=uI h;have:∀ (l:List Ent),(l.map (·.k)).Nodup→e∈l→e'∈l→e=e':=by
   intro l
   induction l with
   | nil=>intro _ h;simp at h
   | cons x r ih =>
    intro hn h3 h4;rw [iM,List.nodup_cons] at hn
    rcases kM.1 h3 with e1 | h5
    ·rcases kM.1 h4 with e2 | h6
     ·rw [e1,e2]
     ·exact absurd (fF.2 ⟨e',h6,by rw [h2,← hk,e1]⟩) hn.1
    ·rcases kM.1 h4 with e2 | h6
     ·exact absurd (fF.2 ⟨e,h5,by rw [hk,← h2,e2]⟩) hn.1
     ·exact ih hn.2 h5 h6
  rw [this L hn he h1]

section
variable {P:Program} {w:World} {t kt et:TypeId} {mb:Nat} {es:Array MapEntry} {cl:Nat} {L:List Ent}

theorem aIg(hkt:P.underlying kt=some (.int .i64)){k:Int}(hk:(Lit.int .i64 k).wf=true):keyOf P kt (.int .i64 k)=some (.int .i64 k):=keyOf_int_mk hkt hk

theorem bIi(ht:P.underlying t=some (.map kt et))(hkt:P.underlying kt=some (.int .i64))(hz:(zeroValue et).run P w = .ok (.slice none 0 0) w)(hb:w.heap[mb]? = some (.map es cl))(hM:lY mb es L){k:Int}(hk:(Lit.int .i64 k).wf=true) :
  (Instr.lookup t (.map (some mb)) (.int .i64 k) false).run P w = .ok (qJ L k) w:=by
 have K:=int_keyed hkt;have hkey:=aIg hkt hk;have hes:∀ e∈es.toList,∃ l,keyOf P kt e.key=some l:=fun x hx=>by
  obtain ⟨e,he,h1,_⟩:=hM.e1 x hx;exact ⟨_,by rw [h1];exact aIg hkt (hM.ok e he).key⟩
 rcases K.find w hkey es.toList hes with ⟨h1,h2⟩ | ⟨j,e0,h1,h2,h3⟩
 ·have:rP L k=none:=by
   rw [rP,aBm];intro e he;obtain ⟨x,hx,h4,_⟩:=hM.e2 e he;have:=h2 x hx;rw [h4] at this
   intro hk';exact this (by rw [eq_of_beq hk'])
  unfold qJ;rw [this];simp [Instr.lookup,run_underlying ht,MapKept.run_getObj_map hb,K.check w _ hkey,h1,hz,Result.andThen]
 ·obtain ⟨e,he,h4,h5⟩:=hM.e1 e0 (kQ4 h2)
  rw [h3] at h4
  have hk':e.k=k:=by injection h4 with _ h;exact h.symm
  unfold qJ;rw [bCf hM.keys he hk'];simp [Instr.lookup,run_underlying ht,MapKept.run_getObj_map hb,K.check w _ hkey,h1,Result.andThen,h5]

def oW(L:List Ent)(e:Ent):List Ent:=if L.any (fun x=>x.k == e.k) then L.map (fun x=>if x.k == e.k then e else x) else L++[e]
theorem vW{L:List Ent}{e:Ent}(h:∀ x∈L,x.k≠e.k):oW L e=L++[e]:=by
 unfold oW;rw [if_neg];intro h1;obtain ⟨x,hx,he⟩:=List.any_eq_true.1 h1;exact h x hx (by simpa using he)
theorem rQ{L:List Ent}{e x:Ent}(hx:x∈L)(he:x.k=e.k):oW L e=L.map (fun x=>if x.k == e.k then e else x):=by
 unfold oW;rw [if_pos (List.any_eq_true.2 ⟨x,hx,by simpa using he⟩)]
theorem iG{L:List Ent}{e x:Ent}:x∈oW L e↔(x∈L∧x.k≠e.k)∨x=e:=by
 by_cases h:∃ y∈L,y.k=e.k
 ·obtain ⟨y,hy,he⟩:=h
  rw [rQ hy he,fF];constructor
  ·rintro ⟨z,hz,rfl⟩
   by_cases hk:z.k=e.k
   ·rw [if_pos (by simpa using hk)];exact .inr rfl
   ·rw [if_neg (by simpa using hk)];exact .inl ⟨hz,hk⟩
  ·rintro (⟨h1,h2⟩ | rfl)
   ·exact ⟨x,h1,by rw [if_neg (by simpa using h2)]⟩
   ·exact ⟨y,hy,by rw [if_pos (by simpa using he)]⟩
 ·have h':∀ y∈L,y.k≠e.k:=fun y hy he=>h ⟨y,hy,he⟩
  rw [vW h',nV,List.mem_singleton];constructor
  ·rintro (h1 | h1)
   ·exact .inl ⟨h1,h' x h1⟩
   ·exact .inr h1
  ·rintro (⟨h1,_⟩ | h1)
   ·exact .inl h1
   ·exact .inr h1
theorem bCg{L:List Ent}{e:Ent}(hn:(L.map (·.k)).Nodup):((oW L e).map (·.k)).Nodup:=by
 by_cases h:∃ y∈L,y.k=e.k
 ·obtain ⟨y,hy,he⟩:=h
  rw [rQ hy he,tZ];have:L.map ((fun x=>x.k) ∘ fun x=>if x.k == e.k then e else x)=L.map (·.k):=aHe fun x _=>by
   by_cases hk:x.k=e.k
   ·simp [hk]
   ·simp [hk]
  rw [this];exact hn
 ·have h':∀ y∈L,y.k≠e.k:=fun y hy he=>h ⟨y,hy,he⟩
  rw [vW h',iY,List.nodup_append];refine ⟨hn,by simp,fun x hx y hy => ?_⟩
  obtain ⟨z,hz,rfl⟩:=fF.1 hx;simp at hy
  subst hy;exact h' z hz
theorem bCh{mb:Nat}{L:List Ent}{e:Ent}(hn:(L.map (·.k)).Nodup)(hb:(mb::L.map (·.b)).Nodup)(h1:e.b≠mb)(h2:∀ x∈L,x.k≠e.k→x.b≠e.b):(mb::(oW L e).map (·.b)).Nodup:=by
 obtain ⟨b1,b2⟩:=List.nodup_cons.1 hb;refine List.nodup_cons.2 ⟨?_,?_⟩
 ·intro hin
  obtain ⟨x,hx,hxb⟩:=fF.1 hin
  rcases iG.1 hx with ⟨h1,_⟩ | rfl
  ·exact b1 (fF.2 ⟨x,h1,hxb⟩)
  ·exact h1 hxb
 ·by_cases h:∃ y∈L,y.k=e.k
  ·obtain ⟨y,hy,he⟩:=h
   rw [rQ hy he,tZ,List.Nodup,List.pairwise_map];rw [List.Nodup,List.pairwise_map] at hn b2
   refine List.Pairwise.imp_of_mem ?_ (hn.and b2);intro x z hx hz ⟨q1,q2⟩;dsimp only [Function.comp]
   by_cases hk:x.k=e.k
   ·rw [if_pos (by simpa using hk),if_neg (by simp;rw [← hk];exact fun h=>q1 h.symm)]
    exact fun he=>h2 z hz (fun h=>q1 (by rw [hk,h])) he.symm
   ·rw [if_neg (by simpa using hk)]
    by_cases hk2:z.k=e.k
    ·rw [if_pos (by simpa using hk2)];exact h2 x hx hk
    ·rw [if_neg (by simpa using hk2)];exact q2
  ·have h':∀ y∈L,y.k≠e.k:=fun y hy he=>h ⟨y,hy,he⟩
   rw [vW h',iY,List.nodup_append];refine ⟨b2,by simp,fun x hx y hy => ?_⟩
   obtain ⟨z,hz,rfl⟩:=fF.1 hx;simp at hy
   subst hy;exact h2 z hz (h' z hz)

theorem bNn(ht:P.underlying t=some (.map kt et))(hkt:P.underlying kt=some (.int .i64))(hb:w.heap[mb]? = some (.map es cl))(hM:lY mb es L)(e:Ent)(he:e.OK)
  (hblk:e.b≠mb∧∀ x∈L,x.k≠e.k→x.b≠e.b) :
  ∃ es' cl',(Instr.mapUpdate t (.map (some mb)) (.int .i64 e.k) e.val).run P w = .ok () (setBlock w mb (.map es' cl'))∧lY mb es' (oW L e)∧((∀ x∈es.toList,x.born<cl)→∀ x∈es'.toList,x.born<cl'):=by
 have K:=int_keyed hkt;have hkey:=aIg hkt he.key;have hes:∀ e∈es.toList,∃ l,keyOf P kt e.key=some l:=fun x hx=>by
  obtain ⟨e,he,h1,_⟩:=hM.e1 x hx;exact ⟨_,by rw [h1];exact aIg hkt (hM.ok e he).key⟩
 have hok:∀ x∈oW L e,x.OK:=fun x hx=>by
  rcases iG.1 hx with ⟨h1,_⟩ | rfl
  ·exact hM.ok x h1
  ·exact he
 have hkeys:((oW L e).map (·.k)).Nodup:=bCg hM.keys
 have hblks:(mb::(oW L e).map (·.b)).Nodup:=bCh hM.keys hM.blks hblk.1 hblk.2
 rcases K.find w hkey es.toList hes with ⟨h1,h2⟩ | ⟨j,e0,h1,h2,h3⟩
 ·refine ⟨es.push ⟨.int .i64 e.k,e.val,cl⟩,cl+1,?_,⟨fun x hx => ?_,fun x hx => ?_,?_,hok,hkeys,hblks,?_⟩,fun hbn x hx => ?_⟩
  ·simp [Instr.mapUpdate,run_underlying ht,MapKept.run_getObj_map hb,K.check w false hkey,h1,MapKept.run_setObj_map _ hb,Result.andThen,setBlock]
  ·simp only [Array.toList_push,nV,List.mem_singleton] at hx
   rcases hx with hx | rfl
   ·obtain ⟨y,hy,q1,q2⟩:=hM.e1 x hx
    refine ⟨y,iG.2 (.inl ⟨hy,fun hk=>h2 x hx (by rw [q1,hk])⟩),q1,q2⟩
   ·exact ⟨e,iG.2 (.inr rfl),rfl,rfl⟩
  ·rcases iG.1 hx with ⟨q1,_⟩ | rfl
   ·obtain ⟨y,hy,q2⟩:=hM.e2 x q1
    exact ⟨y,by simp [hy],q2⟩
   ·exact ⟨⟨.int .i64 x.k,x.val,cl⟩,by simp,rfl,rfl⟩
  ·rw [Array.toList_push,List.pairwise_append]
   exact ⟨hM.nd,by simp,fun x hx y hy=>by simp at hy;subst hy;exact h2 x hx⟩
  ·have hno:∀ x∈L,x.k≠e.k:=fun x hx hk=>by
    obtain ⟨y,hy,q2,_⟩:=hM.e2 x hx;exact h2 y hy (by rw [q2,hk])
   rw [vW hno,Array.toList_push,iY,iY,hM.ord];rfl
  ·simp only [Array.toList_push,nV,List.mem_singleton] at hx
   rcases hx with hx | rfl
   ·exact Nat.lt_succ_of_lt (hbn x hx)
   ·exact Nat.lt_succ_self _
 ·have hj:es[j]? = some e0:=by simpa using h2
  have hlist:(es.modify j (fun e'=>{ e' with key := .int .i64 e.k,val:=e.val })).toList=es.toList.set j { e0 with key := .int .i64 e.k,val:=e.val }:=by
   rw [Array.toList_modify,Go.ChangeMaps.modify_eq_set _ _ _ _ h2]
  have hjl:j<es.toList.length:=(kQ3.1 h2).1;have hother:∀ i x,es.toList[i]? = some x→i≠j→x.key ≠ .int .i64 e.k:=fun i x hi hij=>by
   rw [← h3];obtain ⟨hi1,rfl⟩:=kQ3.1 hi;obtain ⟨hj1,hje⟩:=kQ3.1 h2;have:=List.pairwise_iff_getElem.1 hM.nd
   rcases Nat.lt_or_ge i j with h | h
   ·rw [← hje];exact this i j hi1 hj1 h
   ·rw [← hje];exact (this j i hj1 hi1 (by omega)).symm
  have who:∀ x∈es.toList.set j { e0 with key := .int .i64 e.k,val:=e.val },x={ e0 with key := .int .i64 e.k,val:=e.val }∨(x∈es.toList∧x.key ≠ .int .i64 e.k):=fun x hx=>by
   obtain ⟨i,hi,ex⟩:=List.getElem_of_mem hx;rw [wS] at ex
   split at ex
   ·exact .inl ex.symm
   ·rename_i hne
    have hi':i<es.toList.length:=by simpa using hi
    exact .inr ⟨ex ▸ fV hi',hother i x (by rw [kQ0 hi',ex]) (fun e=>hne e.symm)⟩
  refine ⟨es.modify j (fun e'=>{ e' with key := .int .i64 e.k,val:=e.val }),cl,?_,⟨fun x hx => ?_,fun x hx => ?_,?_,hok,hkeys,hblks,?_⟩,fun hbn x hx => ?_⟩
  ·simp [Instr.mapUpdate,run_underlying ht,MapKept.run_getObj_map hb,K.check w false hkey,h1,hj,h3,K.stays w hkey,MapKept.run_setObj_map _ hb,Result.andThen,setBlock]
  ·rw [hlist] at hx
   rcases who x hx with rfl | ⟨q1,q2⟩
   ·exact ⟨e,iG.2 (.inr rfl),rfl,rfl⟩
   ·obtain ⟨y,hy,r1,r2⟩:=hM.e1 x q1
    exact ⟨y,iG.2 (.inl ⟨hy,fun hk=>q2 (by rw [r1,hk])⟩),r1,r2⟩
  ·rw [hlist]
   rcases iG.1 hx with ⟨q1,q2⟩ | rfl
   ·obtain ⟨y,hy,r1,r2⟩:=hM.e2 x q1
    obtain ⟨i,hi,rfl⟩:=List.getElem_of_mem hy;have hij:i≠j:=fun hij=>by
     subst hij;rw [kQ0 hi] at h2;cases h2
     rw [h3] at r1;injection r1 with _ r1;exact q2 r1.symm
    exact ⟨es.toList[i],List.mem_iff_getElem.2 ⟨i,by simpa using hi,by rw [wS,if_neg (Ne.symm hij)]⟩,r1,r2⟩
   ·exact ⟨_,List.mem_iff_getElem.2 ⟨j,by simpa using hjl,by rw [wS,if_pos rfl]⟩,rfl,rfl⟩
  ·rw [hlist,List.pairwise_iff_getElem]
   intro i1 i2 hi1 hi2 hlt;simp only [oT] at hi1 hi2
   have h0:=List.pairwise_iff_getElem.1 hM.nd i1 i2 hi1 hi2 hlt;rw [wS,wS]
   split
   ·rename_i e1
    rw [if_neg (by omega)]
    exact (hother i2 _ (kQ0 hi2) (by omega)).symm
   ·split
    ·exact hother i1 _ (kQ0 hi1) (by omega)
    ·exact h0
  ·obtain ⟨y,hy,q1,q2⟩:=hM.e1 e0 (kQ4 h2)
   have hyk:y.k=e.k:=by rw [h3] at q1;injection q1 with _ q1;exact q1.symm
   rw [hlist,rQ hy hyk,tZ];apply List.ext_getElem?;intro i;rw [gM,gM,List.getElem?_set];have hoi:(es.toList.map fun x=>(x.key,x.val))[i]? = (L.map fun e=>(Value.int .i64 e.k,e.val))[i]? := by rw [hM.ord]
   rw [gM,gM] at hoi
   by_cases hij:j=i
   ·subst hij
    rw [if_pos rfl,if_pos hjl];rw [h2] at hoi
    cases hL:L[j]? with
    | none=>rw [hL] at hoi;cases hoi
    | some z =>
     rw [hL] at hoi
     have hz:z.k=e.k:=by
      simp at hoi
      rw [h3] at hoi
      have:=hoi.1;injection this with _ h;exact h.symm
     simp [hz]
   ·rw [if_neg hij]
    cases hL:L[i]? with
    | none=>rw [hL] at hoi;rw [hoi];rfl
    | some z =>
     rw [hL] at hoi
     rw [hoi];have hz:z.k≠e.k:=fun hz=>by
      cases he:es.toList[i]? with
      | none=>rw [he] at hoi;cases hoi
      | some x =>
       rw [he] at hoi
       simp at hoi
       exact hother i x he (fun h=>hij h.symm) (by rw [hoi.1,hz])
     simp [hz]
  ·rw [hlist] at hx
   rcases who x hx with rfl | ⟨q1,_⟩
   ·exact hbn e0 (kQ4 h2)
   ·exact hbn x q1

theorem Ent.owns{e:Ent}(he:e.OK)(h:w.heap[e.b]? = some (.cells e.arr 44 (0,0))):w.ownsRow 0 44 6 e.val e.l.length (e.l.flatten.map (Value.int .i64)) :=
 ⟨by rw [fL,nW he.u],.inr ⟨e.b,e.cap,e.arr,rfl,Nat.zero_le _,h,he.le,he.cap,he.sz,he.at_⟩⟩
theorem bIj:w.ownsRow 0 44 6 (.slice none 0 0) 0 []:=⟨rfl,.inl ⟨rfl,rfl⟩⟩
theorem bIk{v:Value}{l:Lqq}{k:Int}(hk:(Lit.int .i64 k).wf=true)(hl:l≠[])(hu:uni 6 l)(h:w.ownsRow 0 44 6 v l.length (l.flatten.map (Value.int .i64))):∃ e:Ent,e.k=k∧e.l=l∧e.val=v∧e.OK∧w.heap[e.b]? = some (.cells e.arr 44 (0,0)):=by
 rcases h.2 with ⟨_,h0⟩ | ⟨g,cap,cur,rfl,_,h1,h2,h3,h4,h5⟩
 ·exact absurd (aDo h0) hl
 ·exact ⟨⟨k,l,g,cap,cur⟩,rfl,rfl,rfl,⟨hk,h4,h2,h3,h5,hu⟩,h1⟩
end
end
section
variable {P:Program} {C C0:Cx} {M M0:Mem} {w w0:World}

abbrev SR:=St→List (Nat × Obj)→Prop
section
variable {k:Nat} {a b c:Code} {Ψ Ψ1 Ψ':SR} {e:Ex}
end

theorem Sim.slot{st:St}{a:Act}(h:Sim P C0 M0 w0 st a w){i:Nat}{v:Value}(hi:st.t[i]? = some (.p (.v v))):a.tmps.getD i undef=v:=by
 obtain ⟨C,hS,_⟩:=h;have:=hS.at hi
 cases this with
 | p _ _ h=>cases h;rfl
theorem Sim.size{st:St}{a:Act}(h:Sim P C0 M0 w0 st a w):a.tmps.size=st.t.length:=by
 obtain ⟨C,hS,_⟩:=h;exact hS.size
end
section
variable {P:Program} {ops:Array Oper} {md:Region.Mode} {S:World→Prop} {Q:Exit→Act→World→Prop} {L:Nat}

def rO(P:Program)(md:Region.Mode)(ops:Array Oper)(Q:Exit→Act→World→Prop)(S:World→Prop)(L:Nat):Nat→Array Bool→Act→World→Prop
 | 0,listed,a,w=>Region.ready md ops listed=[]∧Q .normal a w
 | fuel+1,listed,a,w=>(Region.ready md ops listed=[]→Q .normal a w) ∧
  ∀ i∈Region.ready md ops listed,wpOp P ops Q i (fun a' w'=>(i≠L→S w')∧rO P md ops Q S L fuel (listed.setIfInBounds i true) a' w') a w

theorem aCq:∀ (fuel:Nat) (listed:Array Bool) (a:Act) (w:World),rO P md ops Q S L fuel listed a w→wpAny P md ops Q fuel listed a w
 | 0,_,_,_,h=>h
 | fuel+1,_,_,_,h=>⟨h.1,fun i hi=>wpOp_mono (fun a' w' h'=>aCq fuel _ a' w' h'.2) (h.2 i hi)⟩

theorem aId{i:Nat}{oi:Oper}{v:Value}(hi:ops[i]? = some oi)(hsel:∀ (j:Nat) (o:Oper) cs b,ops[j]? = some o→o.op ≠ .select cs b)
  (hQ:∀ c a w,Q (.panic c) (a.put oi.dst v) w→Q (.panic c) a w) (hL:∀ oL,ops[L]? = some oL→∃ e∈oL.after,Region.binds md e=true∧e.on=i) :
  ∀ (fuel:Nat) (listed:Array Bool) (a:Act) (w:World),
   (∀ j oj,ops[j]? = some oj→j≠i→listed.getD j true=false→(∀ e∈oj.after,Region.binds md e=true→e.on≠i)→oi.apart ops oj=true) →
   i∈Region.ready md ops listed→YieldsIf P ops S oi v a→S w →
   rO P md ops Q S L fuel (listed.setIfInBounds i true) (a.put oi.dst v) w→rO P md ops Q S L (fuel+1) listed a w:=by
 intro fuel
 induction fuel with
 | zero =>
  intro listed a w _ hr hy hS H;refine ⟨fun h=>(by rw [h] at hr;cases hr),fun j hj => ?_⟩
  by_cases hji:j=i
  ·subst hji;exact hy.wpOp hi hS ⟨fun _=>hS,H⟩
  ·have:=ready_mono hj hji
   rw [H.1] at this
   cases this
 | succ fuel ih =>
  intro listed a w hfree hr hy hS H;refine ⟨fun h=>(by rw [h] at hr;cases hr),fun j hj => ?_⟩
  by_cases hji:j=i
  ·subst hji;exact hy.wpOp hi hS ⟨fun _=>hS,H⟩
  ·have h1:=H.2 j (ready_mono hj hji)
   obtain ⟨hjun,oj,hoj,hall⟩:=mem_ready.1 hj;have hnot:∀ e∈oj.after,Region.binds md e=true→e.on≠i:=fun e he hb heq=>by
    have h1:=hall e he hb;have h0:=(mem_ready.1 hr).1;rw [heq] at h1
    rcases Nat.lt_or_ge i listed.size with h' | h'
    ·simp [h'] at h0 h1;rw [h0] at h1;cases h1
    ·simp [Array.getElem?_eq_none h'] at h1
   have hjL:j≠L:=fun e=>by
    subst e;obtain ⟨e,he,hb,ho⟩:=hL oj hoj;exact hnot e he hb ho
   have h2:=wpOp_putIf hoj (hfree j oj hoj hji hjun hnot) (fun cs b=>hsel i oi cs b hi) (fun cs b=>hsel j oj cs b hoj) hQ hy h1
   have hfree':∀ k ok,ops[k]? = some ok→k≠i→(listed.setIfInBounds j true).getD k true=false →
     (∀ e∈ok.after,Region.binds md e=true→e.on≠i)→oi.apart ops ok=true:=fun k ok hk hki hun hno=>by
    refine hfree k ok hk hki ?_ hno
    by_cases hjk:j=k
    ·subst hjk;exact hjun
    ·rw [getD_set_ne true hjk] at hun;exact hun
   refine wpOp_mono (fun a' w' h3=>⟨h3.2.1,ih (listed.setIfInBounds j true) a' w' hfree' (ready_mono hr (Ne.symm hji)) h3.1 (h3.2.1 hjL) ?_⟩) h2
   rw [Array.setIfInBounds_comm _ _ hji];exact h3.2.2

def aIe(P:Program)(S:World→Prop):List (Oper × Value)→Act→Prop
 | [],_=>True
 | (o,v)::r,a=>(∀ W,S W→(execOp a.eval o).run P W = .ok (.value v) W)∧aIe P S r (a.put o.dst v)
def yQ:List (Oper × Value)→Act→Act
 | [],a=>a
 | (o,v)::r,a=>yQ r (a.put o.dst v)

def aFq(md:Region.Mode)(ops:Array Oper)(L:Nat)(rs:List Nat):List Nat→Array Bool→Bool
 | [],listed=>chain rs listed
 | t::ts,listed=>(match ops[t]? with | some o=>o.guard.isNone | none=>false) && (Region.ready md ops listed).contains t && Region.free md ops listed t &&
   (match ops[L]? with | some oL=>oL.after.any fun e=>Region.binds md e && e.on == t | none=>false) && aFq md ops L rs ts (listed.setIfInBounds t true)
where chain:List Nat→Array Bool→Bool
 | [],listed=>(Region.ready md ops listed).isEmpty
 | r::rs,listed=>(match ops[r]? with | some o=>o.guard.isNone | none=>false) && decide (Region.ready md ops listed=[r]) && chain rs (listed.setIfInBounds r true)

theorem uH{r fuel:Nat}{listed:Array Bool}{o:Oper}{a:Act}{w:World}(hr:Region.ready md ops listed=[r])(ho:ops[r]? = some o)(hg:o.guard=none){v:Value}{w':World}
  (hrun:(execOp a.eval o).run P w = .ok (.value v) w'∨(execOp a.eval o).run P w = .ok .skip w'∧v=undef) (hS:r≠L→S w') (h:rO P md ops Q S L fuel (listed.setIfInBounds r true) (a.put o.dst v) w'):rO P md ops Q S L (fuel+1) listed a w:=by
 refine ⟨fun h0=>(by rw [hr] at h0;cases h0),fun i hi => ?_⟩
 rw [hr] at hi
 obtain rfl:i=r:=by simpa using hi
 unfold wpOp;simp only [ho];have hw:Region.wanted o (yielded ops a.tmps)=true:=by simp [Region.wanted,hg]
 rw [if_pos hw];refine .inl ?_;unfold Oper.wp
 rcases hrun with hrun | ⟨hrun,rfl⟩
 ·rw [hrun];exact ⟨hS,h⟩
 ·rw [hrun];exact ⟨hS,h⟩

theorem aFr(hsel:Region.noSelect ops=true)(hQ:∀ c a w,¬ Q (.panic c) a w)(rs:List Nat){w:World}(hS:S w):∀ (ts:List Nat) (vs:List Value) (listed:Array Bool) (a:Act),vs.length=ts.length→aFq md ops L rs ts listed=true →
  aIe P S ((ts.filterMap fun i=>ops[i]?).zip vs) a→(∀ listed',aFq.chain md ops rs listed'=true→rO P md ops Q S L rs.length listed' (yQ ((ts.filterMap fun i=>ops[i]?).zip vs) a) w)→rO P md ops Q S L (ts.length+rs.length) listed a w
 | [],vs,listed,a,hl,hB,hy,h=>by
  have:vs=[]:=by simpa using hl
  subst this;simp only [List.length_nil,gN];exact h listed hB
 | t::ts,[],listed,a,hl,hB,hy,h=>by simp at hl
 | t::ts,v::vs,listed,a,hl,hB,hy,h=>by
  simp only [aFq,kQ6] at hB
  obtain ⟨⟨⟨⟨hp,hrd⟩,hf⟩,hlast⟩,hB'⟩:=hB;cases ho:ops[t]? with
  | none=>rw [ho] at hp;cases hp
  | some o =>
   rw [ho] at hp
   simp only [Option.isNone_iff_eq_none] at hp
   have e0:(t::ts).filterMap (fun i=>ops[i]?)=o::ts.filterMap (fun i=>ops[i]?):=by simp [ho]
   rw [e0,List.zip_cons_cons] at hy h
   have hw:Region.wanted o (yielded ops a.tmps)=true:=by simp [Region.wanted,hp]
   have e:(t::ts).length+rs.length=(ts.length+rs.length)+1:=by simp;omega
   rw [e];refine aId ho (Region.noSelect_spec hsel) (fun c a w hq=>absurd hq (hQ _ _ _)) (fun oL hoL => ?_) _ _ _ _ (Region.free_spec ho hf) (by simpa using hrd) (.inl ⟨hw,hy.1⟩) hS ?_
   ·rw [hoL] at hlast
    obtain ⟨e,he,hb⟩:=Array.any_eq_true'.1 hlast;simp only [kQ6,beq_iff_eq] at hb
    exact ⟨e,he,hb.1,hb.2⟩
   ·exact aFr hsel hQ rs hS ts vs _ _ (by simpa using hl) hB' hy.2 h

def aIf(l:List Oper)(ts:List Nat)(r1 r2 r3:Nat):Bool :=
 Region.noSelect l.toArray && aFq .any l.toArray r3 [r1,r2,r3] ts (Array.replicate l.toArray.size false) && decide (ts.length+3=l.toArray.size) && decide (r1≠r3∧r2≠r3)

theorem bN{a:Act}{i:Nat}{v:Value}(h:i<a.tmps.size):(a.put (some i) v).eval (.tmp i)=v:=by
 simp [Act.eval,Act.put,h]
theorem bU{a:Act}{i j:Nat}{v:Value}(h:(i == j)=false):(a.put (some i) v).eval (.tmp j)=a.eval (.tmp j):=by
 have:i≠j:=by simpa using h
 simp [Act.eval,Act.put,this]
theorem dR{a:Act}{i:Nat}{v:Value}:(a.put (some i) v).tmps.size=a.tmps.size:=by simp [Act.put]
end
section
open Go.Maps Go.MapKept
open Go.ChangeMaps (setBlock)
variable {P:Program} {C C0:Cx} {M M0:Mem} {w w0:World}

section
variable {o:Oper} {a:Act} {W W':World}
theorem qB{t:TypeId}{x:Operand}{v r:Value}(ho:o.op = .load t x)(hx:a.eval x=v)(hr:(Instr.loadAt t v).run P W = .ok r W):(execOp a.eval o).run P W = .ok (.value r) W:=by
 unfold execOp;rw [ho];simp [hx,hr,Result.andThen]
theorem bCa{t:TypeId}{x k:Operand}{v u r:Value}(ho:o.op = .lookup t x k false)(hx:a.eval x=v)(hk:a.eval k=u)(hr:(Instr.lookup t v u false).run P W = .ok r W):(execOp a.eval o).run P W = .ok (.value r) W:=by
 unfold execOp;rw [ho];simp [hx,hk,hr,Result.andThen]
theorem bCb{t:TypeId}{x:Operand}{v r:Value}(ho:o.op = .buildSlice t 1 #[(0,x)])(hx:a.eval x=v)(hr:(Instr.buildSlice t 1 #[(0,v)]).run P W = .ok r W'):(execOp a.eval o).run P W = .ok (.value r) W':=by
 unfold execOp;rw [ho];simp [hx,hr,Result.andThen]
theorem bCc{t:TypeId}{s x:Operand}{v u r:Value}(ho:o.op = .call { callee := .builtin .append,args := #[s,x],argTypes := #[t,t] })(hs:a.eval s=v)(hx:a.eval x=u)(hr:(Builtin.append_ #[t,t] o.type #[v,u]).run P W = .ok r W') :
  (execOp a.eval o).run P W = .ok (.value r) W':=by
 unfold execOp;simp only [ho,resolve,invoke,builtin,Sem.run_bind,Sem.run_pure,Result.andThen_ok,List.map_toArray,iM,List.map_nil,hs,hx,hr]
theorem bCd{t:TypeId}{m k x:Operand}{v u y:Value}(ho:o.op = .mapUpdate t m k x)(hm:a.eval m=v)(hk:a.eval k=u)(hx:a.eval x=y)(hr:(Instr.mapUpdate t v u y).run P W = .ok () W'):(execOp a.eval o).run P W = .ok .skip W':=by
 unfold execOp;rw [ho];simp [hm,hk,hx,hr,Result.andThen]
end

theorem xE{t:Nat}{i:TI}(hi:cW P t=some i)(ha:i.agg=false){b o:Nat}{v:Value}(h:w.cell? ⟨b,o,none⟩=some v):(Instr.loadAt t (.pointer (some ⟨b,o,none⟩))).run P w = .ok v w:=by
 unfold Instr.loadAt Instr.sureAddr;simpa using lP hi ha h

def iO(mb:Nat)(es:Array MapEntry)(cl:Nat)(L:List Ent):List (Nat × Obj):=(mb,.map es cl)::L.map Ent.blk
theorem dL{mb:Nat}{es:Array MapEntry}{cl:Nat}{L:List Ent}{p:Nat × Obj}:p∈iO mb es cl L↔p=(mb,.map es cl)∨∃ e∈L,e.blk=p:=by simp [iO]
def oV(L:List Ent)(k:Int):Lqq:=match rP L k with
 | some e=>e.l
 | none=>[]
theorem vV{α β:Type}(f:α→β){x y:α}:∀ (L:List α),(L.map f).Nodup→x∈L→y∈L→f x=f y→x=y
 | [],_,h,_,_=>by simp at h
 | a::r,hn,hx,hy,he=>by
  rw [iM,List.nodup_cons] at hn
  rcases kM.1 hx with e1 | h1
  ·rcases kM.1 hy with e2 | h2
   ·rw [e1,e2]
   ·exact absurd (fF.2 ⟨y,h2,by rw [← he,e1]⟩) hn.1
  ·rcases kM.1 hy with e2 | h2
   ·exact absurd (fF.2 ⟨x,h1,by rw [he,e2]⟩) hn.1
   ·exact vV f r hn.2 h1 h2 he
theorem lY.b_inj{mb:Nat}{es:Array MapEntry}{L:List Ent}(h:lY mb es L){e e':Ent}(he:e∈L)(he':e'∈L)(hb:e.b=e'.b):e=e':=vV (·.b) L (List.nodup_cons.1 h.blks).2 he he' hb
theorem lY.b_mb{mb:Nat}{es:Array MapEntry}{L:List Ent}(h:lY mb es L){e:Ent}(he:e∈L):e.b≠mb:=fun hb=>(List.nodup_cons.1 h.blks).1 (fF.2 ⟨e,he,hb⟩)

abbrev zD6:Value := .agg #[.int .i64 0,.int .i64 0,.int .i64 0,.int .i64 0,.int .i64 0,.int .i64 0]
def vsL(x:List Int):List Value:=x.map (Value.int .i64)
theorem bCe(w:World)(x:List Int):∀ j u,(vsL x)[j]? = some u→(w.alloc (.cells (vsL x).toArray 44)).cell? ((⟨w.heap.size,0,none⟩:Addr).add j)=some u:=fun j u h=>by
 have hj:j<(vsL x).length:=(kQ3.1 h).1;have e:(⟨w.heap.size,0,none⟩:Addr).add j=⟨w.heap.size,j,none⟩:=by unfold Addr.add;split <;> simp_all
 rw [e];unfold World.cell? World.alloc;simp [h]
theorem bNm{t kt:TypeId}{S22 ty:TypeId}{st:St}{a:Act}{mb cl:Nat}{es:Array MapEntry}{L:List Ent}{k:Int}{x:List Int}(hx6:x.length=6)(ht:P.underlying t=some (.map kt S22))(hkt:P.underlying kt=some (.int .i64))(h22:P.underlying S22=some (.slice 44))
  (hi3:(P.info? 44).map (fun i=>(i.zero,i.size,i.bytes))=some (some zD6,6,48))
  (hs:Sim P (C0.with (iO mb es cl L++C0.R)) M0 w0 st a w) (hd:∀ p∈iO mb es cl L,∀ q∈C0.R,p.1≠q.1) (hM:lY mb es L) (hk:(Lit.int .i64 k).wf=true) (hl:∀ e∈L,e.l.length≤1000) :
  ∃ v2 w2 es' cl' e,(Builtin.append_ #[S22,S22] ty #[qJ L k,.slice (some ⟨w.heap.size,0,none⟩) 1 1]).run P (w.alloc (.cells (vsL x).toArray 44)) = .ok v2 w2 ∧
   (∀ b,b<w.heap.size→(∀ q∈iO mb es cl L,q.1≠b)→w2.heap[b]? = w.heap[b]?)∧w2.heap[mb]? = w.heap[mb]? ∧
   (w.heap.size≤w2.heap.size∧((∀ x∈es.toList,x.born<cl)→∀ x∈es'.toList,x.born<cl')∧∀ p∈iO mb es' cl' (oW L e),(∃ p0∈iO mb es cl L,p0.1=p.1)∨w.heap.size≤p.1) ∧
   (Instr.mapUpdate t (.map (some mb)) (.int .i64 k) v2).run P w2 = .ok () (setBlock w2 mb (.map es' cl'))∧lY mb es' (oW L e)∧e.k=k∧e.l=oV L k++[x] ∧
   (∀ p∈iO mb es' cl' (oW L e),∀ q∈C0.R,p.1≠q.1)∧Sim P (C0.with (iO mb es' cl' (oW L e)++C0.R)) M0 w0 st a (setBlock w2 mb (.map es' cl')):=by
 obtain ⟨i,hi,hz,hz1,hz2⟩:=info_parts hi3;have hhas:=hs.has;have hmb:w.heap[mb]? = some (.map es cl):=hhas (mb,.map es cl) (by simp [iO])
 have hmlt:=cK hmb;have hblkh:∀ e∈L,w.heap[e.b]? = some (.cells e.arr 44 (0,0)):=fun e he=>hhas e.blk (by simp [iO];exact .inr (.inl ⟨e,he,rfl⟩))
 obtain ⟨n1,n2,n3⟩:=jS w (.cells (vsL x).toArray 44);have hown:(w.alloc (.cells (vsL x).toArray 44)).ownsRow 0 44 6 (qJ L k) (oV L k).length ((oV L k).flatten.map (Value.int .i64))∧((qJ L k).ownBlock=none∨∃ e0∈L,e0.k=k∧(qJ L k).ownBlock=some e0.b)∧(oV L k).length≤1000:=by
  unfold qJ oV;cases h:rP L k with
  | none=>exact ⟨bIj,.inl rfl,by simp⟩
  | some e0 =>
   obtain ⟨q1,q2⟩:=uI h;exact ⟨Ent.owns (hM.ok e0 q1) ((n3 _ (cK (hblkh e0 q1))).trans (hblkh e0 q1)),.inr ⟨e0,q1,q2,rfl⟩,hl e0 q1⟩
 obtain ⟨ho,hbk,hlen⟩:=hown;have hu6:uni 6 (oV L k++[x]):=by
  intro y hy
  rcases nV.1 hy with h | h
  ·unfold oV at h
   cases hq:rP L k with
   | none=>rw [hq] at h;cases h
   | some e0=>rw [hq] at h;exact (hM.ok e0 (uI hq).1).u y h
  ·simp at h;rw [h];exact hx6
 obtain ⟨v2,w2,hrun,ho2,hg2,hnil,hat⟩:=run_append_own_at (P:=P) (w:=w.alloc (.cells (vsL x).toArray 44)) 0 S22 ty 44 i zD6 6 48 h22 hi hz hz1 hz2 rfl (by decide) (qJ L k) (oV L k).length _ ho
  ⟨w.heap.size,0,none⟩ 1 1 (vsL x) (by simp [vsL,hx6]) (bCe w x) (fun u hu=>by obtain ⟨z,_,rfl⟩:=fF.1 hu;rfl) (by unfold maxLen;omega) (by omega) (Nat.zero_le _)
 have ho2':w2.ownsRow 0 44 6 v2 (oV L k++[x]).length ((oV L k++[x]).flatten.map (Value.int .i64)):=by
  rw [oS,aOk,iY,List.flatten_singleton];exact ho2
 obtain ⟨e,rfl,hel,rfl,heo,heh⟩:=bIk hk (by simp) hu6 ho2'
 have hvb:e.val.ownBlock=some e.b:=rfl;have hwhere:(∃ e0∈L,e0.k=e.k∧e0.b=e.b)∨e.b=w.heap.size+1:=by
  rcases hat with h | h
  ·rcases hbk with h0 | ⟨e0,q1,q2,q3⟩
   ·rw [h0,hvb] at h;cases h
   ·rw [q3,hvb] at h;exact .inl ⟨e0,q1,q2,(Option.some.inj h).symm⟩
  ·rw [hvb] at h
   right
   have:=Option.some.inj h;rw [this];simp
 have hrow:∀ b,b<w.heap.size→(∀ e0∈L,e0.k=e.k→e0.b≠b)→w2.heap[b]? = w.heap[b]? := fun b hb hno=>by
  refine (hg2.block b (by omega) (fun he => ?_)).trans (n3 b hb)
  rcases hbk with h0 | ⟨e0,q1,q2,q3⟩
  ·rw [h0] at he;cases he
  ·rw [q3] at he;exact hno e0 q1 q2 (Option.some.inj he).symm
 have hblk:e.b≠mb∧∀ y∈L,y.k≠e.k→y.b≠e.b:=by
  rcases hwhere with ⟨e0,q1,q2,q3⟩ | h
  ·refine ⟨q3 ▸ hM.b_mb q1,fun y hy hyk hb=>hyk ?_⟩
   have:=hM.b_inj hy q1 (hb.trans q3.symm);rw [this];exact q2
  ·refine ⟨by omega,fun y hy _ hb => ?_⟩
   have:=cK (hblkh y hy);omega
 have hmb2:w2.heap[mb]? = w.heap[mb]? := hrow mb hmlt fun e0 he0 _=>hM.b_mb he0
 obtain ⟨es',cl',hup,hM',hbn⟩:=bNn (P:=P) (w:=w2) ht hkt (hmb2.trans hmb) hM e heo hblk;refine ⟨e.val,w2,es',cl',e,hrun,fun b hb hno=>hrow b hb fun e0 he0 _=>hno e0.blk (by simp [iO];exact .inr ⟨e0,he0,rfl⟩),hmb2,⟨by have:=hg2.size;omega,hbn,fun p hp => ?_⟩,hup,hM',rfl,hel,?_,?_⟩
 ·rcases dL.1 hp with rfl | ⟨y,hy,rfl⟩
  ·exact .inl ⟨_,dL.2 (.inl rfl),rfl⟩
  ·rcases iG.1 hy with ⟨q1,_⟩ | rfl
   ·exact .inl ⟨_,dL.2 (.inr ⟨y,q1,rfl⟩),rfl⟩
   ·rcases hwhere with ⟨e0,r1,_,r3⟩ | h
    ·exact .inl ⟨_,dL.2 (.inr ⟨e0,r1,rfl⟩),r3⟩
    ·exact .inr (by show w.heap.size≤y.b;omega)
 ·intro p hp q hq
  rcases dL.1 hp with rfl | ⟨y,hy,rfl⟩
  ·exact hd (mb,.map es cl) (by simp [iO]) q hq
  ·rcases iG.1 hy with ⟨q1,q2⟩ | rfl
   ·exact hd y.blk (dL.2 (.inr ⟨y,q1,rfl⟩)) q hq
   ·rcases hwhere with ⟨e0,q1,q2,q3⟩ | h
    ·exact fun hpq=>hd e0.blk (dL.2 (.inr ⟨e0,q1,rfl⟩)) q hq (by rw [← hpq];exact q3)
    ·have:=cK (hhas q (aBl _ hq))
     intro hpq;change y.b=q.1 at hpq
     omega
 ·have hne:∀ p∈C0.R,p.1≠mb∧∀ e0∈L,p.1≠e0.b:=fun p hp=>⟨fun h=>hd (mb,.map es cl) (by simp [iO]) p hp h.symm,fun e0 he0 h=>hd e0.blk (dL.2 (.inr ⟨e0,he0,rfl⟩)) p hp h.symm⟩
  have hset:∀ b,b≠mb→(setBlock w2 mb (.map es' cl')).heap[b]? = w2.heap[b]? := fun b hb=>by
   unfold setBlock;simp only [Array.getElem?_setIfInBounds];rw [if_neg (Ne.symm hb)]
  have hsetm:(setBlock w2 mb (.map es' cl')).heap[mb]? = some (.map es' cl'):=by
   unfold setBlock;have:mb<w2.heap.size:=cK (hmb2.trans hmb);simp [this]
  refine hs.beside (fun b=>b=mb∨∃ e0∈L,e0.k=e.k∧e0.b=b) (fun b hb => ?_) hg2.os hg2.tape hg2.output (by have:=hg2.size;unfold setBlock;simp only [Array.size_setIfInBounds];omega) (fun b hb hX => ?_) (fun p hp => ?_)
  ·rcases hb with rfl | ⟨e0,q1,q2,rfl⟩
   ·exact ⟨_,pQ _ (dL.2 (.inl rfl))⟩
   ·exact ⟨_,pQ _ (dL.2 (.inr ⟨e0,q1,rfl⟩))⟩
  ·rw [hset b (fun h=>hX (.inl h))]
   exact hrow b hb fun e0 q1 q2 q3=>hX (.inr ⟨e0,q1,q2,q3⟩)
  ·rcases nV.1 hp with hp | hp
   ·rcases dL.1 hp with rfl | ⟨y,hy,rfl⟩
    ·exact .inr ⟨hsetm,(fun h=>by cases h),.inr ⟨_,pQ _ (dL.2 (.inl rfl))⟩⟩
    ·rcases iG.1 hy with ⟨q1,q2⟩ | rfl
     ·refine .inl ⟨pQ _ (dL.2 (.inr ⟨y,q1,rfl⟩)),fun hX => ?_⟩
      rcases hX with hX | ⟨e0,r1,r2,r3⟩
      ·exact hM.b_mb q1 hX
      ·have:=hM.b_inj q1 r1 r3.symm
       exact q2 (this ▸ r2)
     ·refine .inr ⟨(hset _ hblk.1).trans heh,(fun h=>by cases h),?_⟩
      rcases hwhere with ⟨e0,r1,r2,r3⟩ | h
      ·exact .inr ⟨.cells e0.arr 44 (0,0),pQ _ (dL.2 (.inr ⟨e0,r1,by unfold Ent.blk;rw [r3]⟩))⟩
      ·exact .inl (by show w.heap.size≤y.b;omega)
   ·refine .inl ⟨aBl _ hp,fun hX => ?_⟩
    rcases hX with hX | ⟨e0,r1,r2,r3⟩
    ·exact (hne p hp).1 hX
    ·exact (hne p hp).2 e0 r1 r3.symm
end
section
open Go.ChangeMaps (setBlock)
variable {P:Program} {C:Cx} {M:Mem} {w:World}

def aDr(P:Program)(C:Cx)(M:Mem)(w:World)(C':Cx)(M':Mem)(W:World):Prop:=(∀ b,C'.F b↔C.F b)∧aU P C' M' W∧Fr C M w C' M' W
def aIc(M M':Mem):Prop:=(∀ (i:Nat) (es:List (Value × PV)) (cl:Nat),M'[i]? = some (some (.mp es cl))→∃ o,M[i]? = some (some o)∧o.live=true)∧aNg M'

theorem aDr.same{M':Mem}{W W':World}{C':Cx}(hn:aIc M M')(hM0:aU P C M w)(h:aDr P C M w C' M' W)(hsz:W.heap.size≤W'.heap.size)(ho:W'.os=W.os)(ht:W'.tape=W.tape)(hu:W'.output=W.output)
  (hs:∀ b,b<W.heap.size→(b<w.heap.size∧(∀ (id:Nat) (o:AO),M[id]? = some (some o)→o.live=true→C.ι id=some b→∃ o',M'[id]? = some (some o')∧o'.live=true))∨(lW W b∧∃ (id:Nat) (o:AO),M'[id]? = some (some o)∧o.live=true∧C'.ι id=some b)→W'.heap[b]? = W.heap[b]?):aDr P C M w C' M' W':=by
 obtain ⟨hF,hM,f⟩:=h;have old:∀ (i:Nat) (o:AO),M[i]? = some (some o)→C'.ι i=C.ι i:=fun i o h=>(f.ids i o h).2.1
 have hFz:∀ b,C'.F b→W'.heap[b]? = W.heap[b]? := fun b hb=>hs b (hM.Fs b hb) (.inl ⟨hM0.Fs b ((hF b).1 hb),fun id o ho hl he=>absurd ((hF b).1 hb) (hM0.nF id o b ho hl he)⟩)
 have hL:Le C' C' M' M' W W':=⟨fun _ o h=>⟨o,h⟩,fun _ _ _ _ _ cs h=>⟨cs,h⟩,fun _ o h o' h' hl=>by rw [h] at h';cases h';exact ⟨hl,rfl,rfl⟩,fun _ h=>h,hFz⟩
 refine ⟨hF,⟨fun i ty n cs hm => ?_,fun i ty cs hm => ?_,fun i es cl hm => ?_,hM.inj,hM.nF,fun b hb=>kQ8 (hM.Fs b hb) hsz,fun i o b ho hl hb=>kQ8 (hM.lt i o b ho hl hb) hsz⟩,
  ⟨ho.trans f.os,ht.trans f.tape,hu.trans f.out,gO f.size hsz,fun b hb hno=>(hs b (kQ8 hb f.size) (.inl ⟨hb,fun id o ho hl he=>absurd he (hno id o ho hl)⟩)).trans (f.keep b hb hno),f.ids,f.row,f.liv,f.new,f.F1,f.F2⟩⟩
 ·rcases hM.row _ _ _ _ hm with h4 | ⟨b,arr,inf,q0,q1,q2,q3,q4,q5,q6,q7,q8⟩
  ·exact .inl h4
  ·exact .inr ⟨b,arr,inf,q0,(hs b (cK q1) (.inr ⟨fN q1,i,_,hm,rfl,q0⟩)).trans q1,q2,q3,q4,q5,q6,fun j hj=>(q7 j hj).mono hL.F hL.fz,q8⟩
 ·obtain ⟨b,arr,q0,q1,q2,q3,q4⟩:=hM.box _ _ _ hm
  exact ⟨b,arr,q0,(hs b (cK q1) (.inr ⟨fN q1,i,_,hm,rfl,q0⟩)).trans q1,q2,fun j hj=>(q3 j hj).mono hL,q4⟩
 ·obtain ⟨b,arr,q0,q1,q2,q3⟩:=hM.mp _ _ _ hm
  obtain ⟨o,ho',hl⟩:=hn.1 _ _ _ hm;have hb:C.ι i=some b:=by rw [← old i o ho'];exact q0
  refine ⟨b,arr,q0,(hs b (cK q1) (.inl ⟨hM0.lt i o b ho' hl hb,fun id o2 ho2 hl2 he => ?_⟩)).trans q1,q2,fun j hj => ?_⟩
  ·obtain rfl:=hM0.inj id i o2 o b ho2 hl2 ho' hl he hb
   exact ⟨_,hm,rfl⟩
  ·obtain ⟨en,r1,r2,r3,r4⟩:=q3 j hj
   exact ⟨en,r1,r2,r3,r4.mono hL.F hL.fz⟩

theorem aDr.own{M':Mem}{W W':World}{C':Cx}{row:Option Nat}(hn:aIc M M')(hM0:aU P C M w)(h:aDr P C M w C' M' W)(hg:W.grownBy W' row)
  (hr:∀ r,row=some r→w.heap.size≤r∧∃ o:Obj,W.heap[r]? = some o∧o.isCells=false):aDr P C M w C' M' W' :=
 h.same hn hM0 hg.size hg.os hg.tape hg.output fun b hb hd=>hg.block b hb fun e=>by
  obtain ⟨q1,o,q2,q3⟩:=hr b e.symm
  rcases hd with ⟨hd,_⟩ | ⟨hd,_⟩
  ·omega
  ·exact jV q2 q3 hd
end
end KV
end Go.Proofs
section
namespace Go.Proofs
open Go.RowKit Go.Lib
namespace KV
attribute [local go_sem] Oper.semAt_some

def bk(n i:Nat):List Nat:=((List.range n).drop i).reverse
theorem bNk{n i:Nat}(h:i<n):bk n i=bk n (i+1)++[i]:=by
 unfold bk;rw [aKr (by simpa using h),List.reverse_cons]
 simp
theorem bWp(n:Nat):bk n n=[]:=by unfold bk;rw [List.drop_eq_nil_of_le (by simp)];rfl
theorem bNl(n:Nat):bk n 0=(List.range n).reverse:=rfl
theorem aQy{n i:Nat}:(bk n i).length=n-i:=by simp [bk]
theorem bBz{n i:Nat}(h:i≤n):bk n i <+: bk n 0:=by
 unfold bk;rw [List.drop_zero];refine ⟨((List.range n).take i).reverse,?_⟩;rw [← List.reverse_append,aOj]
theorem bZv{n i:Nat}(h:i<n):(bk n (i+1)).length<(bk n 0).length:=by rw [aQy,aQy];omega
end KV
end Go.Proofs
end
section
namespace Go.Proofs
open Go.RowKit Go.Lib Go.Shelf
namespace KV
attribute [local go_sem] Oper.semAt_some
def Hid(p:Prop):Prop:=p
theorem hid{p:Prop}(h:p):Hid p:=h
theorem Hid.out{p:Prop}(h:Hid p):p:=h
def vals6(x:List Int):Array Value:=(x.map (Value.int .i64)).toArray
set_option maxRecDepth 1000000 in
set_option maxHeartbeats 2000000 in
theorem aQw(dc:Lqq)(hl:dc.length≤1000)(F0:Nat→Prop)(n l b1 o1 b2 o2 cap:Nat)(hn:1≤n)(J Jx:List Nat→World→Prop)
  (hY:∀ pre (k:Nat) (a b c d e f:Int) W,dc[k]? = some [a,b,c,d,e,f]→J pre W→pre.length<(bk dc.length 0).length→YieldAt Fence.wide (n-1) Tp l #[.int .i64 k,.agg #[.int .i64 a,.int .i64 b,.int .i64 c,.int .i64 d,.int .i64 e,.int .i64 f]] W fun e W' =>
   (e = .returned (.bool true)∧J (pre++[k]) W'∧KpG F0 W W')∨(e = .returned (.bool false)∧Jx (pre++[k]) W'))
  (W:World) (hJ:AbidesFrom W.heap.size J) (hF:∀ b,F0 b→b<W.heap.size)
  (hc:∀ W',KpG F0 W W'→∀ k:Nat,k<dc.length→∃ a b c d e f,dc[k]? = some [a,b,c,d,e,f]∧W'.cell? ⟨b2,o2+k*6,none⟩=some (.int .i64 a)∧W'.cell? ⟨b2,o2+k*6+1,none⟩=some (.int .i64 b)∧W'.cell? ⟨b2,o2+k*6+2,none⟩=some (.int .i64 c)∧W'.cell? ⟨b2,o2+k*6+3,none⟩=some (.int .i64 d)∧W'.cell? ⟨b2,o2+k*6+4,none⟩=some (.int .i64 e)∧W'.cell? ⟨b2,o2+k*6+5,none⟩=some (.int .i64 f))
  (hk:∀ W',KpG F0 W W'→W'.cell? ⟨b1,o1,none⟩=some (.slice (some ⟨b2,o2,none⟩) dc.length cap)) (h0:J [] W) :
  CallsIn Fence.wide n Tp 187 #[.func (.yield l) #[] #[],.pointer (some ⟨b1,o1,none⟩)] W fun e W'=>(∃ v,e = .returned v) ∧
   ((∃ ys,ys=bk dc.length 0∧J ys W')∨(∃ pre,pre <+: bk dc.length 0∧Jx pre W')):=by
 have HJ:=hid hJ;have HY:=hid hY;have HC:=hid hc;have HKC:=hid hk;have HF0:=hid hF;have HJ0:=hid h0;have k0:=hk W (KpG.refl _ _);clear hJ hY hc h0 hk hF;refine callsIn_of_wp Tryz.func187 rfl trivial ?_ rfl;simp only [Tryz.ntmps187,List.size_toArray,vK,List.length_nil,Nat.reduceAdd,Nat.reduceSub,Array.replicate_succ,Array.replicate_zero,List.push_toArray,List.append_toArray,List.nil_append,List.cons_append]
 gi_wp2
 clear k0
 gi_loopw [3] (fun i wr=>∃ k:Nat,k≤dc.length∧i = .int .i64 ((k:Int)-1)∧J (bk dc.length k) wr∧KpG F0 W wr)
  (fun i _=>(intOf i+1).toNat)
 case atStart=>exact ⟨dc.length,eG _,by go_num,by rw [bWp];exact HJ0.out,KpG.refl _ _⟩
 case round =>
  obtain ⟨k,hk,rfl,hJk,hK⟩:=hrel;have HJK:=hid hJk;have HK:=hid hK;have k0:=HKC.out wr hK;have HFR:=hid (fun b (hb:F0 b)=>kQ8 (HF0.out b hb) HK.out.size)
  clear hJk hK
  rcases Nat.eq_zero_or_pos k with rfl | hpos
  ·gi_wp2
   go_end0
   exact ⟨⟨_,rfl⟩,.inl ⟨_,rfl,HJK.out⟩⟩
  ·obtain ⟨k,rfl⟩:∃ j,k=j+1:=⟨k-1,by omega⟩
   have e1:((k+1:Nat):Int)-1=(k:Int):=by omega
   have hlt:(k:Int)<(dc.length:Int):=by omega
   have hlt2:(dc.length:Int)≤1000:=by omega
   rw [e1];obtain ⟨a,b,c,d,e,f,hx0,c0,c1,c2,c3,c4,c5⟩:=HC.out wr HK.out k (by omega)
   have HL:=hid (bZv (n:=dc.length) (i:=k) (by omega))
   have HB:=hid (bNk (n:=dc.length) (i:=k) (by omega))
   have HP:=hid (bBz (n:=dc.length) (i:=k) (by omega))
   have hge:(k:Int) ≥ 0:=by omega
   obtain ⟨fn,tmps,assign,body,hy,hR⟩:=HY.out _ k a b c d e f wr hx0 HJK.out HL.out;clear hx0
   gi_wp2_with (refine hR.mono ?_;clear hR;rintro e w3 (⟨rfl,hJ3,hK3⟩ | ⟨rfl,hx⟩))
   ·go_roundw
    case rel=>exact ⟨k,by omega,by go_num,by rw [HB.out];exact hJ3,HK.out.trans hK3⟩
    case measure=>simp [intOf]
   ·refine bodyPost_ret (results_none rfl _ _ _) rfl ?_
    exact ⟨⟨_,rfl⟩,.inr ⟨bk dc.length (k+1)++[k],HB.out ▸ HP.out,hx⟩⟩
set_option maxRecDepth 1000000 in
set_option maxHeartbeats 2000000 in
theorem aQx(n l b1 o1 cap:Nat)(p:Option Addr)(hn:1≤n)(J:World→Prop)(W:World)(hk:W.cell? ⟨b1,o1,none⟩=some (.slice p 0 cap))(h0:J W) :
  CallsIn Fence.wide n Tp 187 #[.func (.yield l) #[] #[],.pointer (some ⟨b1,o1,none⟩)] W fun e W'=>(∃ v,e = .returned v)∧J W':=by
 have HJ0:=hid h0;have k0:=hk;clear h0 hk;refine callsIn_of_wp Tryz.func187 rfl trivial ?_ rfl;simp only [Tryz.ntmps187,List.size_toArray,vK,List.length_nil,Nat.reduceAdd,Nat.reduceSub,Array.replicate_succ,Array.replicate_zero,List.push_toArray,List.append_toArray,List.nil_append,List.cons_append]
 gi_wp2
 clear k0
 gi_loopw [3] (fun i wr=>i = .int .i64 (-1)∧J wr) (fun i _=>(intOf i+1).toNat)
 case atStart=>exact ⟨by go_num,HJ0.out⟩
 case round =>
  obtain ⟨rfl,hJk⟩:=hrel;have HJK:=hid hJk;clear hJk
  gi_wp2
  go_end0
  exact ⟨⟨_,rfl⟩,HJK.out⟩
end KV
end Go.Proofs
end
namespace Go.Proofs
namespace KV
section
variable {P:Program} {ops:Array Oper} {md:Region.Mode} {Q:Exit→Act→World→Prop} {F:Fence} {n:Nat}

def VS(P:Program)(m:Sem Next):Prop:=∀ w,(∃ v w',m.run P w = .ok (.value v) w')∨(∃ w',m.run P w = .ok .skip w')∨∃ x w',m.run P w = .halt x w'
theorem VS.val(m:Sem Value):VS P (do pure (.value (← m))):=fun w=>by
 cases h:m.run P w with
 | ok v w'=>exact .inl ⟨v,w',by simp [h,Result.andThen]⟩
 | halt x w'=>exact .inr (.inr ⟨x,w',by simp [h,Result.andThen]⟩)
theorem VS.unit(m:Sem Unit):VS P (do m;pure .skip):=fun w=>by
 cases h:m.run P w with
 | ok v w'=>exact .inr (.inl ⟨w',by simp [h,Result.andThen]⟩)
 | halt x w'=>exact .inr (.inr ⟨x,w',by simp [h,Result.andThen]⟩)
theorem VS.bind{α:Type}(m:Sem α)(f:α→Sem Next)(h:∀ x,VS P (f x)):VS P (m >>= f):=fun w=>by
 cases e:m.run P w with
 | ok v w' =>
  rcases h v w' with ⟨u,w2,q⟩ | ⟨w2,q⟩ | ⟨x,w2,q⟩
  ·exact .inl ⟨u,w2,by simp [e,Result.andThen,q]⟩
  ·exact .inr (.inl ⟨w2,by simp [e,Result.andThen,q]⟩)
  ·exact .inr (.inr ⟨x,w2,by simp [e,Result.andThen,q]⟩)
 | halt x w'=>exact .inr (.inr ⟨x,w',by simp [e,Result.andThen]⟩)
theorem VS.pure(v:Value):VS P (Pure.pure (.value v):Sem Next):=fun w => .inl ⟨v,w,rfl⟩
def yP(o:Oper):Bool:=match o.op with
 | .move _=>true
 | .assign _=>true
 | .indexAddr _ _ _=>true
 | .fieldAddr _ _ _=>true
 | .field _ _ _=>true
 | .load _ _=>true
 | .store _ _ _=>true
 | .lookup _ _ _ _=>true
 | .buildSlice _ _ _=>true
 | .mapUpdate _ _ _ _=>true
 | .nilCheck _=>true
 | .call c=>match c.callee with
  | .builtin .append=>true
  | _=>false
 | _=>false
theorem bNj{o:Oper}(h:yP o=true)(ρ:Operand→Value):VS P (execOp ρ o):=by
 unfold yP at h
 unfold execOp;cases ho:o.op <;> rw [ho] at h <;> first | exact absurd h Bool.false_ne_true | exact VS.val _ | exact VS.unit _ | skip
 case move x=>exact fun w => .inl ⟨_,w,rfl⟩
 case assign x=>exact fun w => .inl ⟨_,w,rfl⟩
 case nilCheck x =>
  dsimp only
  split
  ·exact fun w => .inr (.inr ⟨_,_,rfl⟩)
  ·exact fun w => .inr (.inr ⟨_,_,rfl⟩)
  ·exact fun w => .inr (.inr ⟨_,_,rfl⟩)
  ·split
   ·exact fun w => .inr (.inr ⟨_,_,rfl⟩)
   ·refine VS.bind _ _ fun p=>VS.bind _ _ fun q => ?_
    split
    ·exact VS.bind _ _ fun _=>VS.pure _
    ·exact VS.pure _
   ·exact VS.pure _
  ·exact VS.pure _
 case call c =>
  dsimp only at h
  show VS P (resolve ρ c o.type >>= fun d=>invoke d.target d.args)
  split at h
  ·rename_i hc
   unfold resolve;rw [hc];exact VS.val _
  ·cases h
theorem aQv{o:Oper}(h:yP o=true):∀ c,o.op ≠ .defer c:=fun c hc=>by unfold yP at h;rw [hc] at h;cases h

theorem aLz(hall:∀ f,F.fn f){i:Nat}{K:Act→World→Prop}{a:Act}{w:World}(hL:¬ LetsOut Q)(hc:∀ o,ops[i]? = some o→yP o=true)(h:wpOp P ops Q i K a w):wpOpIn F n P ops Q i K a w:=by
 unfold wpOp at h
 unfold wpOpIn;cases ho:ops[i]? with
 | none=>rw [ho] at h;exact h
 | some o =>
  rw [ho] at h
  dsimp only at h ⊢
  split
  ·rename_i hw
   rw [if_pos hw] at h
   rcases h with h | h
   ·unfold Oper.wp at h
    unfold Oper.wpIn;refine ⟨fun f _=>hall f,?_⟩
    rw [Oper.semAt_plain _ _ _ (aQv (hc o ho))]
    rcases bNj (P:=P) (hc o ho) a.eval w with ⟨v,w',e⟩ | ⟨w',e⟩ | ⟨x,w',e⟩
    ·rw [e] at h ⊢;exact h
    ·rw [e] at h ⊢;exact h
    ·rw [e] at h ⊢
     cases x <;> first | exact h | exact h.elim
   ·exact absurd h.2 hL
  ·rename_i hw
   rw [if_neg hw] at h
   exact ⟨fun f _=>hall f,h⟩
theorem vT(hall:∀ f,F.fn f)(hL:¬ LetsOut Q)(hc:∀ (i:Nat) (o:Oper),ops[i]? = some o→yP o=true):∀ (fuel:Nat) (listed:Array Bool) (a:Act) (w:World),wpAny P md ops Q fuel listed a w→wpAnyIn F n P md ops Q fuel listed a w
 | 0,_,_,_,h=>h
 | fuel+1,listed,a,w,h=>⟨h.1,fun i hi=>wpOpIn_mono (fun a' w' h'=>vT hall hL hc fuel _ a' w' h') (aLz hall hL (hc i) (h.2 i hi))⟩

theorem bBy{S:World→Prop}{id:Nat}{l:List Oper}{a:Act}{w:World}{o1 o2 o3:Oper}(hall:∀ f,F.fn f)(hL:¬ LetsOut Q)(hcalm:l.all yP=true)(ts:List Nat)(r1 r2 r3:Nat)(hm:P.follows .mixedOrders=true)(hB:aIf l ts r1 r2 r3=true)(h1:l[r1]? = some o1)(h2:l[r2]? = some o2)(h3:l[r3]? = some o3)
  (hQ:∀ c a w,¬ Q (.panic c) a w) (hS:S { w with drawn:=w.drawn+1 }) (vs:List Value) (hl:vs.length=ts.length) (hy:aIe P S ((ts.filterMap fun i=>l[i]?).zip vs) a)
  (h:∀ a',a'=yQ ((ts.filterMap fun i=>l[i]?).zip vs) a→∃ v1 w1 v2 w2 w3,(execOp a'.eval o1).run P { w with drawn:=w.drawn+1 } = .ok (.value v1) w1∧S w1∧(execOp (a'.put o1.dst v1).eval o2).run P w1 = .ok (.value v2) w2∧S w2 ∧
   (execOp ((a'.put o1.dst v1).put o2.dst v2).eval o3).run P w2 = .ok .skip w3∧Q .normal (((a'.put o1.dst v1).put o2.dst v2).put o3.dst undef) w3):(Code.region id l.toArray true).wpIn F n P Q a w:=by
 unfold aIf at hB
 simp only [kQ6,decide_eq_true_eq] at hB
 obtain ⟨⟨⟨hsel,ht⟩,hsz⟩,hne⟩:=hB;refine wpIn_region_any hm (vT hall hL (fun i o ho=>jY.1 hcalm o (kQ4 (by simpa using ho))) _ _ _ _ (aCq (S:=S) (L:=r3) _ _ _ _ ?_))
 rw [← hsz];refine aFr (rs:=[r1,r2,r3]) hsel hQ hS ts vs _ a hl (by rw [hsz];exact ht) (by simpa using hy) (fun listed' hc => ?_)
 obtain ⟨v1,w1,v2,w2,w3,e1,s1,e2,s2,e3,hq⟩:=h _ rfl;simp only [aFq.chain,kQ6,decide_eq_true_eq] at hc
 obtain ⟨⟨g1,c1⟩,⟨g2,c2⟩,⟨g3,c3⟩,c4⟩:=hc;have k1:l.toArray[r1]? = some o1:=by simpa using h1
 have k2:l.toArray[r2]? = some o2:=by simpa using h2
 have k3:l.toArray[r3]? = some o3:=by simpa using h3
 rw [k1] at g1;rw [k2] at g2;rw [k3] at g3
 simp only [Option.isNone_iff_eq_none] at g1 g2 g3
 have e1':((ts.filterMap fun i=>l.toArray[i]?))=(ts.filterMap fun i=>l[i]?):=by simp
 rw [e1'];refine uH c1 k1 g1 (.inl e1) (fun _=>s1) ?_
 refine uH c2 k2 g2 (.inl e2) (fun _=>s2) ?_
 refine uH c3 k3 g3 (.inr ⟨e3,rfl⟩) (fun h=>absurd rfl h) ?_
 exact ⟨by simpa using c4,hq⟩
end
section
open Go.ChangeMaps (setBlock)
variable {P:Program} {C:Cx} {M:Mem} {w:World}

theorem bNi{M':Mem}(hM:aU P C M w)(h1:∀ (i:Nat) (o:AO),M'[i]? = some (some o)→M[i]? = some (some o))
  (h2:∀ (i ty:Nat) (cs:List AV),M'[i]? = some (some (.box ty cs))→∀ x∈cs,∀ u,Rep C M w x u→Rep C M' w x u):aU P C M' w:=by
 refine ⟨fun i ty n cs hm=>hM.row _ _ _ _ (h1 _ _ hm),fun i ty cs hm => ?_,fun i es cl hm=>hM.mp _ _ _ (h1 _ _ hm),fun i i' o o' b q1 q2 q3 q4=>hM.inj i i' o o' b (h1 _ _ q1) q2 (h1 _ _ q3) q4,fun i o b q1=>hM.nF i o b (h1 _ _ q1),hM.Fs,fun i o b q1=>hM.lt i o b (h1 _ _ q1)⟩
 obtain ⟨b,arr,q0,q1,q2,q3,q4⟩:=hM.box _ _ _ (h1 _ _ hm);exact ⟨b,arr,q0,q1,q2,fun j hj=>h2 _ _ _ hm _ (fV hj) _ (q3 j hj),q4⟩
theorem aLx{M':Mem}{i off:Nat}{u:Value}(hi:M'[i]? = M[i]?)(h:Rep C M w (.ptr i off) u):Rep C M' w (.ptr i off) u:=by
 cases h with
 | ptr _ _ _ h0 ha h hp=>exact .ptr i off u h0 (by rw [hi];exact ha) (by rw [hi];exact h) hp
theorem aQu{M':Mem}{i:Nat}{u:Value}(hi:M'[i]? = M[i]?)(h:Rep C M w (.mp i) u):Rep C M' w (.mp i) u:=by
 cases h with
 | mp _ _ h0 ha h=>exact .mp i u h0 (by rw [hi];exact ha) (by rw [hi];exact h)
theorem sO{M':Mem}{x:PV}{u:Value}(h:Rep C M w (.p x) u):Rep C M' w (.p x) u:=by
 cases h with
 | p _ _ h=>exact .p _ _ h

theorem aLy{b ty k:Nat}{cs:List PV}{arr:Array Value}(hM:aU P C M w)(hf:yX M k)(hh:w.heap[b]? = some (.cells arr ty (0,0)))(hnF:¬ C.F b)(hnl:∀ (id:Nat) (o:AO),M[id]? = some (some o)→o.live=true→C.ι id≠some b)
  (hs:arr.size=cs.length) (hrep:∀ j (h:j<cs.length),cX C.F w cs[j] (arr.getD j undef)) (h1:∀ j,j<cs.length→(arr.getD j undef).oneCell'=true) :
  aU P (C.grow k b 1) (bC M k (some (.box ty (cs.map .p)))) w∧Le C (C.grow k b 1) M (bC M k (some (.box ty (cs.map .p)))) w w:=by
 have hne:∀ (j:Nat) (o':AO),M[j]? = some (some o')→j≠k:=fun j o' h e=>hf o' (e ▸ h)
 have hold:∀ (j:Nat) (o':AO),j≠k→(bC M k (some (.box ty (cs.map .p))))[j]? = some (some o')→M[j]? = some (some o'):=fun j o' h=>(aS M k j _ o' (fun e=>h e.symm)).1
 have hfw:∀ (j:Nat) (o':AO),M[j]? = some (some o')→(bC M k (some (.box ty (cs.map .p))))[j]? = some (some o'):=fun j o' h=>(aS M k j _ o' (fun e=>hne j o' h e.symm)).2 h
 have hι:∀ j,j≠k→(C.grow k b 1).ι j=C.ι j:=fun j h=>by simp [Cx.grow,h]
 have hκ:∀ j,j≠k→(C.grow k b 1).κ j=C.κ j:=fun j h=>by simp [Cx.grow,h]
 have hιs:(C.grow k b 1).ι k=some b:=by simp [Cx.grow]
 have hle:Le C (C.grow k b 1) M (bC M k (some (.box ty (cs.map .p)))) w w:=by
  refine ⟨fun j o h=>⟨o,hfw j o h⟩,fun j o h ty' n' cs' hm=>⟨cs',hold j _ (hne j o h) hm⟩,fun j o h o' hm hl => ?_,fun _ h=>h,fun _ _=>rfl⟩
  have:=hold j _ (hne j o h) hm;rw [h] at this;cases this
  exact ⟨hl,hι j (hne j o h),hκ j (hne j o h)⟩
 have hnew:∀ (o':AO),(bC M k (some (.box ty (cs.map .p))))[k]? = some (some o')→o' = .box ty (cs.map .p):=fun o' h=>by rw [aZ] at h;cases h;rfl
 refine ⟨⟨fun j ty' n' cs' hm => ?_,fun j ty' cs' hm => ?_,fun j es cl hm => ?_,fun j j' o1 o2 b' hm hl hm' hl' hb1 hb2 => ?_,fun j o' b' hm hl hb' => ?_,hM.Fs,fun j o' b' hm hl hb' => ?_⟩,hle⟩
 ·by_cases e:j=k
  ·subst e;cases hnew _ hm
  ·rw [hι j e,hκ j e]
   rcases hM.row _ _ _ _ (hold j _ e hm) with h4 | ⟨b,arr,inf,q0,q1,q2,q3,q4,q5,q6,q7,q8⟩
   ·exact .inl h4
   ·exact .inr ⟨b,arr,inf,q0,q1,q2,q3,q4,q5,q6,fun j hj=>(q7 j hj).mono hle.F hle.fz,q8⟩
 ·by_cases e:j=k
  ·subst e
   cases hnew _ hm;refine ⟨b,arr,hιs,hh,by simpa using hs,fun i hi => ?_,fun i hi=>h1 i (by simpa using hi)⟩
   rw [nU];exact .p _ _ (hrep i (by simpa using hi))
  ·rw [hι j e]
   obtain ⟨b,arr,q0,q1,q2,q3,q4⟩:=hM.box _ _ _ (hold j _ e hm);exact ⟨b,arr,q0,q1,q2,fun j hj=>(q3 j hj).mono hle,q4⟩
 ·by_cases e:j=k
  ·subst e;cases hnew _ hm
  ·rw [hι j e]
   obtain ⟨b,arr,q0,q1,q2,q3⟩:=hM.mp _ _ _ (hold j _ e hm);refine ⟨b,arr,q0,q1,q2,fun j hj => ?_⟩
   obtain ⟨en,r1,r2,r3,r4⟩:=q3 j hj;exact ⟨en,r1,r2,r3,r4.mono hle.F hle.fz⟩
 ·by_cases e:j=k
  ·by_cases e':j'=k
   ·rw [e,e']
   ·subst e
    rw [hιs] at hb1;cases hb1
    rw [hι j' e'] at hb2
    exact absurd hb2 (hnl _ _ (hold j' _ e' hm') hl')
  ·by_cases e':j'=k
   ·subst e'
    rw [hιs] at hb2;cases hb2
    rw [hι j e] at hb1
    exact absurd hb1 (hnl _ _ (hold j _ e hm) hl)
   ·rw [hι j e] at hb1;rw [hι j' e'] at hb2
    exact hM.inj _ _ _ _ _ (hold j _ e hm) hl (hold j' _ e' hm') hl' hb1 hb2
 ·by_cases e:j=k
  ·subst e
   rw [hιs] at hb';cases hb'
   exact hnF
  ·rw [hι j e] at hb'
   exact hM.nF _ _ _ (hold j _ e hm) hl hb'
 ·by_cases e:j=k
  ·subst e
   rw [hιs] at hb';cases hb'
   exact cK hh
  ·rw [hι j e] at hb'
   exact hM.lt _ _ _ (hold j _ e hm) hl hb'
end
end KV
end Go.Proofs
section
namespace Go.Proofs
open Go.RowKit Go.Lib Go.Shelf
namespace KV
abbrev Bk(dc:Lqq):={ k:Nat // k<dc.length }
def mX(dc:Lqq)(k:Nat):List Int:=dc.getD k []
abbrev aLw(dc:Lqq):AV := .fn 187 [] [(.rp [(.sl dc.length (dc.flatten.map aA))] 0)]
theorem bZt{F:Nat→Prop}{w:World}{n:Int}{u:Value}(h:cX F w (aA n) u):u = .int .i64 n:=by unfold aA at h;cases h;rfl
theorem bNh{dc:Lqq}(hu:uni 6 dc){k j:Nat}{x:List Int}(hx:dc[k]? = some x)(hj:j<6):dc.flatten[k*6+j]? = some (x.getD j 0):=by
 have hk:k<dc.length:=(kQ3.1 hx).1
 induction dc generalizing k with
 | nil=>simp at hk
 | cons y r ih =>
  have hy:y.length=6:=hu y (mC ..);rw [tY];cases k with
  | zero =>
   simp at hx;subst hx
   rw [Nat.zero_mul,gN,aBk (by omega),kQ5,kQ0 (by omega)];rfl
  | succ k =>
   rw [wR (by omega),hy,show (k+1)*6+j-6=k*6+j by omega]
   exact ih (fun z hz=>hu z (kQ7 _ hz)) (by simpa using hx) (by simpa using hk)
theorem bWo{F:Nat→Prop}{w:World}{n:Nat}{cs:List PV}{v:Value}(h:cX F w (.sl n cs) v):∃ (p:Option Addr) (cap:Nat) (us:Nat→Value),v = .slice p n cap∧(∀ i,i<cs.length→∃ b o,p=some ⟨b,o,none⟩∧F b∧w.cell? ⟨b,o+i,none⟩=some (us i))∧∀ i (h:i<cs.length),cX F w cs[i] (us i):=by
 cases h with
 | sl _ _ p cap us g1 g2 g3 g4 g5=>exact ⟨p,cap,us,rfl,g3,g4⟩
theorem bBx(dc:Lqq)(hu:uni 6 dc)(hl:dc.length≤1000):bUo Tp (aLw dc) (fun x:Bk dc => #[Value.int .i64 (x.1:Nat),.agg (vals6 (mX dc x.1))]) 187 dc.length (fun ys=>ys.map (fun x=>x.1)=bk dc.length 0):=fun C M w u hu0 hFs=>by
 cases hu0 with
 | fn _ _ _ us vs h1 h2 h3 h4 =>
  obtain rfl:us = #[]:=by simpa using h1
  have q0:=h4 0 (by simp)
  simp only [List.getElem_cons_zero] at q0
  obtain ⟨x0,rfl⟩:∃ x0,vs = #[x0]:=by
   have:vs.toList.length=1:=by simpa using h2
   match hv:vs.toList,this with
   | [x0],_=>exact ⟨x0,by rw [← hv]⟩
  change Rep C M w (.rp [.sl dc.length (dc.flatten.map aA)] 0) x0 at q0
  cases q0 with
  | rp _ _ b1 o1 u1 e1 e2 e3 =>
   have r0:=e2 0 (by simp)
   change cX C.F w (.sl dc.length (dc.flatten.map aA)) (u1 0) at r0
   have c0:=e1 0 (by simp)
   obtain ⟨p,cap,us2,hv,g3,g4⟩:=bWo r0;rw [hv] at c0
   clear r0 hv
   ·have hlf:(dc.flatten.map aA).length=dc.length*6:=by rw [fL,nW hu]
    refine ⟨_,fun pre=>True,rfl,fun l J Jx W hW hJ _ hY h0 => ?_⟩
    have hsame:∀ W',KpG C.F W W'→∀ b,C.F b→W'.heap[b]? = w.heap[b]? := fun W' hk b hb=>(hk.same b hb).trans (hW.block b (hFs b hb))
    obtain ⟨b2,o2,hp⟩:∃ b2 o2,dc.length=0∨p=some ⟨b2,o2,none⟩:=by
     by_cases hz:dc.length=0
     ·exact ⟨0,0,.inl hz⟩
     ·obtain ⟨b,o,h,_⟩:=g3 0 (by omega)
      exact ⟨b,o,.inr h⟩
    have hcell:∀ W',KpG C.F W W'→∀ k:Nat,k<dc.length→∃ a b c d e f,dc[k]? = some [a,b,c,d,e,f]∧W'.cell? ⟨b2,o2+k*6,none⟩=some (.int .i64 a)∧W'.cell? ⟨b2,o2+k*6+1,none⟩=some (.int .i64 b)∧W'.cell? ⟨b2,o2+k*6+2,none⟩=some (.int .i64 c)∧W'.cell? ⟨b2,o2+k*6+3,none⟩=some (.int .i64 d)∧W'.cell? ⟨b2,o2+k*6+4,none⟩=some (.int .i64 e)∧W'.cell? ⟨b2,o2+k*6+5,none⟩=some (.int .i64 f):=fun W' hk k hkn=>by
     obtain ⟨a,b,c,d,e,f,hx⟩:=at6 hu (i:=k) (by omega)
     have one:∀ j,j<6→W'.cell? ⟨b2,o2+(k*6+j),none⟩=some (.int .i64 ([a,b,c,d,e,f].getD j 0)):=fun j hj=>by
      have hi:k*6+j<(dc.flatten.map aA).length:=by omega
      obtain ⟨b',o',q1,q2,q3⟩:=g3 (k*6+j) hi
      rcases hp with hp | hp
      ·omega
      ·rw [hp] at q1
       cases q1;rw [eW (hsame W' hk b2 q2),q3];have:=g4 (k*6+j) hi;have he:(dc.flatten.map aA)[k*6+j]=aA ([a,b,c,d,e,f].getD j 0):=by
        have h5:=bNh hu hx hj;rw [nU]
        congr 1
        obtain ⟨_,h6⟩:=kQ3.1 h5;exact h6
       rw [he] at this
       rw [bZt this]
     exact ⟨a,b,c,d,e,f,hx,one 0 (by omega),one 1 (by omega),one 2 (by omega),one 3 (by omega),one 4 (by omega),one 5 (by omega)⟩
    by_cases hz:dc.length=0
    ·-- nothing to yield: any address will do
     have h2:bk dc.length 0=[]:=by unfold bk;rw [hz];rfl
     rw [hz] at c0
     refine (aQx 2 l b1 o1 cap p (by omega) (J []) W ((eW (hsame W (KpG.refl _ _) b1 c0.1) _).trans c0.2) h0).mono ?_
     rintro e W' ⟨h5,h6⟩;exact ⟨h5,.inl ⟨[],by rw [h2];rfl,h6⟩⟩
    ·have hp:p=some ⟨b2,o2,none⟩:=hp.resolve_left hz
     subst hp;have:=aQw dc hl C.F 2 l b1 o1 b2 o2 cap (by omega) (fun ys W=>∃ zs:List (Bk dc),zs.map (fun x=>x.1)=ys∧J zs W) (fun ys W=>∃ zs:List (Bk dc),zs.map (fun x=>x.1)=ys∧Jx zs W)
      (fun pre k a b c d e f W1 hx hj hlt=>by
       obtain ⟨zs,rfl,hj⟩:=hj;have hk:k<dc.length:=(kQ3.1 hx).1;obtain ⟨fn,tmps,assign,body,hy,hR⟩:=hY zs ⟨k,hk⟩ W1 hj (by simpa [aQy] using hlt)
       have ev:vals6 (mX dc k) = #[.int .i64 a,.int .i64 b,.int .i64 c,.int .i64 d,.int .i64 e,.int .i64 f]:=by
        unfold mX;rw [kQ5,hx];rfl
       dsimp only at hy
       rw [ev] at hy
       refine ⟨fn,tmps,assign,body,hy,hR.mono ?_⟩;rintro e w3 (⟨rfl,hJ3,hK3⟩ | ⟨rfl,hx3⟩)
       ·exact .inl ⟨rfl,⟨zs++[⟨k,hk⟩],by rw [iY];rfl,hJ3⟩,hK3⟩
       ·exact .inr ⟨rfl,⟨zs++[⟨k,hk⟩],by rw [iY];rfl,hx3⟩⟩)
      W (fun ys A B row hs hg hr=>by obtain ⟨zs,h1,h2⟩:=hs;exact ⟨zs,h1,hJ _ _ _ _ h2 hg hr⟩) (fun b hb=>kQ8 (hFs b hb) hW.size)
      hcell
      (fun W' hk=>(eW (hsame W' hk b1 c0.1) _).trans c0.2)
      ⟨[],rfl,h0⟩
     refine this.mono ?_;rintro e W' ⟨h5,h6⟩;refine ⟨h5,?_⟩
     rcases h6 with ⟨ys,rfl,zs,h7,h8⟩ | ⟨pre,_,zs,h7,h8⟩
     ·exact .inl ⟨zs,h7,h8⟩
     ·exact .inr ⟨zs,trivial,h8⟩
end KV
end Go.Proofs
end
section
namespace Go.Proofs
open Go.RowKit
namespace KV
variable {P:Program} {T:TT} {E:Env} {C C0:Cx} {M M0:Mem} {w w0:World}
def gX(P:Program)(k:Nat)(c:Code)(st:St)(e:Ex)(st':St):Prop:=∀ (C0:Cx) (M0:Mem) (w0:World) (a:Act) (w:World),M0.length≤k→Sim P C0 M0 w0 st a w→∀ (ro:Option Nat) (n:Nat),c.wpIn (Fen ro) n P (fun e' a' w'=>e'=e.toExit∧Sim P C0 M0 w0 st' a' w') a w
theorem gX.cast{k:Nat}{c:Code}{st st1 st2:St}{e:Ex}(h:gX P k c st e st1)(q:st1=st2):gX P k c st e st2:=q ▸ h
theorem bIl(hT:∀ t i,T t=some i→cW P t=some i)(hE:lS P E)(hm:P.follows .mixedOrders=true){id:Nat}{ops:Array Oper}{d:Bool}{st st':St}{s s':AS}(h:aJd P T E ops d st s=some (st',s'))(g:bK s'){k:Nat}:gX P k (.region id ops d) st .normal st':=by
 intro C0 M0 w0 a w _ hs ro n;cases d with
 | false =>
  refine wpIn_region ?_;have:=tN hT hE ops.toList 0 (fun j=>by simp) h g C0 M0 w0 a w hs ro n (fun e' a' w'=>e'=Ex.normal.toExit∧Sim P C0 M0 w0 st' a' w') (fun a' w' h'=>⟨rfl,h'⟩)
  simpa using this
 | true =>
  obtain ⟨_,s1,h1,k1⟩:=aD h;obtain ⟨e1,rfl⟩:=aH h1;obtain ⟨r,s2,h2,k2⟩:=aD k1;obtain ⟨_,s3,h3,k3⟩:=aD k2;obtain ⟨e3,rfl⟩:=aH h3;obtain ⟨rfl,rfl⟩:=aJ k3;obtain ⟨hB,_⟩:=bW e1;obtain ⟨hA,_⟩:=bW e3;obtain ⟨os,hfts,hlex⟩:=qQ ops.toList _ (fts:=r.1) (fin:=r.2) h2 g;unfold Region.lexB at hB
  rw [kQ6] at hB
  have hlen:os.length=ops.toList.length:=by
   have:∀ {l:List Oper} {id:Nat} {st:St} {os:List uQ} {fin:St},aJe P T E ops.toList id l st os fin→os.length=l.length:=by
    intro l
    induction l with
    | nil=>intro id st os fin h;cases h;rfl
    | cons o l ih=>intro id st os fin h;cases h with | cons _ _ _ _ q os _ h hr=>simp [ih hr]
   exact this hlex
  have key:oN P T E ops.toList st.m.length (fun k=>os.getD k (.any,[],none)) r.2 ops.toList.length (Array.replicate ops.size false) st:=by
   refine oN.lex ops.toList 0 _ st os (fun j=>by simp) (fun j q hj=>by simp [kQ5,hj]) (fun j hj=>absurd hj (aOl _)) (fun j oj hj hl => ?_) (fun i j _ hij hj => ?_) (by simpa using hB.2) (by simpa [ido] using hlex)
   ·exfalso
    rcases Nat.lt_or_ge j ops.size with h' | h'
    ·simp [h'] at hl
    ·simp [Nat.not_lt.2 h'] at hl
   have hj2:j<os.length:=by
    rw [hlen];obtain ⟨o,ho⟩:=Option.isSome_iff_exists.1 hj;exact (kQ3.1 ho).1
   have:=nI r.1 0 hA i j (aAd os[i]) (aAd os[j]) hij (by rw [hfts,gM,kQ0 (by omega)];rfl) (by rw [hfts,gM,kQ0 hj2];rfl)
   rw [gN,gN] at this
   simp only [kQ5,kQ0 hj2,kQ0 (show i<os.length by omega),Option.getD_some,Array.toArray_toList]
   exact this
  refine wpIn_region_any hm ?_;have:=oN.sound hT hE (C0:=C0) (M0:=M0) (w0:=w0) (ro:=ro) (n:=n) (Q:=fun e' a' w'=>e'=Ex.normal.toExit∧Sim P C0 M0 w0 r.2 a' w') (fun a' w' h'=>⟨rfl,h'⟩) _ _ _ a _ key (hs.drawn (w.drawn+1))
  simpa using this


noncomputable def bPy(c:Code)(st:St):Ask (Ex × St):=match c with
 | .region _ ops d=>do
  let st' ← aJd Tp tT EO ops d st
  pure (.normal,st')
 | _=>fail
theorem gX.fin{k:Nat}{c:Code}{st st':St}{e:Ex}{g:Gh}{o:List OI}{l:List Prop}(h:aKt k g (bPy c st (asg o))=some (e,st',l,[]))(gd:bK (out l)):gX Tp k c st e st':=by
 unfold aKt at h
 split at h
 ·rename_i e1 st1 s hr
  split at h
  ·rename_i st2 hg
   simp only [Option.some.injEq,Prod.mk.injEq] at h
   obtain ⟨rfl,rfl,rfl,hs⟩:=h;unfold bPy at hr
   split at hr
   ·rename_i id ops d
    obtain ⟨st3,s1,h1,k1⟩:=aD hr;obtain ⟨he,rfl⟩:=aJ k1;cases he;intro C0 M0 w0 a w hk hsm ro n;exact wpIn_mono (bIl (k:=k) aEx aEw mixed h1 (fun p hp=>gd p hp) C0 M0 w0 a w hk hsm ro n) (fun _ _ _ hq=>⟨hq.1,eY hk hg hq.2⟩)
   ·exact (aY hr).elim
  ·cases h
 ·cases h
end KV
end Go.Proofs
end
namespace Go.Proofs
namespace KV
section

theorem bNe{dl:Int}{v1 v2:Value}{mb:Nat}{es:List (Value × PV)}{cl:Nat}{x0 x1 x2 x3 x4 x5:Int}(h0:cS .i64 es (.int .i64 x0))(h1:(dV es (.int .i64 x0))=true):gX Tp 5 (sub (cd Tryz.f82) [1,1,1,1,0,1,0,1,0,0]) ⟨fr 57 [(6,(.ptr 0 0)),(8,(.ptr 4 0))],[some (.box 130 [(.ptr 1 0)]),some (.box 176 [(pI dl),(.p (.v v1)),(.p (.v v2)),(.mp 2),(.p (.v (.map (some mb))))]),some (.mp es cl),some .dead,some (.box 44 [(pI x0),(pI x1),(pI x2),(pI x3),(pI x4),(pI x5)])]⟩ .normal ⟨fr 57 [(6,(.ptr 0 0)),(8,(.ptr 4 0))],[some (.box 130 [(.ptr 1 0)]),some (.box 176 [(pI dl),(.p (.v v1)),(.p (.v v2)),(.mp 2),(.p (.v (.map (some mb))))]),some (.mp (pE es (.int .i64 x0) (dcE x0 x1 x2 x3 x4 x5)) cl),some .dead,some (.box 44 [(pI x0),(pI x1),(pI x2),(pI x3),(pI x4),(pI x5)])]⟩:=by
 exact gX.fin (g:=⟨[0,1,2,3,4,5,7,9,10,11,12,13,14,15,16,17,18,19,20,21,22,23,24,25,26,27,28,29,30,31,32,33,34,35,36,37,38,39,40,41,42,43,44,45,46,47,48,49,50,51,52,53,54,55,56],[],[],[]⟩) (o:=[bT]) (l:=[_,_]) (by kernel_rfl) (gc h1 (gc h0 gn))
theorem bNf{dl:Int}{v1 v2:Value}{mb:Nat}{es:List (Value × PV)}{cl:Nat}{x0 x1 x2 x3 x4 x5:Int}(h0:cS .i64 es (.int .i64 x0))(h1:(dV es (.int .i64 x0))=false):gX Tp 5 (sub (cd Tryz.f82) [1,1,1,1,0,1,0,1,0,0]) ⟨fr 57 [(6,(.ptr 0 0)),(8,(.ptr 4 0))],[some (.box 130 [(.ptr 1 0)]),some (.box 176 [(pI dl),(.p (.v v1)),(.p (.v v2)),(.mp 2),(.p (.v (.map (some mb))))]),some (.mp es cl),some .dead,some (.box 44 [(pI x0),(pI x1),(pI x2),(pI x3),(pI x4),(pI x5)])]⟩ .normal ⟨fr 57 [(6,(.ptr 0 0)),(8,(.ptr 4 0))],[some (.box 130 [(.ptr 1 0)]),some (.box 176 [(pI dl),(.p (.v v1)),(.p (.v v2)),(.mp 2),(.p (.v (.map (some mb))))]),some (.mp (es++[((.int .i64 x0),(dcE x0 x1 x2 x3 x4 x5))]) (cl+1)),some .dead,some (.box 44 [(pI x0),(pI x1),(pI x2),(pI x3),(pI x4),(pI x5)])]⟩:=by
 exact gX.fin (g:=⟨[0,1,2,3,4,5,7,9,10,11,12,13,14,15,16,17,18,19,20,21,22,23,24,25,26,27,28,29,30,31,32,33,34,35,36,37,38,39,40,41,42,43,44,45,46,47,48,49,50,51,52,53,54,55,56],[],[],[]⟩) (o:=[bF]) (l:=[_,_]) (by kernel_rfl) (gc h1 (gc h0 gn))
theorem bNg{dl:Int}{v1 v2:Value}{mb:Nat}{es:List (Value × PV)}{cl:Nat}{x0 x1 x2 x3 x4 x5:Int}:gX Tp 5 (sub (cd Tryz.f82) [1,1,1,1,0,1,0,1,0,1,0]) ⟨fr 57 [(6,(.ptr 0 0)),(8,(.ptr 4 0))],[some (.box 130 [(.ptr 1 0)]),some (.box 176 [(pI dl),(.p (.v v1)),(.p (.v v2)),(.mp 2),(.p (.v (.map (some mb))))]),some (.mp es cl),some .dead,some (.box 44 [(pI x0),(pI x1),(pI x2),(pI x3),(pI x4),(pI x5)])]⟩ .normal ⟨fr 57 [(6,(.ptr 0 0)),(8,(.ptr 4 0)),(39,(pB (decide (x5 > (0:Int)))))],[some (.box 130 [(.ptr 1 0)]),some (.box 176 [(pI dl),(.p (.v v1)),(.p (.v v2)),(.mp 2),(.p (.v (.map (some mb))))]),some (.mp es cl),some .dead,some (.box 44 [(pI x0),(pI x1),(pI x2),(pI x3),(pI x4),(pI x5)])]⟩:=by
 exact gX.fin (g:=⟨[0,1,2,3,4,5,7,9,10,11,12,13,14,15,16,17,18,19,20,21,22,23,24,25,26,27,28,29,30,31,32,33,34,35,36,37,38,40,41,42,43,44,45,46,47,48,49,50,51,52,53,54,55,56],[],[],[]⟩) (o:=[]) (l:=[]) (by kernel_rfl) (gn)
end
end KV
end Go.Proofs
section
namespace Go.Proofs
open Go.RowKit
namespace KV
open Go.ChangeMaps (setBlock)
open Go.Maps Go.MapKept

section
variable {P:Program} {o:Oper} {a:Act} {W W':World}
theorem bIh{x:Operand}{p:Addr}(ho:o.op = .nilCheck x)(hv:a.eval x = .pointer (some p)):(execOp a.eval o).run P W = .ok (.value (.pointer (some p))) W:=by
 unfold execOp;rw [ho];simp [hv]
theorem vR{t:TypeId}{x:Operand}{f:Nat}{v r:Value}(ho:o.op = .fieldAddr t x f)(hx:a.eval x=v)(hr:(Instr.fieldAt t v f).run P W = .ok r W):(execOp a.eval o).run P W = .ok (.value r) W:=by
 unfold execOp;rw [ho];simp [hx,hr,Result.andThen]
theorem vS{t:TypeId}{fs:Array Field}{f:Nat}{fl:Field}{j:TI}(hd:P.underlying t=some (.struct fs))(hf:fs[f]? = some fl)(hj:cW P fl.type=some j)(h0:j.size≠0)(b off:Nat) :
  (Instr.fieldAt t (.pointer (some ⟨b,off,none⟩)) f).run P W = .ok (.pointer (some ⟨b,off+fl.offset,none⟩)) W:=by
 unfold Instr.fieldAt;rw [Sem.run_bind,run_underlying hd,Result.andThen_ok];simp only [hf];rw [Sem.run_bind];show ((pure (⟨b,off,none⟩:Addr):Sem Addr).run P W).andThen _=_;rw [Sem.run_pure,Result.andThen_ok,Sem.run_bind,rB hj h0,Result.andThen_ok];rfl
theorem bBw{t:Nat}{i:TI}(hi:cW P t=some i)(ha:i.agg=true){b:Nat}{l:List Value}{ty:TypeId}{fr:Nat × Nat}(hl:l.length=i.size)(h:W.heap[b]? = some (.cells l.toArray ty fr)):(Instr.loadAt t (.pointer (some ⟨b,0,none⟩))).run P W = .ok (.agg l.toArray) W:=by
 have:=lO (P:=P) (w:=W) hi ha (b:=b) (o:=0) (f:=fun j=>l.getD j undef) (fun j hj=>by
  rw [gN,cG h (by simpa using (by omega:j<l.length))]
  simp [kQ5,kQ0 (show j<l.length by omega),kQ2])
 have e:((List.range i.size).map fun j=>l.getD j undef).toArray=l.toArray:=by
  rw [← hl]
  congr 1
  apply List.ext_getElem
  ·simp
  ·intro j h1 h2
   simp [kQ5,kQ0 h2]
 rw [e] at this
 unfold Instr.loadAt Instr.sureAddr;simpa using this
end
theorem fill6{x:List Int}(hx:x.length=6):Instr.fill (fun i=>some (i*6,6)) ((Array.range (1*6)).map (zD6.cells[· % zD6.cells.size]!)) [(0,.agg (vsL x).toArray)]=some (vsL x).toArray:=by
 obtain ⟨a,b,c,d,e,f,rfl⟩:=len6 hx
 kernel_rfl
theorem tiq{P:Program}{t:Nat}{b:Bool}{n:Nat}(h:(cW P t).map (fun i=>(i.agg,i.size))=some (b,n)):∃ i,cW P t=some i∧i.agg=b∧i.size=n:=by
 cases h2:cW P t with
 | none=>rw [h2] at h;simp at h
 | some i=>rw [h2] at h;simp at h;exact ⟨i,rfl,h.1,h.2⟩
theorem tq130:(cW Tp 130).map (fun i=>(i.agg,i.size))=some (false,1):=by kernel_rfl
theorem tq174:(cW Tp 174).map (fun i=>(i.agg,i.size))=some (false,1):=by kernel_rfl
theorem tq3:(cW Tp 3).map (fun i=>(i.agg,i.size))=some (false,1):=by kernel_rfl
theorem tq44:(cW Tp 44).map (fun i=>(i.agg,i.size))=some (true,6):=by kernel_rfl
theorem info44z:(Tryz.prog.info? 44).map (fun i=>(i.zero,i.size,i.bytes))=some (some zD6,6,48):=by kernel_rfl

structure bNc (mb:Nat) (es:Array MapEntry) (cl:Nat) (L:List Ent) (k:Int) (x:List Int) (W W':World) (es':Array MapEntry) (cl':Nat) (e:Ent):Prop where
 ok:lY mb es' (oW L e)
 ky:e.k=k
 li:e.l=oV L k++[x]
 born:(∀ y∈es.toList,y.born<cl)→∀ y∈es'.toList,y.born<cl'
 has:∀ p∈iO mb es' cl' (oW L e),W'.heap[p.1]? = some p.2∧((∃ p0∈iO mb es cl L,p0.1=p.1)∨W.heap.size≤p.1)
 size:W.heap.size≤W'.heap.size
 os:W'.os=W.os
 tape:W'.tape=W.tape
 out:W'.output=W.output
 keep:∀ b,b<W.heap.size→(∀ q∈iO mb es cl L,q.1≠b)→W'.heap[b]? = W.heap[b]?

theorem bNd:∃ l:List Oper,sub (cd Tryz.f82) [1,1,1,1,0,1,0,1,0,1,1,0] = .region 9 l.toArray true∧aIf l [0,1,2,3,4,5,6,7,8,9,10,11,12,13] 14 15 16=true∧l.all yP=true∧l.map (fun o=>(o.op,o.dst))=[(.load 130 (.tmp 6),some 40),(.nilCheck (.tmp 40),some 41),(.fieldAddr 176 (.tmp 41) 2,some 42),(.load 174 (.tmp 42),some 43),(.fieldAddr 44 (.tmp 8) 5,some 44),(.load 3 (.tmp 44),some 45),(.load 130 (.tmp 6),some 46),(.nilCheck (.tmp 46),some 47),(.fieldAddr 176 (.tmp 47) 2,some 48),(.load 174 (.tmp 48),some 49),(.fieldAddr 44 (.tmp 8) 5,some 50),(.load 3 (.tmp 50),some 51),(.lookup 174 (.tmp 49) (.tmp 51) false,some 52),(.load 44 (.tmp 8),some 53),(.buildSlice 24 1 #[(0,.tmp 53)],some 54),(.call { callee := .builtin .append,args := #[.tmp 52,.tmp 54],argTypes := #[24,24] },some 55),(.mapUpdate 174 (.tmp 43) (.tmp 45) (.tmp 55),none)] :=
 ⟨match sub (cd Tryz.f82) [1,1,1,1,0,1,0,1,0,1,1,0] with | .region _ ops _=>ops.toList | _=>[],by kernel_rfl,by kernel_rfl,by kernel_rfl,by kernel_rfl⟩
set_option maxHeartbeats 4000000 in
theorem ask9{F:Fence}{n:Nat}(hall:∀ f,F.fn f){a:Act}{W:World}{b6 bd b8 mb cl:Nat}{es:Array MapEntry}{L:List Ent}{x:List Int}(hx6:x.length=6){a6 ad:Array Value}{t6 td:TypeId}
  (hsz:a.tmps.size=57) (v6:a.tmps.getD 6 undef = .pointer (some ⟨b6,0,none⟩)) (v8:a.tmps.getD 8 undef = .pointer (some ⟨b8,0,none⟩))
  (h6:W.heap[b6]? = some (.cells a6 t6 (0,0))) (q6:0<a6.size∧a6.getD 0 undef = .pointer (some ⟨bd,0,none⟩)) (hd:W.heap[bd]? = some (.cells ad td (0,0))) (qd:4<ad.size∧ad.getD 4 undef = .map (some mb)) (h8:W.heap[b8]? = some (.cells (vsL x).toArray 44 (0,0)))
  (hM:lY mb es L) (hR:∀ p∈iO mb es cl L,W.heap[p.1]? = some p.2) (hl:∀ e∈L,e.l.length≤1000) (hne:∀ p∈iO mb es cl L,p.1≠b6∧p.1≠bd∧p.1≠b8) (hk:(Lit.int .i64 (dAb x)).wf=true) :
  (sub (cd Tryz.f82) [1,1,1,1,0,1,0,1,0,1,1,0]).wpIn F n Tp (fun e a' W'=>e = .normal∧∃ es' cl' e,bNc mb es cl L (dAb x) x W W' es' cl' e) a W:=by
 obtain ⟨l,hc,hB,hcalm,hops⟩:=bNd;rw [hc];obtain ⟨o0,l0,rfl,h0,hops⟩:=rG.1 hops;obtain ⟨o1,l1,rfl,h1,hops⟩:=rG.1 hops;obtain ⟨o2,l2,rfl,h2,hops⟩:=rG.1 hops;obtain ⟨o3,l3,rfl,h3,hops⟩:=rG.1 hops;obtain ⟨o4,l4,rfl,h4,hops⟩:=rG.1 hops;obtain ⟨o5,l5,rfl,h5,hops⟩:=rG.1 hops;obtain ⟨o6,l6,rfl,h6',hops⟩:=rG.1 hops;obtain ⟨o7,l7,rfl,h7,hops⟩:=rG.1 hops;obtain ⟨o8,l8,rfl,h8',hops⟩:=rG.1 hops;obtain ⟨o9,l9,rfl,h9,hops⟩:=rG.1 hops;obtain ⟨o10,l10,rfl,h10,hops⟩:=rG.1 hops;obtain ⟨o11,l11,rfl,h11,hops⟩:=rG.1 hops;obtain ⟨o12,l12,rfl,h12,hops⟩:=rG.1 hops;obtain ⟨o13,l13,rfl,h13,hops⟩:=rG.1 hops;obtain ⟨o14,l14,rfl,h14,hops⟩:=rG.1 hops;obtain ⟨o15,l15,rfl,h15,hops⟩:=rG.1 hops;obtain ⟨o16,l16,rfl,h16,hops⟩:=rG.1 hops;obtain rfl:=List.map_eq_nil_iff.1 hops;obtain ⟨q0,d0⟩:=Prod.mk.inj h0;obtain ⟨q1,d1⟩:=Prod.mk.inj h1;obtain ⟨q2,d2⟩:=Prod.mk.inj h2;obtain ⟨q3,d3⟩:=Prod.mk.inj h3;obtain ⟨q4,d4⟩:=Prod.mk.inj h4;obtain ⟨q5,d5⟩:=Prod.mk.inj h5;obtain ⟨q6',d6⟩:=Prod.mk.inj h6';obtain ⟨q7,d7⟩:=Prod.mk.inj h7;obtain ⟨q8,d8⟩:=Prod.mk.inj h8';obtain ⟨q9,d9⟩:=Prod.mk.inj h9;obtain ⟨q10,d10⟩:=Prod.mk.inj h10;obtain ⟨q11,d11⟩:=Prod.mk.inj h11;obtain ⟨q12,d12⟩:=Prod.mk.inj h12;obtain ⟨q13,d13⟩:=Prod.mk.inj h13;obtain ⟨q14,d14⟩:=Prod.mk.inj h14;obtain ⟨q15,d15⟩:=Prod.mk.inj h15;obtain ⟨q16,d16⟩:=Prod.mk.inj h16;clear h0 h1 h2 h3 h4 h5 h6' h7 h8' h9 h10 h11 h12 h13 h14 h15 h16;have V6:a.eval (.tmp 6) = .pointer (some ⟨b6,0,none⟩):=v6;have V8:a.eval (.tmp 8) = .pointer (some ⟨b8,0,none⟩):=v8;obtain ⟨i130,t130,a130,_⟩:=tiq tq130;obtain ⟨i174,t174,a174,s174⟩:=tiq tq174;obtain ⟨i3,t3,a3,s3⟩:=tiq tq3;obtain ⟨i44,t44,a44,s44⟩:=tiq tq44;have fd:∀ U:World,(Instr.fieldAt 176 (.pointer (some ⟨bd,0,none⟩)) 2).run Tp U = .ok (.pointer (some ⟨bd,4,none⟩)) U:=fun U =>
  (vS (P:=Tp) (W:=U) Tryz.underlying176 (f:=2) rfl (by exact t174) (by rw [s174];decide) bd 0)
 have f8:∀ U:World,(Instr.fieldAt 44 (.pointer (some ⟨b8,0,none⟩)) 5).run Tp U = .ok (.pointer (some ⟨b8,5,none⟩)) U:=fun U =>
  (vS (P:=Tp) (W:=U) Tryz.underlying44 (f:=5) rfl (by exact t3) (by rw [s3];decide) b8 0)
 obtain ⟨S,hSdef⟩:∃ S:World→Prop,S=fun U=>U.heap[b6]? = W.heap[b6]? ∧ U.heap[bd]? = W.heap[bd]? ∧ U.heap[b8]? = W.heap[b8]? ∧ U.heap[mb]? = W.heap[mb]? := ⟨_,rfl⟩
 have hmb:W.heap[mb]? = some (.map es cl):=hR (mb,.map es cl) (by simp [iO])
 have r6:∀ U,S U→(Instr.loadAt 130 (.pointer (some ⟨b6,0,none⟩))).run Tp U = .ok (.pointer (some ⟨bd,0,none⟩)) U:=fun U hU=>by
  rw [hSdef] at hU
  refine xE t130 a130 ?_;rw [eW hU.1,cG h6 q6.1];have:=q6.2;simp only [kQ2,qK q6.1,Option.getD_some] at this ⊢
  rw [this]
 have rd:∀ U,S U→(Instr.loadAt 174 (.pointer (some ⟨bd,4,none⟩))).run Tp U = .ok (.map (some mb)) U:=fun U hU=>by
  rw [hSdef] at hU
  refine xE t174 a174 ?_;rw [eW hU.2.1,cG hd qd.1];have:=qd.2;simp only [kQ2,qK qd.1,Option.getD_some] at this ⊢
  rw [this]
 have x5:(vsL x)[5]? = some (.int .i64 (dAb x)):=by
  unfold vsL;rw [gM,kQ0 (by omega)]
  simp [dAb,kQ5,kQ0 (show 5<x.length by omega)]
 have r5:∀ U,S U→(Instr.loadAt 3 (.pointer (some ⟨b8,5,none⟩))).run Tp U = .ok (.int .i64 (dAb x)) U:=fun U hU=>by
  rw [hSdef] at hU
  refine xE t3 a3 ?_;have hs5:5<(vsL x).length:=by simp [vsL,hx6]
  rw [eW hU.2.2.1,cG h8 (j:=5) (by simpa using hs5)]
  simp only [kQ0 hs5,Option.some.injEq] at x5
  simp [kQ2,kQ0 hs5,x5]
 have r8:∀ U,S U→(Instr.loadAt 44 (.pointer (some ⟨b8,0,none⟩))).run Tp U = .ok (.agg (vsL x).toArray) U:=fun U hU=>by
  rw [hSdef] at hU
  exact bBw t44 a44 (by simp [vsL,hx6,s44]) (hU.2.2.1.trans h8)
 have rz:∀ U:World,(zeroValue 24).run Tp U = .ok (.slice none 0 0) U:=fun U=>rfl
 have rl:∀ U,S U→(Instr.lookup 174 (.map (some mb)) (.int .i64 (dAb x)) false).run Tp U = .ok (qJ L (dAb x)) U:=fun U hU=>by
  rw [hSdef] at hU
  exact bIi Tryz.underlying174 Tryz.underlying3 (rz U) (hU.2.2.2.trans hmb) hM hk
 obtain ⟨W1,hW1⟩:∃ W1:World,W1={ W with drawn:=W.drawn+1 }:=⟨_,rfl⟩
 have hh1:W1.heap=W.heap:=by rw [hW1]
 have hs:Sim Tp ((⟨fun _=>none,fun _=>0,fun _=>False,[]⟩:Cx).with (iO mb es cl L++[])) [] { W1 with heap := #[] } ⟨List.replicate 57 .any,[]⟩ { tmps:=a.tmps,defers:=[] } W1:=by
  refine ⟨⟨fun _=>none,fun _=>0,fun _=>False,[]⟩,⟨by simpa using hsz,fun j hj=>by rw [List.getElem_replicate];exact .any _⟩,⟨fun _ _ _ _ h=>by simp at h,fun _ _ _ h=>by simp at h,fun _ _ _ h=>by simp at h,fun _ _ _ _ _ h=>by simp at h,fun _ _ _ h=>by simp at h,fun _ h=>h.elim,fun _ _ _ h=>by simp at h⟩,
   ⟨rfl,rfl,rfl,Nat.zero_le _,fun b hb=>by simp at hb,fun _ _ h=>by simp at h,fun _ _ h=>by simp at h,fun _ _ h=>by simp at h,fun _ _ _ h=>by simp at h,fun _ h=>h,fun _ h=>h.elim⟩,?_⟩
  refine ⟨⟨[],rfl,.nil,fun D h=>by cases h⟩,fun p hp => ?_,.no (fun _ _ h=>by simp at h)⟩
  have hp':p∈iO mb es cl L:=by have h2:p∈iO mb es cl L++[]:=hp;rwa [List.append_nil] at h2
  refine ⟨by rw [hh1];exact hR p hp',Nat.zero_le _,?_,fun h=>h,fun _ _ h=>by simp at h⟩
  rcases dL.1 hp' with rfl | ⟨y,_,rfl⟩ <;> (intro h;cases h)
 obtain ⟨v2,w2,es',cl',e,hrun,hkeep,hmb2,⟨hsize,hborn,hold⟩,hup,hM',hek,hel,_,hsim⟩:=bNm (P:=Tp) (C0:=⟨fun _=>none,fun _=>0,fun _=>False,[]⟩) (kt:=3) (S22:=24) (ty:=o15.type) (k:=dAb x) (x:=x) hx6 Tryz.underlying174 Tryz.underlying3 Tryz.underlying24 info44z hs (fun p _ q hq=>by cases hq) hM hk hl
 have hw2:S w2:=by
  rw [hSdef];have hlt:∀ b o,W.heap[b]? = some o→b<W1.heap.size:=fun b o h=>by rw [hh1];exact cK h
  refine ⟨(hkeep b6 (hlt _ _ h6) fun q hq=>(hne q hq).1).trans (by rw [hh1]),(hkeep bd (hlt _ _ hd) fun q hq=>(hne q hq).2.1).trans (by rw [hh1]),(hkeep b8 (hlt _ _ h8) fun q hq=>(hne q hq).2.2).trans (by rw [hh1]),hmb2.trans (by rw [hh1])⟩
 have hS1:S { W with drawn:=W.drawn+1 }:=by rw [hSdef];exact ⟨rfl,rfl,rfl,rfl⟩
 refine bBy (P:=Tp) (o1:=o14) (o2:=o15) (o3:=o16) (S:=S) hall (fun ⟨_,_,h,_⟩=>by cases h) hcalm [0,1,2,3,4,5,6,7,8,9,10,11,12,13] 14 15 16 mixed hB rfl rfl rfl (fun c a w h=>by cases h.1) hS1
  [.pointer (some ⟨bd,0,none⟩),.pointer (some ⟨bd,0,none⟩),.pointer (some ⟨bd,4,none⟩),.map (some mb),.pointer (some ⟨b8,5,none⟩),.int .i64 (dAb x),.pointer (some ⟨bd,0,none⟩),.pointer (some ⟨bd,0,none⟩),.pointer (some ⟨bd,4,none⟩),.map (some mb),.pointer (some ⟨b8,5,none⟩),.int .i64 (dAb x),qJ L (dAb x),.agg (vsL x).toArray] rfl ?_ ?_
 ·refine ⟨fun U hU=>qB q0 V6 (r6 U hU),fun U hU=>bIh q1 (by simp [bU,bN,dR,hsz,V6,V8,d0,d1,d2,d3,d4,d5,d6,d7,d8,d9,d10,d11,d12]),fun U hU=>vR q2 (by simp [bU,bN,dR,hsz,V6,V8,d0,d1,d2,d3,d4,d5,d6,d7,d8,d9,d10,d11,d12]) (fd U),
   fun U hU=>qB q3 (by simp [bU,bN,dR,hsz,V6,V8,d0,d1,d2,d3,d4,d5,d6,d7,d8,d9,d10,d11,d12]) (rd U hU),fun U hU=>vR q4 (by simp [bU,bN,dR,hsz,V6,V8,d0,d1,d2,d3,d4,d5,d6,d7,d8,d9,d10,d11,d12]) (f8 U),fun U hU=>qB q5 (by simp [bU,bN,dR,hsz,V6,V8,d0,d1,d2,d3,d4,d5,d6,d7,d8,d9,d10,d11,d12]) (r5 U hU),
   fun U hU=>qB q6' (by simp [bU,bN,dR,hsz,V6,V8,d0,d1,d2,d3,d4,d5,d6,d7,d8,d9,d10,d11,d12]) (r6 U hU),fun U hU=>bIh q7 (by simp [bU,bN,dR,hsz,V6,V8,d0,d1,d2,d3,d4,d5,d6,d7,d8,d9,d10,d11,d12]),fun U hU=>vR q8 (by simp [bU,bN,dR,hsz,V6,V8,d0,d1,d2,d3,d4,d5,d6,d7,d8,d9,d10,d11,d12]) (fd U),
   fun U hU=>qB q9 (by simp [bU,bN,dR,hsz,V6,V8,d0,d1,d2,d3,d4,d5,d6,d7,d8,d9,d10,d11,d12]) (rd U hU),fun U hU=>vR q10 (by simp [bU,bN,dR,hsz,V6,V8,d0,d1,d2,d3,d4,d5,d6,d7,d8,d9,d10,d11,d12]) (f8 U),fun U hU=>qB q11 (by simp [bU,bN,dR,hsz,V6,V8,d0,d1,d2,d3,d4,d5,d6,d7,d8,d9,d10,d11,d12]) (r5 U hU),
   fun U hU=>bCa q12 (by simp [bU,bN,dR,hsz,V6,V8,d0,d1,d2,d3,d4,d5,d6,d7,d8,d9,d10,d11,d12]) (by simp [bU,bN,dR,hsz,V6,V8,d0,d1,d2,d3,d4,d5,d6,d7,d8,d9,d10,d11,d12]) (rl U hU),
   fun U hU=>qB q13 (by simp [bU,bN,dR,hsz,V6,V8,d0,d1,d2,d3,d4,d5,d6,d7,d8,d9,d10,d11,d12]) (r8 U hU),trivial⟩
 ·intro a' ha'
  have e43:a'.eval (.tmp 43) = .map (some mb):=by rw [ha'];simp [yQ,bU,bN,dR,hsz,V6,V8,d0,d1,d2,d3,d4,d5,d6,d7,d8,d9,d10,d11,d12,d13]
  have e45:a'.eval (.tmp 45) = .int .i64 (dAb x):=by rw [ha'];simp [yQ,bU,bN,dR,hsz,V6,V8,d0,d1,d2,d3,d4,d5,d6,d7,d8,d9,d10,d11,d12,d13]
  have e52:a'.eval (.tmp 52)=qJ L (dAb x):=by rw [ha'];simp [yQ,bU,bN,dR,hsz,V6,V8,d0,d1,d2,d3,d4,d5,d6,d7,d8,d9,d10,d11,d12,d13]
  have e53:a'.eval (.tmp 53) = .agg (vsL x).toArray:=by rw [ha'];simp [yQ,bU,bN,dR,hsz,V6,V8,d0,d1,d2,d3,d4,d5,d6,d7,d8,d9,d10,d11,d12,d13]
  have hsz':a'.tmps.size=57:=by rw [ha'];simp [yQ,dR,hsz,d0,d1,d2,d3,d4,d5,d6,d7,d8,d9,d10,d11,d12,d13]
  obtain ⟨inf,hi,hz,hz1,hz2⟩:=info_parts info44z;have hvl:(vsL x).length=6:=by simp [vsL,hx6]
  have hbld:∀ U:World,(Instr.buildSlice 24 1 #[(0,.agg (vsL x).toArray)]).run Tp U = .ok (.slice (some ⟨U.heap.size,0,none⟩) 1 1) (U.alloc (.cells (vsL x).toArray 44)):=fun U =>
   aBb (P:=Tp) 24 44 inf 1 #[(0,.agg (vsL x).toArray)] (vsL x).toArray zD6 Tryz.underlying24 hi hz (by rw [hz1];decide) (by rw [hz1];exact fill6 hx6)
  have hW1':({ W with drawn:=W.drawn+1 }:World)=W1:=hW1.symm
  rw [hW1'] at hS1 ⊢
  refine ⟨_,_,v2,w2,setBlock w2 mb (.map es' cl'),bCb q14 e53 (hbld _),?_,bCc q15 (by rw [d14,bU rfl];exact e52) (by rw [d14,bN (by omega)]) hrun,hw2,bCd q16 (by rw [d14,d15,bU rfl,bU rfl];exact e43) (by rw [d14,d15,bU rfl,bU rfl];exact e45) (by rw [d14,d15,bN (by rw [dR];omega)]) hup,?_⟩
  ·obtain ⟨n1,n2,n3⟩:=jS W1 (.cells (vsL x).toArray 44)
   rw [hSdef] at hS1 ⊢
   have hlt:∀ b o,W.heap[b]? = some o→b<W1.heap.size:=fun b o h=>by rw [hh1];exact cK h
   exact ⟨(n3 b6 (hlt _ _ h6)).trans hS1.1,(n3 bd (hlt _ _ hd)).trans hS1.2.1,(n3 b8 (hlt _ _ h8)).trans hS1.2.2.1,(n3 mb (hlt _ _ hmb)).trans hS1.2.2.2⟩
  ·refine ⟨rfl,es',cl',e,⟨hM',hek,hel,hborn,fun p hp => ?_,?_,?_,?_,?_,fun b hb hno => ?_⟩⟩
   ·refine ⟨hsim.has p (pQ _ hp),?_⟩
    rcases hold p hp with h | h
    ·exact .inl h
    ·right;rw [hh1] at h;exact h
   ·unfold setBlock;simp only [Array.size_setIfInBounds];rw [hh1] at hsize;exact hsize
   ·obtain ⟨C,_,_,hF,_⟩:=hsim
    exact hF.os.trans (by rw [hW1])
   ·obtain ⟨C,_,_,hF,_⟩:=hsim
    exact hF.tape.trans (by rw [hW1])
   ·obtain ⟨C,_,_,hF,_⟩:=hsim
    exact hF.out.trans (by rw [hW1])
   ·have hbm:b≠mb:=fun h=>hno (mb,.map es cl) (by simp [iO]) h.symm
    have:(setBlock w2 mb (.map es' cl')).heap[b]? = w2.heap[b]? := by
     unfold setBlock;simp only [Array.getElem?_setIfInBounds];rw [if_neg (Ne.symm hbm)]
    rw [this,hkeep b (by rw [hh1];exact hb) hno,hh1]
end KV
end Go.Proofs
end
section
namespace Go.Proofs
open Go.RowKit
namespace KV
open Go.ChangeMaps (setBlock)

mutual
def ffP:PV→Bool
 | .v _=>true
 | .agg cs=>bBv cs
 | _=>false
def bBv:List PV→Bool
 | []=>true
 | x::r=>ffP x && bBv r
end
theorem aTy:∀ {l:List PV},bBv l=true→∀ (i:Nat) (h:i<l.length),ffP l[i]=true
 | [],_,i,h=>by simp at h
 | x::r,hl,i,h=>by
  rw [bBv,kQ6] at hl
  cases i with
  | zero=>exact hl.1
  | succ i=>exact aTy hl.2 i (by simpa using h)
theorem aLt{α:Type}(g:α→PV)(h:∀ x,ffP (g x)=true):∀ l:List α,bBv (l.map g)=true
 | []=>rfl
 | x::r=>by rw [iM,bBv,h,aLt g h r];rfl
theorem cX.anyF{F F':Nat→Prop}{w w':World}{x:PV}{u:Value}(h:cX F w x u)(hm:ffP x=true):cX F' w' x u:=by
 induction h with
 | v x=>exact .v x
 | agg cs vs h0 h1 _ ih =>
  rw [ffP] at hm
  exact .agg cs vs h0 h1 fun i hi=>ih i hi (aTy hm i hi)
 | sl=>simp [ffP] at hm
 | mp=>simp [ffP] at hm
 | rp=>simp [ffP] at hm

def sV(x:List Int):PV := .agg (x.map aA)
def kW(es:List (Value × PV))(x:List Int):List (Value × PV):=if dV es (.int .i64 (dN x)) then pE es (.int .i64 (dN x)) (sV x) else es++[(.int .i64 (dN x),sV x)]
def atF(q:Lqq):List (Value × PV):=q.foldl kW []
theorem aLu(q:Lqq)(x:List Int):atF (q++[x])=kW (atF q) x:=by unfold atF;rw [aHg];rfl
structure xC (es:List (Value × PV)):Prop where
 ky:∀ e∈es,aKa .i64 e.1=true
 nd:(es.map fun e=>iX e.1).Nodup
 nm:∀ e∈es,ffP e.2=true
theorem aCo{kv:Value}{x:PV}:∀ (es:List (Value × PV)),((pE es kv x).map fun e=>iX e.1)=es.map fun e=>iX e.1
 | []=>rfl
 | e::r=>by
  unfold pE
  split
  ·rename_i h
   rw [iM,iM,h]
  ·rw [iM,iM,aCo r]
theorem aCp{kv:Value}{x:PV}{e:Value × PV}:∀ {es:List (Value × PV)},e∈pE es kv x→e∈es∨e=(kv,x)
 | [],h=>by unfold pE at h;cases h
 | a::r,h=>by
  unfold pE at h
  split at h
  ·rcases kM.1 h with h | h
   ·exact .inr h
   ·exact .inl (kQ7 _ h)
  ·rcases kM.1 h with h | h
   ·exact .inl (h ▸ mC ..)
   ·rcases aCp h with h | h
    ·exact .inl (kQ7 _ h)
    ·exact .inr h
theorem aTz(x:List Int):ffP (sV x)=true:=by unfold sV;rw [ffP];exact aLt _ (fun _=>rfl) _
theorem xC.step{es:List (Value × PV)}(h:xC es){x:List Int}(hx : -1000000≤dN x∧dN x≤1000000):xC (kW es x):=by
 unfold kW;cases hb:dV es (.int .i64 (dN x)) with
 | true =>
  rw [if_pos rfl];refine ⟨fun e he => ?_,by rw [aCo];exact h.nd,fun e he => ?_⟩
  ·rcases aCp he with h1 | rfl
   ·exact h.ky e h1
   ·exact oA hx
  ·rcases aCp he with h1 | rfl
   ·exact h.nm e h1
   ·exact aTz x
 | false =>
  rw [if_neg (by simp)]
  refine ⟨fun e he => ?_,?_,fun e he => ?_⟩
  ·rcases nV.1 he with h1 | h1
   ·exact h.ky e h1
   ·rw [List.mem_singleton.1 h1];exact oA hx
  ·rw [iY,List.nodup_append]
   refine ⟨h.nd,by simp,fun a ha b hb' hab => ?_⟩
   simp at hb'
   subst hb';obtain ⟨e,he,rfl⟩:=fF.1 ha;have:=(List.any_eq_false.1 (show es.any _=false from hb)) e he
   exact this (decide_eq_true hab)
  ·rcases nV.1 he with h1 | h1
   ·exact h.nm e h1
   ·rw [List.mem_singleton.1 h1];exact aTz x
theorem bIe{q:Lqq}(hq:∀ x∈q,-1000000≤dN x∧dN x≤1000000):xC (atF q):=by
 have key:∀ (q:Lqq) (es:List (Value × PV)),(∀ x∈q,-1000000≤dN x∧dN x≤1000000)→xC es→xC (q.foldl kW es):=by
  intro q
  induction q with
  | nil=>intro es _ h;exact h
  | cons x q ih=>intro es hq h;exact ih _ (fun y hy=>hq y (kQ7 _ hy)) (h.step (hq x (mC ..)))
 exact key q [] hq ⟨fun e h=>(by cases h),by simp,fun e h=>(by cases h)⟩
theorem xC.keys{es:List (Value × PV)}(h:xC es){k:Int}(hk : -1000000≤k∧k≤1000000):cS .i64 es (.int .i64 k):=⟨h.ky,oA hk,h.nd⟩
theorem bIf{kv:Value}{x:PV}(es:List (Value × PV)):(pE es kv x).length=es.length:=by
 have:=congrArg List.length (aCo (kv:=kv) (x:=x) es);simpa using this

abbrev dkB(dl:Int)(s1 s2:PV)(a b:AV):AO := .box 176 [.p (aA dl),.p s1,.p s2,a,b]
abbrev lX(dl:Int)(sk dc:Lqq):Mem:=[some (.box 130 [.ptr 1 0]),some (dkB dl (.sl sk.length (sk.flatten.map aA)) (.sl dc.length (dc.flatten.map aA)) (.mp 2) (.mp 3)),some (.mp [] 0),some (.mp [] 0)]
abbrev xD(dl:Int)(v1 v2:Value)(mb:Nat)(es:List (Value × PV)):Mem:=[some (.box 130 [.ptr 1 0]),some (dkB dl (.v v1) (.v v2) (.mp 2) (.p (.v (.map (some mb))))),some (.mp es es.length),some .dead]
abbrev iF(dl:Int)(v1 v2:Value)(mb:Nat)(es:List (Value × PV))(x:List Int):Mem:=[some (.box 130 [.ptr 1 0]),some (dkB dl (.v v1) (.v v2) (.mp 2) (.p (.v (.map (some mb))))),some (.mp es es.length),some .dead,some (.box 44 ((x.map aA).map .p))]
theorem at4{α:Type}{a b c d x:α}{i:Nat}(h:[a,b,c,d][i]? = some x):(i=0∧x=a)∨(i=1∧x=b)∨(i=2∧x=c)∨(i=3∧x=d):=by
 match i with
 | 0=>simp at h;exact .inl ⟨rfl,h.symm⟩
 | 1=>simp at h;exact .inr (.inl ⟨rfl,h.symm⟩)
 | 2=>simp at h;exact .inr (.inr (.inl ⟨rfl,h.symm⟩))
 | 3=>simp at h;exact .inr (.inr (.inr ⟨rfl,h.symm⟩))
 | i+4=>simp at h
theorem at5'{α:Type}{a b c d e x:α}{i:Nat}(h:[a,b,c,d,e][i]? = some x):(i=0∧x=a)∨(i=1∧x=b)∨(i=2∧x=c)∨(i=3∧x=d)∨(i=4∧x=e):=by
 match i with
 | 0=>simp at h;exact .inl ⟨rfl,h.symm⟩
 | 1=>simp at h;exact .inr (.inl ⟨rfl,h.symm⟩)
 | 2=>simp at h;exact .inr (.inr (.inl ⟨rfl,h.symm⟩))
 | 3=>simp at h;exact .inr (.inr (.inr (.inl ⟨rfl,h.symm⟩)))
 | 4=>simp at h;exact .inr (.inr (.inr (.inr ⟨rfl,h.symm⟩)))
 | i+5=>simp at h
section
variable {dl:Int} {sk dc:Lqq} {v1 v2:Value} {mb:Nat} {es:List (Value × PV)} {x:List Int} {C C' C3:Cx} {w W W3 W4:World}

theorem sN{i:Nat}{o:AO}(h:(xD dl v1 v2 mb es)[i]? = some (some o))(hl:o.live=true):i=0∨i=1∨i=2:=by
 rcases at4 h with ⟨rfl,_⟩ | ⟨rfl,_⟩ | ⟨rfl,_⟩ | ⟨rfl,e⟩
 ·exact .inl rfl
 ·exact .inr (.inl rfl)
 ·exact .inr (.inr rfl)
 ·cases e;cases hl
theorem fC(i:Nat)(h:i<4):∃ o,(lX dl sk dc)[i]? = some (some o)∧o.live=true:=by
 match i,h with
 | 0,_=>exact ⟨_,rfl,rfl⟩
 | 1,_=>exact ⟨_,rfl,rfl⟩
 | 2,_=>exact ⟨_,rfl,rfl⟩
 | 3,_=>exact ⟨_,rfl,rfl⟩
theorem bIg:aIc (lX dl sk dc) (xD dl v1 v2 mb es):=⟨fun i es cl h=>(by
 rcases at4 h with ⟨rfl,e⟩ | ⟨rfl,e⟩ | ⟨rfl,e⟩ | ⟨rfl,e⟩
 ·cases e
 ·cases e
 ·exact ⟨_,rfl,rfl⟩
 ·cases e),fun i o h=>by
 rcases at4 h with ⟨rfl,e⟩ | ⟨rfl,e⟩ | ⟨rfl,e⟩ | ⟨rfl,e⟩ <;> cases e <;> rfl⟩

structure aLv (dl:Int) (sk dc:Lqq) (v1 v2:Value) (C:Cx) (w:World) (mb:Nat) (q:Lqq) (W:World) (C':Cx) (es:Array MapEntry) (cl:Nat) (L:List Ent):Prop where
 inv:aDr Tp C (lX dl sk dc) w C' (xD dl v1 v2 mb (atF q)) W
 ok:lY mb es L
 ls:L.map (fun e=>(e.k,e.l))=q.foldl jK []
 born:∀ y∈es.toList,y.born<cl
 has:∀ p∈iO mb es cl L,W.heap[p.1]? = some p.2∧¬ C'.F p.1∧(p.1=mb∨w.heap.size≤p.1)

theorem aLv.own{q:Lqq}{W':World}{ea:Array MapEntry}{cl:Nat}{L:List Ent}{row:Option Nat}(hM0:aU Tp C (lX dl sk dc) w)(hmb:C.ι 3=some mb)(h:aLv dl sk dc v1 v2 C w mb q W C' ea cl L)(hg:W.grownBy W' row)
  (hr:∀ r,row=some r→w.heap.size≤r∧∃ o:Obj,W.heap[r]? = some o∧o.isCells=false):aLv dl sk dc v1 v2 C w mb q W' C' ea cl L:=by
 refine ⟨aDr.own bIg hM0 h.inv hg hr,h.ok,h.ls,h.born,fun p hp => ?_⟩
 obtain ⟨h1,h2,h3⟩:=h.has p hp;refine ⟨(hg.block p.1 (cK h1) fun e => ?_).trans h1,h2,h3⟩
 obtain ⟨q1,o,q2,q3⟩:=hr _ e.symm
 rcases dL.1 hp with rfl | ⟨y,_,rfl⟩
 ·have:=hM0.lt 3 _ mb rfl rfl hmb
  dsimp only at q1
  omega
 ·rw [q2] at h1
  cases h1;cases q3

theorem aUa{b:Nat}{X:Nat→Prop}{es':List (Value × PV)}(hM0:aU Tp C (lX dl sk dc) w)(hmb:C.ι 3=some mb)(hI:aDr Tp C (lX dl sk dc) w C' (xD dl v1 v2 mb es) W)(hb:w.heap.size≤b)(hbs:lW W b)(hes:xC es')
  (hM3:aU Tp C3 (iF dl v1 v2 mb es' x) W3) (f:Fr ((C'.grow 4 b 1).with []) (iF dl v1 v2 mb es x) W C3 (iF dl v1 v2 mb es' x) W3)
  (hsz:W3.heap.size≤W4.heap.size) (ho:W4.os=W3.os) (ht:W4.tape=W3.tape) (hu:W4.output=W3.output)
  (hX:∀ c,X c→¬ C.F c∧(c=mb∨w.heap.size≤c)∧c<W.heap.size∧c≠b∧(lW W c∨c<w.heap.size)) (hk:∀ c,c<W3.heap.size→¬ X c→W4.heap[c]? = W3.heap[c]?) :
  ∃ C4,aDr Tp C (lX dl sk dc) w C4 (xD dl v1 v2 mb es') W4∧KeepsFrom w.heap.size W W4∧KpG C.F W W4:=by
 obtain ⟨hFI,hM,fI⟩:=hI;have gι:∀ i,i<4→(C'.grow 4 b 1).ι i=C'.ι i:=fun i hi=>by
  have:i≠4:=by omega
  simp [Cx.grow,this]
 have ιC:∀ i,i<4→C'.ι i=C.ι i:=fun i hi=>by
  obtain ⟨o,h1,_⟩:=fC (dl:=dl) (sk:=sk) (dc:=dc) i hi;exact (fI.ids i o h1).2.1
 have κC:∀ i,i<4→C'.κ i=C.κ i:=fun i hi=>by
  obtain ⟨o,h1,_⟩:=fC (dl:=dl) (sk:=sk) (dc:=dc) i hi;exact (fI.ids i o h1).2.2
 have ι3:∀ i,i<5→C3.ι i=(C'.grow 4 b 1).ι i∧C3.κ i=(C'.grow 4 b 1).κ i:=fun i hi=>by
  have:∃ o,(iF dl v1 v2 mb es x)[i]? = some (some o):=by
   match i,hi with
   | 0,_=>exact ⟨_,rfl⟩
   | 1,_=>exact ⟨_,rfl⟩
   | 2,_=>exact ⟨_,rfl⟩
   | 3,_=>exact ⟨_,rfl⟩
   | 4,_=>exact ⟨_,rfl⟩
  obtain ⟨o,h⟩:=this;exact ⟨(f.ids i o h).2.1,(f.ids i o h).2.2⟩
 have ι4:(C'.grow 4 b 1).ι 4=some b:=by simp [Cx.grow]
 have live5:∀ (i:Nat) (o:AO) (c:Nat) (es0:List (Value × PV)),(iF dl v1 v2 mb es0 x)[i]? = some (some o)→o.live=true→(C'.grow 4 b 1).ι i=some c→(∃ i,i<3∧C.ι i=some c)∨c=b:=fun i o c es0 h hl he=>by
  rcases at5' h with ⟨rfl,_⟩ | ⟨rfl,_⟩ | ⟨rfl,_⟩ | ⟨rfl,e⟩ | ⟨rfl,_⟩
  ·rw [gι 0 (by omega),ιC 0 (by omega)] at he;exact .inl ⟨0,by omega,he⟩
  ·rw [gι 1 (by omega),ιC 1 (by omega)] at he;exact .inl ⟨1,by omega,he⟩
  ·rw [gι 2 (by omega),ιC 2 (by omega)] at he;exact .inl ⟨2,by omega,he⟩
  ·cases e;cases hl
  ·rw [ι4] at he;exact .inr (Option.some.inj he).symm
 have lt3:∀ i c,i<3→C.ι i=some c→c<w.heap.size∧c≠mb:=fun i c hi hc=>by
  obtain ⟨o,h1,h2⟩:=fC (dl:=dl) (sk:=sk) (dc:=dc) i (by omega)
  refine ⟨hM0.lt i o c h1 h2 hc,fun e => ?_⟩
  subst e;have:=hM0.inj i 3 o _ c h1 h2 rfl rfl hc hmb;omega
 have Xn3:∀ c,X c→∀ i,i<3→C.ι i≠some c:=fun c hc i hi he=>by
  obtain ⟨h1,h2⟩:=lt3 i c hi he
  rcases (hX c hc).2.1 with h3 | h3
  ·exact h2 h3
  ·omega
 have far:∀ c,c<W.heap.size→c≠b→(∀ i,i<3→C.ι i≠some c)→¬ X c→W4.heap[c]? = W.heap[c]? := fun c hc hcb hn hx=>by
  refine (hk c (kQ8 hc f.size) hx).trans (f.keep c hc fun i o h hl he => ?_)
  rcases live5 i o c _ h hl he with ⟨j,hj,h2⟩ | h2
  ·exact hn j hj h2
  ·exact hcb h2
 have XF3:∀ c,X c→¬ C3.F c:=fun c hc hf=>by
  obtain ⟨h1,h2,h3,h4,_⟩:=hX c hc
  rcases f.F2 c hf with h | h | ⟨i,o,q1,q2,q3⟩
  ·exact h1 ((hFI c).1 h)
  ·omega
  ·rcases live5 i o c _ q1 q2 q3 with ⟨j,hj,h5⟩ | h5
   ·exact Xn3 c hc j hj h5
   ·exact h4 h5
 obtain ⟨hM4,_⟩:=aCr hM3 hsz (fun c hc=>hk c (hM3.Fs c hc) fun hx=>XF3 c hx hc) (fun i o c h hl hc=>hk c (hM3.lt i o c h hl hc) fun hx=>by
  have hi5:i<5:=(kQ3.1 h).1;rw [(ι3 i hi5).1] at hc
  rcases live5 i o c _ h hl hc with ⟨j,hj,h5⟩ | h5
  ·exact Xn3 c hx j hj h5
  ·exact (hX c hx).2.2.2.1 h5)
 have hM5:aU Tp C3 (xD dl v1 v2 mb es') W4:=bNi hM4 (fun i o h=>by
   have hi:i<4:=(kQ3.1 h).1
   match i,hi with
   | 0,_=>exact h
   | 1,_=>exact h
   | 2,_=>exact h
   | 3,_=>exact h) (fun i ty cs h y hy u hu=>by
   rcases at4 h with ⟨rfl,e⟩ | ⟨rfl,e⟩ | ⟨rfl,e⟩ | ⟨rfl,e⟩
   ·cases e
    rw [List.mem_singleton.1 hy] at hu ⊢
    exact aLx (M:=iF dl v1 v2 mb es' x) rfl hu
   ·cases e
    simp only [kM,List.not_mem_nil,or_false] at hy
    rcases hy with rfl | rfl | rfl | rfl | rfl
    ·exact sO hu
    ·exact sO hu
    ·exact sO hu
    ·exact aQu (M:=iF dl v1 v2 mb es' x) rfl hu
    ·exact sO hu
   ·cases e
   ·cases e)
 have lt4:∀ i (c:Nat),i<4→C3.ι i=some c→C.ι i=some c:=fun i c hi hc=>by rw [(ι3 i (by omega)).1,gι i hi,ιC i hi] at hc;exact hc
 have hM6:aU Tp ⟨C3.ι,C3.κ,C.F,[]⟩ (xD dl v1 v2 mb es') W4:=by
  refine ⟨fun i ty n cs h => ?_,fun i ty cs h => ?_,fun i es0 cl h => ?_,hM5.inj,fun i o c h hl hc => ?_,fun c hc=>kQ8 (hM0.Fs c hc) (gO fI.size (gO f.size hsz)),hM5.lt⟩
  ·rcases at4 h with ⟨rfl,e⟩ | ⟨rfl,e⟩ | ⟨rfl,e⟩ | ⟨rfl,e⟩ <;> cases e
  ·obtain ⟨b',arr,q0,q1,q2,q3,q4⟩:=hM5.box _ _ _ h
   refine ⟨b',arr,q0,q1,q2,fun j hj => ?_,q4⟩
   have hq:=q3 j hj;have hp:∀ (y:PV) (u:Value),ffP y=true→Rep C3 (xD dl v1 v2 mb es') W4 (.p y) u→Rep ⟨C3.ι,C3.κ,C.F,[]⟩ (xD dl v1 v2 mb es') W4 (.p y) u:=fun y u hy hu=>by
    cases hu with
    | p _ _ h=>exact .p _ _ (h.anyF hy)
   rcases at4 h with ⟨rfl,e⟩ | ⟨rfl,e⟩ | ⟨rfl,e⟩ | ⟨rfl,e⟩
   ·cases e
    have:j=0:=by simp at hj;exact hj
    subst this;simp only [List.getElem_cons_zero] at hq ⊢
    cases hq with
    | ptr _ _ _ h0 ha h hp=>exact .ptr _ _ _ h0 ha h hp
   ·cases e
    match j,hj with
    | 0,_=>exact hp _ _ rfl hq
    | 1,_=>exact hp _ _ rfl hq
    | 2,_=>exact hp _ _ rfl hq
    | 3,_ =>
     simp only [List.getElem_cons_succ,List.getElem_cons_zero] at hq ⊢
     cases hq with
     | mp _ _ h0 ha h=>exact .mp _ _ h0 ha h
    | 4,_=>exact hp _ _ rfl hq
   ·cases e
   ·cases e
  ·obtain ⟨b',arr,q0,q1,q2,q3⟩:=hM5.mp _ _ _ h
   refine ⟨b',arr,q0,q1,q2,fun j hj => ?_⟩
   obtain ⟨en,r1,r2,r3,r4⟩:=q3 j hj;have hff:ffP es0[j].2=true:=by
    rcases at4 h with ⟨rfl,e⟩ | ⟨rfl,e⟩ | ⟨rfl,e⟩ | ⟨rfl,e⟩
    ·cases e
    ·cases e
    ·cases e;exact hes.nm _ (fV hj)
    ·cases e
   exact ⟨en,r1,r2,r3,r4.anyF hff⟩
  ·have hi:=sN h hl
   obtain ⟨o2,h1,h2⟩:=fC (dl:=dl) (sk:=sk) (dc:=dc) i (by omega)
   exact hM0.nF i o2 c h1 h2 (lt4 i c (by omega) hc)
 refine ⟨⟨C3.ι,C3.κ,C.F,[]⟩,⟨fun c=>Iff.rfl,hM6,⟨ho.trans (f.os.trans fI.os),ht.trans (f.tape.trans fI.tape),hu.trans (f.out.trans fI.out),gO fI.size (gO f.size hsz),fun c hc hno => ?_,fun i o h => ?_,fun i o h ty n cs hm => ?_,fun i o h o' hm hl => ?_,fun i o c hm hl hc => ?_,fun c hc=>hc,fun c hc => .inl hc⟩⟩,⟨gO f.size hsz,fun c o hc ho1 hnc => ?_⟩,⟨gO f.size hsz,fun c hc => ?_⟩⟩
 ·have hn3:∀ i,i<3→C.ι i≠some c:=fun i hi=>by
   obtain ⟨o,h1,h2⟩:=fC (dl:=dl) (sk:=sk) (dc:=dc) i (by omega)
   exact hno i o h1 h2
  have hcm:c≠mb:=fun e=>hno 3 _ rfl rfl (e ▸ hmb)
  refine (far c (kQ8 hc fI.size) (by omega) hn3 fun hx => ?_).trans (fI.keep c hc hno)
  rcases (hX c hx).2.1 with h | h
  ·exact hcm h
  ·omega
 ·have hi:i<4:=(kQ3.1 h).1
  refine ⟨?_,by show C3.ι i=C.ι i;rw [(ι3 i (by omega)).1,gι i hi,ιC i hi],by
   show C3.κ i=C.κ i;rw [(ι3 i (by omega)).2,← κC i hi]
   have:i≠4:=by omega
   simp [Cx.grow,this]⟩
  match i,hi with
  | 0,_=>exact ⟨_,rfl⟩
  | 1,_=>exact ⟨_,rfl⟩
  | 2,_=>exact ⟨_,rfl⟩
  | 3,_=>exact ⟨_,rfl⟩
 ·rcases at4 hm with ⟨rfl,e⟩ | ⟨rfl,e⟩ | ⟨rfl,e⟩ | ⟨rfl,e⟩ <;> cases e
 ·have hi:i<4:=(kQ3.1 h).1
  obtain ⟨o2,h1,h2⟩:=fC (dl:=dl) (sk:=sk) (dc:=dc) i hi;rw [h] at h1;cases h1;exact h2
 ·have hi:=sN hm hl
  have hi4:i<4:=by omega
  obtain ⟨o2,h1,h2⟩:=fC (dl:=dl) (sk:=sk) (dc:=dc) i hi4;exact .inr ⟨i,o2,h1,h2,by rw [← ιC i hi4,← gι i hi4,← (ι3 i (by omega)).1];exact hc⟩
 ·refine (far c (cK ho1) (fun e => ?_) (fun i hi he => ?_) fun hx => ?_).trans ho1
  ·subst e
   obtain ⟨o2,e1,e2⟩:=hbs;rw [ho1] at e1;cases e1;rw [hnc] at e2;cases e2
  ·have:=(lt3 i c hi he).1
   omega
  ·rcases (hX c hx).2.2.2.2 with ⟨o2,h1,h2⟩ | h
   ·rw [ho1] at h1;cases h1;rw [hnc] at h2;cases h2
   ·omega
 ·refine far c (kQ8 (hM0.Fs c hc) fI.size) (fun e => ?_) (fun i hi he => ?_) fun hx=>(hX c hx).1 hc
  ·have:=hM0.Fs c hc;omega
  ·obtain ⟨o,h1,h2⟩:=fC (dl:=dl) (sk:=sk) (dc:=dc) i (by omega)
   exact hM0.nF i o c h1 h2 he hc
end
end KV
end Go.Proofs
end
section
namespace Go.Proofs
open Go.RowKit
namespace KV
open Go.ChangeMaps (setBlock)

def sU(e:Ent):Int × Lqq:=(e.k,e.l)
theorem bWm(L:List Ent)(e:Ent):(oW L e).map sU=aDp (L.map sU) e.k e.l:=by
 by_cases h:∃ y∈L,y.k=e.k
 ·obtain ⟨y,hy,he⟩:=h
  rw [rQ hy he];unfold aDp;rw [if_pos (List.any_eq_true.2 ⟨sU y,fF.2 ⟨y,hy,rfl⟩,by simpa [sU] using he⟩),tZ,tZ]
  refine aHe fun z _ => ?_
  by_cases hk:z.k=e.k
  ·simp [sU,hk]
  ·simp [sU,hk]
 ·have h':∀ y∈L,y.k≠e.k:=fun y hy he=>h ⟨y,hy,he⟩
  rw [vW h'];unfold aDp;rw [if_neg (fun ha=>by
   obtain ⟨z,hz,he⟩:=List.any_eq_true.1 ha;obtain ⟨y,hy,rfl⟩:=fF.1 hz;exact h' y hy (by simpa [sU] using he))]
  simp [sU]
theorem bNb(L:List Ent)(k:Int):oV L k=yN (L.map sU) k:=by
 unfold oV rP yN
 induction L with
 | nil=>rfl
 | cons y r ih =>
  rw [iM,List.find?_cons,List.find?_cons]
  by_cases hk:y.k=k
  ·simp [sU,hk]
  ·have h1:(y.k == k)=false:=by simpa using hk
   have h2:((sU y).1 == k)=false:=h1;rw [h1,h2];exact ih

structure bIc (x:List Int):Prop where
 len:x.length=6
 n:1≤dN x∧dN x≤9999
 ab:0≤dAb x∧dAb x≤9998
theorem bWn{q:Lqq}(hq:∀ y∈q,bIc y):∀ e∈q.foldl jK [],e.2.length≤q.length:=fun e he=>by
 have:=wX q [] [] ⟨by simp,fun e h=>(by cases h),fun x h=>(by cases h)⟩ (fun x hx=>(hq x hx).ab.1)
 rw [List.nil_append] at this
 rw [(this.mem e he).2.2];exact rF _ _

theorem ask78{dl:Int}{v1 v2:Value}{mb:Nat}{es:List (Value × PV)}{x:List Int}(hx:bIc x)(hes:xC es):gX Tp 5 (sub (cd Tryz.f82) [1,1,1,1,0,1,0,1,0,0]) ⟨fr 57 [(6,(.ptr 0 0)),(8,(.ptr 4 0))],iF dl v1 v2 mb es x⟩ .normal ⟨fr 57 [(6,(.ptr 0 0)),(8,(.ptr 4 0))],iF dl v1 v2 mb (kW es x) x⟩:=by
 obtain ⟨a,b,c,d,e,f,rfl⟩:=len6 hx.len;have hk : -1000000≤dN [a,b,c,d,e,f]∧dN [a,b,c,d,e,f]≤1000000:=by have:=hx.n;omega
 have hK:=hes.keys hk;unfold kW;cases hb:dV es (.int .i64 (dN [a,b,c,d,e,f])) with
 | true =>
  rw [if_pos rfl];exact (bNe hK hb).cast (by unfold iF;rw [bIf];rfl)
 | false =>
  rw [if_neg (by simp)]
  exact (bNf hK hb).cast (by unfold iF;rw [oS];rfl)
theorem ask8'{dl:Int}{v1 v2:Value}{mb:Nat}{es:List (Value × PV)}{x:List Int}(hx:x.length=6):gX Tp 5 (sub (cd Tryz.f82) [1,1,1,1,0,1,0,1,0,1,0]) ⟨fr 57 [(6,(.ptr 0 0)),(8,(.ptr 4 0))],iF dl v1 v2 mb es x⟩ .normal ⟨fr 57 [(6,(.ptr 0 0)),(8,(.ptr 4 0)),(39,(.p (blP (decide (dAb x > (0:Int))))))],iF dl v1 v2 mb es x⟩:=by
 obtain ⟨a,b,c,d,e,f,rfl⟩:=len6 hx;exact bNg
theorem bBu:sub (cd Tryz.f82) [1,1,1,1,0,1,0,1] = .block 1 (.seq (sub (cd Tryz.f82) [1,1,1,1,0,1,0,1,0,0]) (.seq (sub (cd Tryz.f82) [1,1,1,1,0,1,0,1,0,1,0]) (.cond (.tmp 39) (sub (cd Tryz.f82) [1,1,1,1,0,1,0,1,0,1,1,0]) .skip))):=by kernel_rfl

section
variable {dl:Int} {sk dc:Lqq} {v1 v2:Value} {mb:Nat} {C C':Cx} {w W:World}
set_option maxHeartbeats 1000000 in
theorem bId{l n b:Nat}{q:Lqq}{x:List Int}{ea:Array MapEntry}{cl:Nat}{L:List Ent}{a:Act}(hx:bIc x)(hq:∀ y∈q,bIc y)(hql:q.length≤1000)(hM0:aU Tp C (lX dl sk dc) w)(hmb:C.ι 3=some mb)(hI:aLv dl sk dc v1 v2 C w mb q W C' ea cl L)
  (hsz:a.tmps.size=57) (hdf:a.defers=[]) (h6:Rep C (lX dl sk dc) w (.ptr 0 0) (a.tmps.getD 6 undef)) (h8:a.tmps.getD 8 undef = .pointer (some ⟨b,0,none⟩)) (hbw:w.heap.size≤b) (hbx:W.heap[b]? = some (.cells (vsL x).toArray 44 (0,0)))
  (hbn:∀ es cl,W.heap[mb]? = some (.map es cl)→∀ y∈es.toList,y.val.ownBlock≠some b) :
  (sub (cd Tryz.f82) [1,1,1,1,0,1,0,1]).wpIn (Fen (some l)) n Tp (fun e _ W4=>e = .normal∧KeepsFrom w.heap.size W W4∧KpG C.F W W4∧∃ C4 ea' cl' L',aLv dl sk dc v1 v2 C w mb (q++[x]) W4 C4 ea' cl' L') a W:=by
 obtain ⟨inv,hok,hls,hborn,hhas⟩:=hI;obtain ⟨hFI,hM,fI⟩:=inv;have hAt:xC (atF q):=bIe fun y hy=>by have:=(hq y hy).n;omega
 have hmbh:=(hhas (mb,.map ea cl) (by simp [iO])).1
 have hmblt:mb<w.heap.size:=hM0.lt 3 _ mb rfl rfl hmb;have ιC:∀ i,i<4→C'.ι i=C.ι i:=fun i hi=>by
  obtain ⟨o,h1,_⟩:=fC (dl:=dl) (sk:=sk) (dc:=dc) i hi;exact (fI.ids i o h1).2.1
 have lt3:∀ i c,i<3→C.ι i=some c→c<w.heap.size∧c≠mb:=fun i c hi hc=>by
  obtain ⟨o,h1,h2⟩:=fC (dl:=dl) (sk:=sk) (dc:=dc) i (by omega)
  refine ⟨hM0.lt i o c h1 h2 hc,fun e => ?_⟩
  subst e;have:=hM0.inj i 3 o _ c h1 h2 rfl rfl hc hmb;omega
 have hbF:¬ C'.F b:=fun h=>by have:=hM0.Fs b ((hFI b).1 h);omega
 obtain ⟨hM5,hL5⟩:=aLy (b:=b) (ty:=44) (k:=4) (cs:=x.map aA) (arr:=(vsL x).toArray) hM (fun o h=>by have:=(kQ3.1 h).1;simp at this) hbx hbF (fun i o h hl he=>by
   have hi:=sN h hl;rw [ιC i (by omega)] at he
   have:=(lt3 i b (by omega) he).1
   omega) (by simp [vsL]) (fun j hj=>by
   have hj':j<x.length:=by simpa using hj
   rw [nU];have:(vsL x).toArray.getD j undef = .int .i64 x[j]:=by simp [vsL,kQ2,hj']
   rw [this];exact .v _) (fun j hj=>by
   have hj':j<x.length:=by simpa using hj
   have:(vsL x).toArray.getD j undef = .int .i64 x[j]:=by simp [vsL,kQ2,hj']
   rw [this];rfl)
 have hset:bC (xD dl v1 v2 mb (atF q)) 4 (some (.box 44 ((x.map aA).map .p)))=iF dl v1 v2 mb (atF q) x:=rfl;rw [hset] at hM5 hL5
 have h6':Rep (C'.grow 4 b 1) (iF dl v1 v2 mb (atF q) x) W (.ptr 0 0) (a.tmps.getD 6 undef):=(h6.mono (hM0.le fI)).mono hL5;have hSl:eT (C'.grow 4 b 1) (iF dl v1 v2 mb (atF q) x) W (fr 57 [(6,(.ptr 0 0)),(8,(.ptr 4 0))]) a.tmps:=by
  have s0:eT (C'.grow 4 b 1) (iF dl v1 v2 mb (atF q) x) W (List.replicate 57 .any) a.tmps:=⟨by simpa using hsz,fun j hj=>by rw [List.getElem_replicate];exact .any _⟩
  have set1:∀ (t:List AV) (i:Nat) (y:AV),eT (C'.grow 4 b 1) (iF dl v1 v2 mb (atF q) x) W t a.tmps→Rep (C'.grow 4 b 1) (iF dl v1 v2 mb (atF q) x) W y (a.tmps.getD i undef)→eT (C'.grow 4 b 1) (iF dl v1 v2 mb (atF q) x) W (t.set i y) a.tmps:=fun t i y ht hy=>by
   refine ⟨by simpa using ht.size,fun j hj => ?_⟩
   rw [wS]
   split
   ·rename_i e;subst e;exact hy
   ·exact ht.rep j (by simpa using hj)
  have h8':Rep (C'.grow 4 b 1) (iF dl v1 v2 mb (atF q) x) W (.ptr 4 0) (a.tmps.getD 8 undef):=by
   rw [h8];exact .ptr 4 0 _ rfl ⟨_,rfl⟩ (fun o ho hl=>⟨b,rfl,by simp [Cx.grow]⟩) ⟨b,rfl⟩
  exact set1 _ 8 _ (set1 _ 6 _ s0 h6') h8'
 have hs:Sim Tp ((C'.grow 4 b 1).with []) (iF dl v1 v2 mb (atF q) x) W ⟨fr 57 [(6,(.ptr 0 0)),(8,(.ptr 4 0))],iF dl v1 v2 mb (atF q) x⟩ a W :=
  ⟨C'.grow 4 b 1,hSl,hM5,(Fr.refl _ _ _).based [],by rw [hdf];exact .nil rfl (fun i o h=>by rcases at5' h with ⟨rfl,e⟩ | ⟨rfl,e⟩ | ⟨rfl,e⟩ | ⟨rfl,e⟩ | ⟨rfl,e⟩ <;> cases e <;> rfl)⟩
 rw [bBu];refine wpIn_block (wpIn_seq (wpIn_mono (ask78 (dl:=dl) (v1:=v1) (v2:=v2) (mb:=mb) hx hAt _ _ _ _ _ (by simp) hs (some l) n) ?_))
 rintro e a7 W7 ⟨rfl,hs7⟩;refine wpIn_seq (wpIn_mono (ask8' (dl:=dl) (v1:=v1) (v2:=v2) (mb:=mb) hx.len _ _ _ _ _ (by simp) hs7 (some l) n) ?_)
 rintro e a8 W3 ⟨rfl,hs8⟩;have v39:a8.eval (.tmp 39) = .bool (decide (dAb x > 0)):=hs8.slot rfl;have hsz8:a8.tmps.size=57:=hs8.size;obtain ⟨C3,hS3,hM3,f3,_⟩:=hs8;have hblkL:∀ p∈iO mb ea cl L,p.1≠b∧p.1<W.heap.size∧(∀ i,i<3→C.ι i≠some p.1):=fun p hp=>by
  obtain ⟨q1,q2,q3⟩:=hhas p hp;refine ⟨?_,cK q1,fun i hi he => ?_⟩
  ·rcases dL.1 hp with rfl | ⟨y,hy,rfl⟩
   ·intro e;simp only at e;omega
   ·intro e
    obtain ⟨z,hz,_,z2⟩:=hok.e2 y hy;exact hbn ea cl hmbh z hz (by rw [z2,← e];rfl)
  ·obtain ⟨h1,h2⟩:=lt3 i _ hi he
   rcases q3 with h | h
   ·exact h2 h
   ·omega
 have gι:∀ i,i<4→(C'.grow 4 b 1).ι i=C'.ι i:=fun i hi=>by
  have:i≠4:=by omega
  simp [Cx.grow,this]
 have hR3:∀ p∈iO mb ea cl L,W3.heap[p.1]? = some p.2:=fun p hp=>by
  obtain ⟨h1,h2,h3⟩:=hblkL p hp;refine (f3.keep p.1 h2 fun i o h hl he => ?_).trans (hhas p hp).1
  change (C'.grow 4 b 1).ι i=some p.1 at he
  rcases at5' h with ⟨rfl,_⟩ | ⟨rfl,_⟩ | ⟨rfl,_⟩ | ⟨rfl,e⟩ | ⟨rfl,_⟩
  ·rw [gι 0 (by omega),ιC 0 (by omega)] at he;exact h3 0 (by omega) he
  ·rw [gι 1 (by omega),ιC 1 (by omega)] at he;exact h3 1 (by omega) he
  ·rw [gι 2 (by omega),ιC 2 (by omega)] at he;exact h3 2 (by omega) he
  ·cases e;cases hl
  ·simp [Cx.grow] at he;exact h1 he.symm
 have hAt':xC (kW (atF q) x):=hAt.step (by have:=hx.n;omega)
 have hSol:lW W b:=fN hbx;refine wpIn_cond_split v39 (fun ht => ?_) fun hf => ?_
 ·-- it is about another one
  have hpos:0<dAb x:=of_decide_eq_true ht;obtain ⟨b6,a6,r0,r1,r2,r3,_⟩:=hM3.box 0 _ _ rfl;have r3:=r3 0 (by simp)
  simp only [List.getElem_cons_zero] at r3
  have u6:∃ bd,a6.getD 0 undef = .pointer (some ⟨bd,0,none⟩)∧C3.ι 1=some bd:=by
   generalize a6.getD 0 undef=u at r3
   cases r3 with
   | ptr _ _ _ h0 ha h hp=>exact h _ rfl rfl
  obtain ⟨bd,ud,ιd⟩:=u6;obtain ⟨bd',ad,s0,s1,s2,s3,_⟩:=hM3.box 1 _ _ rfl;rw [ιd] at s0;cases s0
  have s3:=s3 4 (by simp)
  simp only [List.getElem_cons_succ,List.getElem_cons_zero] at s3
  have udm:ad.getD 4 undef = .map (some mb):=by
   generalize ad.getD 4 undef=u at s3
   cases s3 with
   | p _ _ h=>cases h;rfl
  obtain ⟨b8,a8',t0,t1,t2,t3,_⟩:=hM3.box 4 _ _ rfl;have ι4:C3.ι 4=some b:=by rw [(f3.ids 4 _ rfl).2.1];simp [Cx.with,Cx.grow]
  rw [ι4] at t0;cases t0
  have ha8:a8'=(vsL x).toArray:=by
   apply Array.ext
   ·rw [t2];simp [vsL]
   ·intro j h1 h2
    have hj:j<x.length:=by rw [t2] at h1;simpa using h1
    have:=t3 j (by simpa using hj)
    rw [nU,nU] at this
    have hu:a8'.getD j undef = .int .i64 x[j]:=by
     generalize a8'.getD j undef=u at this
     cases this with
     | p _ _ h=>cases h;rfl
    simp only [kQ2,qK h1,Option.getD_some] at hu
    rw [hu];simp [vsL]
  subst ha8;have w6:a8.tmps.getD 6 undef = .pointer (some ⟨b6,0,none⟩):=by
   have:=hS3.at (i:=6) (x := .ptr 0 0) rfl
   generalize a8.tmps.getD 6 undef=u at this
   cases this with
   | ptr _ _ _ h0 ha h hp =>
    obtain ⟨b',h1,h2⟩:=h _ rfl rfl;rw [r0] at h2;cases h2
    exact h1
  have w8:a8.tmps.getD 8 undef = .pointer (some ⟨b,0,none⟩):=by
   have:=hS3.at (i:=8) (x := .ptr 4 0) rfl
   generalize a8.tmps.getD 8 undef=u at this
   cases this with
   | ptr _ _ _ h0 ha h hp =>
    obtain ⟨b',h1,h2⟩:=h _ rfl rfl;rw [ι4] at h2;cases h2
    exact h1
  have hLl:∀ e∈L,e.l.length≤1000:=fun e he=>by
   have:sU e∈q.foldl jK []:=by rw [← hls];exact fF.2 ⟨e,he,rfl⟩
   have:=bWn hq _ this;simp only [sU] at this
   omega
  have ι0:C.ι 0=some b6:=by
   have:=(f3.ids 0 _ rfl).2.1;rw [r0] at this
   rw [← ιC 0 (by omega),← gι 0 (by omega)]
   exact this.symm
  have ι1:C.ι 1=some bd:=by
   have:=(f3.ids 1 _ rfl).2.1;rw [ιd] at this
   rw [← ιC 1 (by omega),← gι 1 (by omega)]
   exact this.symm
  refine wpIn_mono (ask9 (F:=Fen (some l)) (n:=n) (fun _=>trivial) hx.len hsz8 w6 w8 r1 ⟨by rw [r2];simp,ud⟩ s1 ⟨by rw [s2];simp,udm⟩ t1 hok hR3 hLl (fun p hp => ?_) ?_) ?_
  ·obtain ⟨h1,_,h3⟩:=hblkL p hp
   exact ⟨fun e=>h3 0 (by omega) (e ▸ ι0),fun e=>h3 1 (by omega) (e ▸ ι1),h1⟩
  ·have:aKa .i64 (.int .i64 (dAb x))=true:=oA (by have:=hx.ab;omega)
   simp only [aKa,kQ6] at this
   exact this.2
  ·rintro e a9 W4 ⟨rfl,ea',cl',e,A⟩
   obtain ⟨C4,hI4,hK4,hG4⟩:=aUa (x:=x) (X:=fun c=>∃ p∈iO mb ea cl L,p.1=c) (es':=kW (atF q) x) hM0 hmb ⟨hFI,hM,fI⟩ hbw hSol hAt' hM3 f3 A.size A.os A.tape A.out (fun c hc=>by
    obtain ⟨p,hp,rfl⟩:=hc;obtain ⟨h1,h2,h3⟩:=hblkL p hp;obtain ⟨g1,g2,g3⟩:=hhas p hp;refine ⟨fun h=>g2 ((hFI _).2 h),g3,h2,h1,?_⟩
    rcases dL.1 hp with rfl | ⟨y,_,rfl⟩
    ·exact .inr hmblt
    ·exact .inl (fN g1)) (fun c hc hn=>A.keep c hc fun p hp e=>hn ⟨p,hp,e⟩)
   refine ⟨rfl,hK4,hG4,C4,ea',cl',oW L e,by rw [aLu];exact hI4,A.ok,?_,A.born hborn,fun p hp => ?_⟩
   ·show (oW L e).map sU=_
    rw [bWm,A.ky,A.li,bNb,aHg];change aDp (L.map sU) _ _=jK (q.foldl jK []) x;have:L.map sU=q.foldl jK []:=hls;rw [this];unfold jK;rw [if_pos hpos]
   ·obtain ⟨h1,h2⟩:=A.has p hp
    refine ⟨h1,fun h => ?_,?_⟩
    ·have hF:=(hI4.1 _).1 h
     rcases h2 with ⟨p0,hp0,h3⟩ | h3
     ·rw [← h3] at hF
      exact (hhas p0 hp0).2.1 ((hFI _).2 hF)
     ·have:=hM0.Fs _ hF
      have:=fI.size;have:=f3.size;omega
    ·rcases h2 with ⟨p0,hp0,h3⟩ | h3
     ·rw [← h3];exact (hhas p0 hp0).2.2
     ·right
      have:=fI.size;have:=f3.size;omega
 ·-- it is about none
  have hpos:¬ 0<dAb x:=of_decide_eq_false hf;obtain ⟨C4,hI4,hK4,hG4⟩:=aUa (x:=x) (X:=fun _=>False) (W4:=W3) (es':=kW (atF q) x) hM0 hmb ⟨hFI,hM,fI⟩ hbw hSol hAt' hM3 f3 (eG _) rfl rfl rfl (fun c hc=>hc.elim) (fun c _ _=>rfl)
  refine wpIn_skip ⟨rfl,hK4,hG4,C4,ea,cl,L,by rw [aLu];exact hI4,hok,?_,hborn,fun p hp=>⟨hR3 p hp,fun h=>(hhas p hp).2.1 ((hFI _).2 ((hI4.1 _).1 h)),(hhas p hp).2.2⟩⟩
  rw [aHg,hls];change _=jK (q.foldl jK []) x;unfold jK;rw [if_neg hpos]
end
end KV
end Go.Proofs
end
