/- Parts of the proof of JOutcomes: laws of walks, contracts of functions, plain models. No condition. -/
import Derived.Maps.Keyed
import Derived.Maps.AppendAt
import Derived.OrdersHeld
import Derived.Great.BuildSlice
import Derived.Lib.Small
import Derived.Below
import Derived.RangeFuncNested
import Derived.RangeFuncLeaves
import Derived.Shelf.Abstract
import Derived.OwnWalkIn
import Derived.TacticsInMore
import Derived.LoopNIn
import Derived.LoopIn
import Derived.OrdersIn
import Derived.Deep.WholeRow
import Derived.Test.YtgejpbmanhlkcaaGreatPJOutcomesB
set_option linter.unusedVariables false
set_option linter.unusedSimpArgs false
set_option maxRecDepth 100000
namespace Go.Proofs
namespace KV
open Tryz
section
variable {Aa Ab Ac Ad Ae Af H7 Eu Gi Gj Gk Gl:Int}{a b l:Lqq}{i i' Bm base:Nat}

noncomputable abbrev aKl:Code:=sub (cd Tryz.f99) [1,1,0,1,0,0]
noncomputable abbrev aKm:Code:=sub (cd Tryz.f100) [1,1,0,1,0,0]
theorem uE{k:Nat}{l:Lqq}(hu:uni k l):(l.flatten.map aB).length=l.length*k:=by rw [Co,pO hu]
theorem cGj(h0:(l.flatten.map aB).length=l.length*2∧l.length≤1000000):FV Tp 89 [(.p (fS l))] base (.own base) [(base,(.row 31 l.length (l.flatten.map aB)))]:=FV.fi func89 [] (gc h0 gn)
theorem cGk(l:Lqq)(hu:uni 2 l)(hl:l.length≤1000){base:Nat}:FV Tp 89 [.p (fS l)] base (.own base) [(base,.row 31 l.length (l.flatten.map aB))]:=cGj ⟨uE hu,by omega⟩
theorem cGl(h0:(l.flatten.map aB).length=l.length*6∧l.length≤1000000):FV Tp 90 [(.p (fS l))] base (.own base) [(base,(.row 44 l.length (l.flatten.map aB)))]:=FV.fi func90 [] (gc h0 gn)
theorem cGm(l:Lqq)(hu:uni 6 l)(hl:l.length≤1000){base:Nat}:FV Tp 90 [.p (fS l)] base (.own base) [(base,.row 44 l.length (l.flatten.map aB))]:=cGl ⟨uE hu,by omega⟩
def lX(a b:Lqq)(i:Nat):St:=⟨fr 26 [(0,(.p (fS a))),(1,(.p (fS b))),(12,(pI (a.length:Int))),(13,(pI (i:Int)))],[]⟩
theorem cGn(h0:(a.length:Int)≠(b.length:Int)):FV Tp 99 [(.p (fS a)),(.p (fS b))] base (pB false) []:=FV.fi func99 [bT] (gc (fH h0) gn)
theorem cGo(h0:(a.length:Int)=(b.length:Int))(hl1:aD Tp 0 aKl (lX a b 0) (.exit 0) (lX a b Bm)):FV Tp 99 [(.p (fS a)),(.p (fS b))] base (pB true) []:=FV.fi func99 [bF,hl1.k 4 (gZ g7)] (gc hl1.code (gc (bG h0) gn))
theorem cGp(h0:(a.length:Int)=(b.length:Int))(hl1:aD Tp 0 aKl (lX a b 0) .ret (bQ (lX a b Bm) [(4,(.kb false))])):FV Tp 99 [(.p (fS a)),(.p (fS b))] base (pB false) []:=FV.fi func99 [bF,hl1.k 4 (gZ g7)] (gc hl1.code (gc (bG h0) gn))
section
variable(h0:(i:Int)<(a.length:Int))(h1:a[i]? = some [Aa,Ab])(h2:uni 2 a)(h3:b[i]? = some [Ac,Ad])(h4:uni 2 b)(h5:cW [(aB Aa),(aB Ab)] [(0,3,true),(1,3,true)]=true∧cW [(aB Ac),(aB Ad)] [(0,3,true),(1,3,true)]=true)
include h0 h1 h2 h3 h4 h5
theorem bJr(h6:(iV [(aB Aa),(aB Ab)] [(aB Ac),(aB Ad)] [(0,3,true),(1,3,true)])=false):aC Tp 0 aKl (lX a b i) .ret (bQ (lX a b i) [(4,(.kb false))]):=aC.fi (gZ ew) [bT,.x (.agg [(aB Aa),(aB Ab)]),.x (.agg [(aB Ac),(aB Ad)]),bT] (gc (bN h6) (gc h5 (gfl h4 h3 (gfl h2 h1 (g0 h0)))))
theorem bJs(h6:(iV [(aB Aa),(aB Ab)] [(aB Ac),(aB Ad)] [(0,3,true),(1,3,true)])=true)(h7:gk i)(Ai:i'=(i+1)):aC Tp 0 aKl (lX a b i) .normal (lX a b i'):=by
 subst Ai;exact aC.fi (gZ g7) [bT,.x (.agg [(aB Aa),(aB Ab)]),.x (.agg [(aB Ac),(aB Ad)]),bF] (gc h7 (gc (aR h6) (gc h5 (gfl h4 h3 (gfl h2 h1 (g0 h0))))))
end
theorem bJt(h0:(a.length:Int)≤(i:Int)):aC Tp 0 aKl (lX a b i) (.exit 0) (lX a b i):=aC.fi (gZ g7) [bF] (gc (aK h0) gn)
theorem bSa(a b:Lqq)(ha:uni 2 a)(hb:uni 2 b)(hl:a.length≤1000){base:Nat}:FV Tp 99 [.p (fS a),.p (fS b)] base (pB (decide (a=b))) []:=by
 by_cases hlen:a.length=b.length
 ·have eqx:∀ i,i<a.length→∃ x y,a[i]? = some x∧b[i]? = some y∧x.length=2∧y.length=2:=fun i hi =>
   ⟨a[i],b[i],Ay hi,Ay (by omega),ha _ (fP hi),hb _ (fP (by omega))⟩
  rcases aD.find (P:=Tp) (k:=0) (b:=aKl) (fun i=>lX a b i) (fun i _=>bQ (lX a b i) [(4,.kb false)]) (lX a b a.length) .ret (.exit 0) (by simp) (by simp) (fun j=>decide (a.getD j []≠b.getD j [])) (List.range a.length)
   (fun i x hx hp=>by
    have hi:i<a.length:=by have:=aM hx;simpa using this
    obtain ⟨y,z,hy,hz,ly,lz⟩:=eqx i hi;obtain ⟨a,b,rfl⟩:=len2 ly;obtain ⟨a',b',rfl⟩:=len2 lz;have hxi:x=i:=by rw [mO hi] at hx;exact (Option.some.inj hx).symm
    subst hxi;have he:=of_decide_eq_false hp;simp only [B5,hy,hz,Option.getD_some,ne_eq,Classical.not_not] at he
    cases he;exact bJs (by omega) hy ha hz hb ⟨rfl,rfl⟩ (by simp [iV,tP]) (aI (by omega)) rfl)
   (fun i x hx hp=>by
    have hi:i<a.length:=by have:=aM hx;simpa using this
    obtain ⟨y,z,hy,hz,ly,lz⟩:=eqx i hi;obtain ⟨a,b,rfl⟩:=len2 ly;obtain ⟨a',b',rfl⟩:=len2 lz;have hxi:x=i:=by rw [mO hi] at hx;exact (Option.some.inj hx).symm
    subst hxi;have he:=of_decide_eq_true hp;simp only [B5,hy,hz,Option.getD_some] at he
    exact bJr (by omega) hy ha hz hb ⟨rfl,rfl⟩ (by
     rw [Bool.eq_false_iff];intro h;simp [iV,tP] at h
     exact he (by simp [h])))
   (by rw [aFs];exact bJt (by omega)) with ⟨i,x,h1,h2,h3,h4⟩ | ⟨h1,h2,h3⟩
  ·have hi:i<a.length:=by have:=aM h1;simpa using this
   have hxi:x=i:=by rw [mO hi] at h1;exact (Option.some.inj h1).symm
   have he:=of_decide_eq_true h3;rw [decide_eq_false (fun e=>he (by rw [e]))]
   exact cGp (by omega) h4
  ·have hall:∀ i,i<a.length→a.getD i []=b.getD i []:=fun i hi=>by
    have:=List.any_eq_false.1 h2 i (iN.2 hi);simpa using this
   have e:a=b:=by
    apply List.ext_getElem hlen;intro i h1 h2;have:=hall i h1;simpa [B5,Ay h1,Ay h2] using this
   rw [decide_eq_true e];exact cGo (by omega) h3
 ·rw [decide_eq_false (fun e=>hlen (by rw [e]))]
  exact cGn (by omega)
def lY(a b:Lqq)(i:Nat):St:=⟨fr 26 [(0,(.p (fS a))),(1,(.p (fS b))),(12,(pI (a.length:Int))),(13,(pI (i:Int)))],[]⟩
theorem cGq(h0:(a.length:Int)≠(b.length:Int)):FV Tp 100 [(.p (fS a)),(.p (fS b))] base (pB false) []:=FV.fi func100 [bT] (gc (fH h0) gn)
theorem cGr(h0:(a.length:Int)=(b.length:Int))(hl1:aD Tp 0 aKm (lY a b 0) (.exit 0) (lY a b Bm)):FV Tp 100 [(.p (fS a)),(.p (fS b))] base (pB true) []:=FV.fi func100 [bF,hl1.k 4 (gZ g7)] (gc hl1.code (gc (bG h0) gn))
theorem cGs(h0:(a.length:Int)=(b.length:Int))(hl1:aD Tp 0 aKm (lY a b 0) .ret (bQ (lY a b Bm) [(4,(.kb false))])):FV Tp 100 [(.p (fS a)),(.p (fS b))] base (pB false) []:=FV.fi func100 [bF,hl1.k 4 (gZ g7)] (gc hl1.code (gc (bG h0) gn))
section
variable(h0:(i:Int)<(a.length:Int))(h1:a[i]? = some [Aa,Ab,Ac,Ad,Ae,Af])(h2:uni 6 a)(h3:b[i]? = some [H7,Eu,Gi,Gj,Gk,Gl])(h4:uni 6 b)(h5:cW [(aB Aa),(aB Ab),(aB Ac),(aB Ad),(aB Ae),(aB Af)] [(0,3,true),(1,42,true),(2,3,true),(3,3,true),(4,3,true),(5,3,true)]=true∧cW [(aB H7),(aB Eu),(aB Gi),(aB Gj),(aB Gk),(aB Gl)] [(0,3,true),(1,42,true),(2,3,true),(3,3,true),(4,3,true),(5,3,true)]=true)
include h0 h1 h2 h3 h4 h5
theorem bJu(h6:(iV [(aB Aa),(aB Ab),(aB Ac),(aB Ad),(aB Ae),(aB Af)] [(aB H7),(aB Eu),(aB Gi),(aB Gj),(aB Gk),(aB Gl)] [(0,3,true),(1,42,true),(2,3,true),(3,3,true),(4,3,true),(5,3,true)])=false):aC Tp 0 aKm (lY a b i) .ret (bQ (lY a b i) [(4,(.kb false))]):=aC.fi (gZ ew) [bT,.x (dcE Aa Ab Ac Ad Ae Af),.x (dcE H7 Eu Gi Gj Gk Gl),bT] (gc (bN h6) (gc h5 (gfl h4 h3 (gfl h2 h1 (g0 h0)))))
theorem bJv(h6:(iV [(aB Aa),(aB Ab),(aB Ac),(aB Ad),(aB Ae),(aB Af)] [(aB H7),(aB Eu),(aB Gi),(aB Gj),(aB Gk),(aB Gl)] [(0,3,true),(1,42,true),(2,3,true),(3,3,true),(4,3,true),(5,3,true)])=true)(h7:gk i)(Ai:i'=(i+1)):aC Tp 0 aKm (lY a b i) .normal (lY a b i'):=by
 subst Ai;exact aC.fi (gZ g7) [bT,.x (dcE Aa Ab Ac Ad Ae Af),.x (dcE H7 Eu Gi Gj Gk Gl),bF] (gc h7 (gc (aR h6) (gc h5 (gfl h4 h3 (gfl h2 h1 (g0 h0))))))
end
theorem bJw(h0:(a.length:Int)≤(i:Int)):aC Tp 0 aKm (lY a b i) (.exit 0) (lY a b i):=aC.fi (gZ g7) [bF] (gc (aK h0) gn)
theorem cGt(a b:Lqq)(ha:uni 6 a)(hb:uni 6 b)(hl:a.length≤1000){base:Nat}:FV Tp 100 [.p (fS a),.p (fS b)] base (pB (decide (a=b))) []:=by
 by_cases hlen:a.length=b.length
 ·have eqx:∀ i,i<a.length→∃ x y,a[i]? = some x∧b[i]? = some y∧x.length=6∧y.length=6:=fun i hi =>
   ⟨a[i],b[i],Ay hi,Ay (by omega),ha _ (fP hi),hb _ (fP (by omega))⟩
  rcases aD.find (P:=Tp) (k:=0) (b:=aKm) (fun i=>lY a b i) (fun i _=>bQ (lY a b i) [(4,.kb false)]) (lY a b a.length) .ret (.exit 0) (by simp) (by simp) (fun j=>decide (a.getD j []≠b.getD j [])) (List.range a.length)
   (fun i x hx hp=>by
    have hi:i<a.length:=by have:=aM hx;simpa using this
    obtain ⟨y,z,hy,hz,ly,lz⟩:=eqx i hi;obtain ⟨a,b,c,d,e,f,rfl⟩:=A7 ly;obtain ⟨a',b',c',d',e',f',rfl⟩:=A7 lz;have hxi:x=i:=by rw [mO hi] at hx;exact (Option.some.inj hx).symm
    subst hxi;have he:=of_decide_eq_false hp;simp only [B5,hy,hz,Option.getD_some,ne_eq,Classical.not_not] at he
    cases he;exact bJv (by omega) hy ha hz hb ⟨rfl,rfl⟩ (by simp [iV,tP]) (aI (by omega)) rfl)
   (fun i x hx hp=>by
    have hi:i<a.length:=by have:=aM hx;simpa using this
    obtain ⟨y,z,hy,hz,ly,lz⟩:=eqx i hi;obtain ⟨a,b,c,d,e,f,rfl⟩:=A7 ly;obtain ⟨a',b',c',d',e',f',rfl⟩:=A7 lz;have hxi:x=i:=by rw [mO hi] at hx;exact (Option.some.inj hx).symm
    subst hxi;have he:=of_decide_eq_true hp;simp only [B5,hy,hz,Option.getD_some] at he
    exact bJu (by omega) hy ha hz hb ⟨rfl,rfl⟩ (by
     rw [Bool.eq_false_iff];intro h;simp [iV,tP] at h
     exact he (by simp [h])))
   (by rw [aFs];exact bJw (by omega)) with ⟨i,x,h1,h2,h3,h4⟩ | ⟨h1,h2,h3⟩
  ·have hi:i<a.length:=by have:=aM h1;simpa using this
   have hxi:x=i:=by rw [mO hi] at h1;exact (Option.some.inj h1).symm
   have he:=of_decide_eq_true h3;rw [decide_eq_false (fun e=>he (by rw [e]))]
   exact cGs (by omega) h4
  ·have hall:∀ i,i<a.length→a.getD i []=b.getD i []:=fun i hi=>by
    have:=List.any_eq_false.1 h2 i (iN.2 hi);simpa using this
   have e:a=b:=by
    apply List.ext_getElem hlen;intro i h1 h2;have:=hall i h1;simpa [B5,Ay h1,Ay h2] using this
   rw [decide_eq_true e];exact cGr (by omega) h3
 ·rw [decide_eq_false (fun e=>hlen (by rw [e]))]
  exact cGq (by omega)
end
section
variable {dl:Int}{o q dc D1:Lqq}{i j base:Nat}
variable {dl:Int}{sk dc:Lqq}

noncomputable abbrev bBf:Code:=sub (cd Tryz.f30) [1,1,0,1,0,0]
noncomputable abbrev bBg:Code:=sub (cd Tryz.f30) [1,1,1,0,1,0,0]
theorem cGe(h0:uni 2 sk)(h1:sk.length≤1000)(h2:uni 6 dc)(h3:dc.length≤1000):FV Tp 27 [(.p (.agg (bC dl sk dc)))] base (.p (.agg (bC dl sk dc))) []:=have k1:=fk 2 (cGk sk h0 h1) rfl;have k2:=fk 10 (cGm dc h2 h3) rfl;FV.frz (FMM.fi 0 ⟨[],[],[2,10],[]⟩ func27 [k1.o,k2.o] (gc k2 (gc k1 gn))) (by kernel_rfl)
theorem cGf{r0:Int}(h0:uni 2 sk)(h1:uni 6 dc)(h2:(cY dl sk dc)≠0)(A6:r0=(cY dl sk dc)):FV Tp 45 [(.p (.agg (bC dl sk dc)))] base (.tup [(.p (.agg [(aB 0),cC,cC])),(pI r0)]) []:=by
 subst A6;have k1:=fk 2 (bSd dl sk dc h0 h1) rfl;exact FV.frz (FMM.fi 0 gE func45 [k1.o,bT] (gc (fH h2) (gc k1 gn))) (by kernel_rfl)
theorem cGg(h0:uni 2 sk)(h1:uni 6 dc)(h2:(cY dl sk dc)=0)(h3:0≤(sk.length:Int)∧(sk.length:Int)≤(sk.length:Int)∧(sk.length:Int)≤1000000)(h4:0≤(dc.length:Int)∧(dc.length:Int)≤(dc.length:Int)∧(dc.length:Int)≤1000000)(h5:(aP sk 0).Nodup)(h6:sk.length≤1000)(h7:(aP dc 0).Nodup)(h8:dc.length≤1000):FV Tp 45 [(.p (.agg (bC dl sk dc)))] base (.tup [(.p (.agg (bC dl (aA sk) (aA dc)))),(pI 0)]) []:=have k1:=fk 2 (bSd dl sk dc h0 h1) rfl;have k2:=mq [3] 7 (bJy sk h0 h5 h6);have k3:=mq [5] 7 (bJz dc h1 h7 h8);FV.frz (FMM.fi 0 ⟨[],[],[3,5],[]⟩ func45 [k1.o,bF,k2.o,k3.o] (gc k3 (gc k2 (gt ((dc.flatten.map aB).length=dc.length*6∧dc.length=dc.length) ⟨uE h1,rfl⟩ (gt ((sk.flatten.map aB).length=sk.length*2∧sk.length=sk.length) ⟨uE h0,rfl⟩ (gc h4 (gc h3 (gc (bG h2) (gc k1 gn))))))))) (by kernel_rfl)
theorem bXu(dl:Int)(sk dc:Lqq)(us:uni 2 sk)(ud:uni 6 dc)(h:cY dl sk dc≠0){base:Nat}:FV Tp 45 [.p (.agg (bC dl sk dc))] base (.tup [.p (.agg [aB 0,cC,cC]),.p (aB (cY dl sk dc))]) []:=cGf us ud h rfl
theorem cGh(dl:Int)(sk dc:Lqq)(h:bO dl sk dc){base:Nat}:FV Tp 45 [.p (.agg (bC dl sk dc))] base (.tup [.p (.agg (bC dl (aA sk) (aA dc))),.p (aB 0)]) []:=by
 have h1:=h.len;have h2:=h.len2;exact cGg h.us h.ud ((bBi h.us h.ud).2 h) (by omega) (by omega) h.ns (by omega) h.nd (by omega)
theorem vR{l:Lqq}{x:List Int}:(l.flatten.map aB)++(x.map aB)=((l++[x]).flatten.map aB):=by simp
theorem aRm{k:Nat}{l:Lqq}{x:List Int}(hu:uni k l)(hx:x.length=k):uni k (l++[x]):=fun y hy=>by
 rcases jK.1 hy with h | h
 ·exact hu y h
 ·simp at h;rw [h];exact hx
def uC(dl:Int)(sk dc:Lqq)(i on:Nat)(oc:List PV):St:=⟨fr 52 [(1,(.ptr 0 0)),(2,(.ptr 1 0)),(3,(.ptr 2 0)),(12,(.p (fS sk))),(13,(pI (sk.length:Int))),(14,(pI (i:Int)))],[some (.box 26 [(pI dl),(.p (fS sk)),(.p (fS dc))]),some (.box 61 [(pI 0),(.p cC),(.p cC)]),some (.box 61 [(pI dl),(.own 3),(.p cC)]),some (.row 73 on oc)]⟩
def uD(dl:Int)(dc D1:Lqq)(j qn:Nat)(qc:List PV):St:=⟨fr 52 [(2,(.ptr 0 0)),(3,(.ptr 1 0)),(26,(.p (fS dc))),(27,(pI (dc.length:Int))),(28,(pI (j:Int)))],[some (.box 61 [(pI 0),(.p cC),(.p cC)]),some (.box 61 [(pI dl),(.own 2),(.own 3)]),some (.row 73 D1.length (D1.flatten.map aB)),some (.row 119 qn qc)]⟩
theorem cGi{Bm Xe:Nat}{Nm:Lqq}(hl0:aD Tp 0 bBf (uC dl sk dc 0 0 []) (.exit 0) (uC dl sk dc Bm D1.length (D1.flatten.map aB)))(hl1:aD Tp 0 bBg (uD dl dc D1 0 0 []) (.exit 2) (uD dl dc D1 Xe Nm.length (Nm.flatten.map aB))):FV Tp 30 [(.p (.agg (bC dl sk dc)))] base (.p (.agg (bC dl D1 Nm))) []:=FV.frz (FMM.fi 0 ⟨[],[],[2,3],[]⟩ func30 [hl0.k 8 (gN di ge [(102001,73)]),hl1.k 4 (gN [0,2,4,22,29,22] [1,2,3,4] [(102002,119)])] (gc hl1.code (gc hl0.code gn))) (by kernel_rfl)
theorem bJn{Aa Ab:Int}{i':Nat}{o':Lqq}(h0:(i:Int)<(sk.length:Int))(h1:sk[i]? = some [Aa,Ab])(h2:uni 2 sk)(h3:[(aB Aa),(aB Ab)].length=1*2∧o.length+1≤1000000)(h4:gk i)(Ai:i'=(i+1))(Bq:o'.length=(o.length+1))(Br:o'.flatten.map aB=((o.flatten.map aB)++[(aB Aa),(aB Ab)])):aC Tp 0 bBf (uC dl sk dc i o.length (o.flatten.map aB)) .normal (uC dl sk dc i' o'.length (o'.flatten.map aB)):=by
 subst Ai;rw [Bq,Br];exact aC.fi (gI di [0,1,2,6]) [bT,.x (.agg [(aB Aa),(aB Ab)])] (gc h4 (gc h3 (gt ([(aB Aa),(aB Ab)].length=2) (by first | decide | simp) (gfl h2 h1 (g0 h0)))))
theorem bJo(h0:(sk.length:Int)≤(i:Int)):aC Tp 0 bBf (uC dl sk dc i o.length (o.flatten.map aB)) (.exit 0) (uC dl sk dc i o.length (o.flatten.map aB)):=aC.fi (gI di ge) [bF] (gc (aK h0) gn)
theorem bJp{Ap Ah An Aw Ao Al:Int}{j':Nat}{q':Lqq}(h0:(j:Int)<(dc.length:Int))(h1:dc[j]? = some [Ap,Ah,An,Aw,Ao,Al])(h2:uni 6 dc)(h3:[(aB Ap),(aB Ah),(aB An),(aB Aw),(aB Ao),(aB Al)].length=1*6∧q.length+1≤1000000)(h4:gk j)(Fl:j'=(j+1))(J5:q'.length=(q.length+1))(J6:q'.flatten.map aB=((q.flatten.map aB)++[(aB Ap),(aB Ah),(aB An),(aB Aw),(aB Ao),(aB Al)])):aC Tp 0 bBg (uD dl dc D1 j q.length (q.flatten.map aB)) .normal (uD dl dc D1 j' q'.length (q'.flatten.map aB)):=by
 subst Fl;rw [J5,J6];exact aC.fi (gI [0,2,4,22,29,22] [0,1,2,6]) [bT,.x (dcE Ap Ah An Aw Ao Al)] (gc h4 (gc h3 (gt ([(aB Ap),(aB Ah),(aB An),(aB Aw),(aB Ao),(aB Al)].length=6) (by first | decide | simp) (gfl h2 h1 (g0 h0)))))
theorem bJq(h0:(dc.length:Int)≤(j:Int)):aC Tp 0 bBg (uD dl dc D1 j q.length (q.flatten.map aB)) (.exit 2) (uD dl dc D1 j q.length (q.flatten.map aB)):=aC.fi (gI [0,2,4,22,29,22] ge) [bF] (gc (aK h0) gn)
theorem aWp(dl:Int)(sk dc:Lqq)(us:uni 2 sk)(ud:uni 6 dc)(hs:sk.length≤1000)(hd:dc.length≤1000){base:Nat}:FV Tp 30 [.p (.agg (bC dl sk dc))] base (.p (.agg (bC dl sk dc))) []:=by
 have L0:=aD.count (P:=Tp) (k:=0) (b:=bBf) (e := .exit 0) (R:=uC dl sk dc sk.length sk.length (sk.flatten.map aB)) sk.length (fun i=>uC dl sk dc i (sk.take i).length ((sk.take i).flatten.map aB))
  (fun i hi=>by
   obtain ⟨a,b,hx⟩:=at2 us hi;have et:sk.take (i+1)=sk.take i++[[a,b]]:=by rw [List.take_add_one,hx];rfl
   exact bJn (o:=sk.take i) (o':=sk.take (i+1)) (by omega) hx us ⟨rfl,by simp;omega⟩ (aI (by omega)) rfl (by simp;omega) (by rw [et];exact (vR (l:=sk.take i) (x:=[a,b])).symm))
  (by rw [List.take_length];exact bJo (by omega)) (by simp)
 have L1:=aD.count (P:=Tp) (k:=0) (b:=bBg) (e := .exit 2) (R:=uD dl dc sk dc.length dc.length (dc.flatten.map aB)) dc.length (fun i=>uD dl dc sk i (dc.take i).length ((dc.take i).flatten.map aB))
  (fun i hi=>by
   obtain ⟨a,b,c,d,e,f,hx⟩:=Td ud hi;have et:dc.take (i+1)=dc.take i++[[a,b,c,d,e,f]]:=by rw [List.take_add_one,hx];rfl
   exact bJp (q:=dc.take i) (q':=dc.take (i+1)) (by omega) hx ud ⟨rfl,by simp;omega⟩ (aI (by omega)) rfl (by simp;omega) (by rw [et];exact (vR (l:=dc.take i) (x:=[a,b,c,d,e,f])).symm))
  (by rw [List.take_length];exact bJq (by omega)) (by simp)
 exact cGi L0 L1
end
section

end
section
variable {n v Aa Ab Ac Ad Ae Af Ap Ah An Aw Ao Al Hw Pk Hy Pm En Eo G5 Pn Po Pp Hz Pq Pr Ps Pt Pu Ek Dj E3 Ev H0 H3 Ew Ep H4 H5 H6 Ey:Int}{a b c d e f i j e' f' i' j' Pv Rn Ta Vi Bm Oh base Mo Mp:Nat}
variable {dl:Int}{sk dc:Lqq}

noncomputable abbrev nI:Code:=sub (cd Tryz.f31) [1,1,1,1,0,1,0,0]
noncomputable abbrev uB:Code:=sub (cd Tryz.f31) [1,1,1,0,1,0,0]
noncomputable abbrev aCh:Code:=pS (cd Tryz.f31) 5 [0,1,0,0]
noncomputable abbrev aCi:Code:=pS (cd Tryz.f31) 7 [0,1,0,0]
noncomputable abbrev aGd:Code:=pS (cd Tryz.f31) 6 [0,1,0,0]
noncomputable abbrev aGe:Code:=pS (cd Tryz.f31) 8 [0,1,0,0]
noncomputable abbrev aKj:Code:=sub (cd Tryz.f92) [1,0,1,0,0]
noncomputable abbrev aKk:Code:=sub (cd Tryz.f101) [1,0,1,0,0]
noncomputable abbrev aRk:Code:=pS (cd Tryz.f31) 5 [0,1,0,0,1,0,0,1,0,0]
noncomputable abbrev aRl:Code:=pS (cd Tryz.f31) 6 [0,1,0,0,1,0,0,1,0,0]
theorem bXr{a b:Int}(h0:n<a):FV Tp 91 [(pI n),(pI a),(pI b)] base (pB true) []:=FV.fi func91 [bT,bT,bT,bT] (Ak (bI h0) (g0 h0))
theorem bXs{a b:Int}{r0:Bool}(h0:a≤n)(A6:r0=(decide (n > b))):FV Tp 91 [(pI n),(pI a),(pI b)] base (pB r0) []:=by
 subst A6;exact FV.fi func91 [bF,bF,bF,bF] (Au (aK h0) gn)
def eJ(n a b:Int):Bool := !within n a b
theorem bU(n a b:Int){base:Nat}:FV Tp 91 [.p (aB n),.p (aB a),.p (aB b)] base (pB (eJ n a b)) []:=by
 by_cases h:n<a
 ·rw [show eJ n a b=true by unfold eJ within;simp;omega];exact bXr h
 ·exact bXs (by omega) (by rw [Bool.eq_iff_iff];unfold eJ within;simp;omega)
abbrev ae(dl:Int)(sk dc:Lqq):Mem:=[some (.box 61 [(pI dl),(.p (fS sk)),(.p (fS dc))])]
def lV(dl:Int)(sk dc:Lqq)(v:Int)(i:Nat):St:=⟨fr 22 [(1,(pI v)),(2,(.ptr 0 0)),(5,(pI (i:Int)))],(ae dl sk dc)⟩
theorem cFp(hl0:aD Tp 0 aKj (lV dl sk dc v 0) (.exit 0) (lV dl sk dc v Bm)):FV Tp 92 [(.p (.agg (bC dl sk dc))),(pI v)] base (pI (-1)) []:=FV.fi func92 [hl0.k 6 (gI fo [0])] (gc hl0.code gn)
theorem cFq(hl0:aD Tp 0 aKj (lV dl sk dc v 0) .ret (bQ (lV dl sk dc v Bm) [(4,(pI (Bm:Int)))])):FV Tp 92 [(.p (.agg (bC dl sk dc))),(pI v)] base (pI (Bm:Int)) []:=FV.fi func92 [hl0.k 6 (gI fo [0])] (gc hl0.code gn)
section
variable(h0:(i:Int)<(sk.length:Int))(h1:sk[i]? = some [Aa,Ab])(h2:uni 2 sk)
include h0 h1 h2
theorem bHx(h3:Aa=v):aC Tp 0 aKj (lV dl sk dc v i) .ret (bQ (lV dl sk dc v i) [(4,(pI (i:Int)))]):=aC.fi (gI [0,1,3,1,6,16] [0]) [bT,.x (aB Aa),bT] (gc (bX h3) (gt ((sk.flatten.map aB)[(i*2)]? = some (aB Aa)) (bE (i:=i) (f:=0) h2 h1 rfl) (gc (gJ (k:=2) (i:=(i:Int)) (by decide) h2 (Bp _) h1) (g0 h0))))
theorem bHy(h3:Aa≠v)(h4:gk i)(Ai:i'=(i+1)):aC Tp 0 aKj (lV dl sk dc v i) .normal (lV dl sk dc v i'):=by
 subst Ai;exact aC.fi (gI fo [0]) [bT,.x (aB Aa),bF] (gc h4 (gc (aS h3) (gt ((sk.flatten.map aB)[(i*2)]? = some (aB Aa)) (bE (i:=i) (f:=0) h2 h1 rfl) (gc (gJ (k:=2) (i:=(i:Int)) (by decide) h2 (Bp _) h1) (g0 h0)))))
end
theorem bHz(h0:(sk.length:Int)≤(i:Int)):aC Tp 0 aKj (lV dl sk dc v i) (.exit 0) (lV dl sk dc v i):=aC.fi (gI fo [0]) [bF] (gc (aK h0) gn)
theorem aWo(dl:Int)(sk dc:Lqq)(v:Int)(hu:uni 2 sk)(hl:sk.length≤1000){base:Nat}:FV Tp 92 [.p (.agg (bC dl sk dc)),.p (aB v)] base (pI (bJ (fun x=>decide (x.getD 0 0=v)) sk)) []:=by
 rcases aD.find (P:=Tp) (k:=0) (b:=aKj) (fun i=>lV dl sk dc v i) (fun i _=>bQ (lV dl sk dc v i) [(4,.p (aB (i:Int)))]) (lV dl sk dc v sk.length) .ret (.exit 0) (by simp) (by simp) (fun x:List Int=>decide (x.getD 0 0=v)) sk
  (fun i x hx hp=>by
   obtain ⟨a,b,rfl⟩:=len2 (hu _ (Bl hx));exact bHy (by have:=aM hx;omega) hx hu (by simpa using hp) (aI (by have:=aM hx;omega)) rfl)
  (fun i x hx hp=>by
   obtain ⟨a,b,rfl⟩:=len2 (hu _ (Bl hx));exact bHx (by have:=aM hx;omega) hx hu (by simpa using hp))
  (bHz (i:=sk.length) (by omega)) with ⟨i,x,h1,h2,h3,h4⟩ | ⟨h1,h2,h3⟩
 ·rw [eF h2];exact cFq h4
 ·rw [gC h1];exact cFp h3
def lW(dl:Int)(sk dc:Lqq)(v:Int)(i:Nat):St:=⟨fr 22 [(1,(pI v)),(2,(.ptr 0 0)),(5,(pI (i:Int)))],(ae dl sk dc)⟩
theorem cFr(hl0:aD Tp 0 aKk (lW dl sk dc v 0) (.exit 0) (lW dl sk dc v Bm)):FV Tp 101 [(.p (.agg (bC dl sk dc))),(pI v)] base (pI (-1)) []:=FV.fi func101 [hl0.k 6 (gI fo [0])] (gc hl0.code gn)
theorem cFs(hl0:aD Tp 0 aKk (lW dl sk dc v 0) .ret (bQ (lW dl sk dc v Bm) [(4,(pI (Bm:Int)))])):FV Tp 101 [(.p (.agg (bC dl sk dc))),(pI v)] base (pI (Bm:Int)) []:=FV.fi func101 [hl0.k 6 (gI fo [0])] (gc hl0.code gn)
section
variable(h0:(i:Int)<(dc.length:Int))(h1:dc[i]? = some [Aa,Ab,Ac,Ad,Ae,Af])(h2:uni 6 dc)
include h0 h1 h2
theorem bIa(h3:Aa=v):aC Tp 0 aKk (lW dl sk dc v i) .ret (bQ (lW dl sk dc v i) [(4,(pI (i:Int)))]):=aC.fi (gI [0,1,3,1,6,16] [0]) [bT,.x (aB Aa),bT] (gc (bX h3) (gt ((dc.flatten.map aB)[(i*6)]? = some (aB Aa)) (bE (i:=i) (f:=0) h2 h1 rfl) (gc (gJ (k:=6) (i:=(i:Int)) (by decide) h2 (Bp _) h1) (g0 h0))))
theorem bIb(h3:Aa≠v)(h4:gk i)(Ai:i'=(i+1)):aC Tp 0 aKk (lW dl sk dc v i) .normal (lW dl sk dc v i'):=by
 subst Ai;exact aC.fi (gI fo [0]) [bT,.x (aB Aa),bF] (gc h4 (gc (aS h3) (gt ((dc.flatten.map aB)[(i*6)]? = some (aB Aa)) (bE (i:=i) (f:=0) h2 h1 rfl) (gc (gJ (k:=6) (i:=(i:Int)) (by decide) h2 (Bp _) h1) (g0 h0)))))
end
theorem bIc(h0:(dc.length:Int)≤(i:Int)):aC Tp 0 aKk (lW dl sk dc v i) (.exit 0) (lW dl sk dc v i):=aC.fi (gI fo [0]) [bF] (gc (aK h0) gn)
theorem cFt(dl:Int)(sk dc:Lqq)(v:Int)(hu:uni 6 dc)(hl:dc.length≤1000){base:Nat}:FV Tp 101 [.p (.agg (bC dl sk dc)),.p (aB v)] base (pI (bJ (fun x=>decide (x.getD 0 0=v)) dc)) []:=by
 rcases aD.find (P:=Tp) (k:=0) (b:=aKk) (fun i=>lW dl sk dc v i) (fun i _=>bQ (lW dl sk dc v i) [(4,.p (aB (i:Int)))]) (lW dl sk dc v dc.length) .ret (.exit 0) (by simp) (by simp) (fun x:List Int=>decide (x.getD 0 0=v)) dc
  (fun i x hx hp=>by
   obtain ⟨a,b,c,d,e,g,rfl⟩:=A7 (hu _ (Bl hx));exact bIb (by have:=aM hx;omega) hx hu (by simpa using hp) (aI (by have:=aM hx;omega)) rfl)
  (fun i x hx hp=>by
   obtain ⟨a,b,c,d,e,g,rfl⟩:=A7 (hu _ (Bl hx));exact bIa (by have:=aM hx;omega) hx hu (by simpa using hp))
  (bIc (i:=dc.length) (by omega)) with ⟨i,x,h1,h2,h3,h4⟩ | ⟨h1,h2,h3⟩
 ·rw [eF h2];exact cFs h4
 ·rw [gC h1];exact cFr h3
def dY(dl:Int)(sk dc:Lqq)(i:Nat):St:=⟨fr 219 [(1,(.ptr 0 0)),(3,(pI (i:Int)))],(ae dl sk dc)⟩
def cS(dl:Int)(sk dc:Lqq)(j:Nat):St:=⟨fr 219 [(1,(.ptr 0 0)),(4,(pI (j:Int)))],(ae dl sk dc)⟩
def eY(dl:Int)(sk dc:Lqq)(a:Nat):St:=⟨fr 219 [(1,(.ptr 0 0)),(6,(pI (a:Int)))],(ae dl sk dc)⟩
def fQ(dl:Int)(sk dc:Lqq)(c:Nat):St:=⟨fr 219 [(1,(.ptr 0 0)),(8,(pI (c:Int)))],(ae dl sk dc)⟩
def eZ(dl:Int)(sk dc:Lqq)(e:Nat):St:=⟨fr 219 [(1,(.ptr 0 0)),(10,(pI (e:Int)))],(ae dl sk dc)⟩
def fR(dl:Int)(sk dc:Lqq)(f:Nat):St:=⟨fr 219 [(1,(.ptr 0 0)),(12,(pI (f:Int)))],(ae dl sk dc)⟩
theorem cFu(h0:(sk.length:Int)<1):FV Tp 31 [(.p (.agg (bC dl sk dc)))] base (pI 2) []:=FV.fi func31 (rT 5) (Au (bI h0) (g0 h0))
section
variable(h0:(1:Int)≤(sk.length:Int))
include h0
theorem cFv(h1:(30:Int)<(sk.length:Int)):FV Tp 31 [(.p (.agg (bC dl sk dc)))] base (pI 2) []:=FV.fi func31 (rF 5++rT 5) (B0 (bI h1) (B0 (aK h0) gn))
theorem cFw(h1:(sk.length:Int)≤30)(h2:(40:Int)<(dc.length:Int)):FV Tp 31 [(.p (.agg (bC dl sk dc)))] base (pI 2) []:=FV.fi func31 (rF 10++[bT]) (gc (bI h2) (B0 (aK h1) (B0 (aK h0) gn)))
theorem cFx(h1:(sk.length:Int)≤30)(h2:(dc.length:Int)≤40)(h3:(eJ dl 0 10000)=true):FV Tp 31 [(.p (.agg (bC dl sk dc)))] base (pI 3) []:=have k1:=fk 1 (bU dl 0 10000) rfl;FV.fi func31 (rF 11++[k1.o,bT]) (gc h3 (gc k1 (gc (aK h2) (B0 (aK h1) (B0 (aK h0) gn)))))
end
section
variable(h0:(1:Int)≤(sk.length:Int))(h1:(sk.length:Int)≤30)(h2:(dc.length:Int)≤40)(h3:(eJ dl 0 10000)=false)(Ff:aD Tp 0 uB (dY dl sk dc 0) (.exit 0) (dY dl sk dc Bm))(Dp:aD Tp 0 nI (cS dl sk dc 0) (.exit 2) (cS dl sk dc Oh))(E8:aD Tp 0 aCh (eY dl sk dc 0) (.exit 4) (eY dl sk dc Pv))
include h0 h1 h2 h3 Ff Dp E8
theorem cFy(Em:aD Tp 0 aGd (fQ dl sk dc 0) (.exit 8) (fQ dl sk dc Rn))(Mq:aD Tp 0 aCi (eZ dl sk dc 0) (.exit 12) (eZ dl sk dc Ta))(Hn:aD Tp 0 aGe (fR dl sk dc 0) (.exit 14) (fR dl sk dc Vi)):FV Tp 31 [(.p (.agg (bC dl sk dc)))] base (pI 0) []:=have k1:=fk 1 (bU dl 0 10000) rfl;FV.fi func31 (rF 11++[k1.o,bF,Ff.k 4 (gI ez [0]),Dp.k 4 (gI dj [0]),E8.k 4 (gI da [0]),Em.k 4 (gI db [0]),Mq.k 4 (gI cj [0]),Hn.k 4 (gI dx [0])]) (gc Hn.code (gc Mq.code (gc Em.code (gc E8.code (gc Dp.code (gc Ff.code (gc h3 (gc k1 (gc (aK h2) (B0 (aK h1) (B0 (aK h0) gn)))))))))))
theorem cFz(Em:aD Tp 0 aGd (fQ dl sk dc 0) (.exit 8) (fQ dl sk dc Rn))(Mq:aD Tp 0 aCi (eZ dl sk dc 0) (.exit 12) (eZ dl sk dc Ta))(Hn:aD Tp 0 aGe (fR dl sk dc 0) .ret (bQ (fR dl sk dc Vi) [(2,(pI 4))])):FV Tp 31 [(.p (.agg (bC dl sk dc)))] base (pI 4) []:=have k1:=fk 1 (bU dl 0 10000) rfl;FV.fi func31 (rF 11++[k1.o,bF,Ff.k 4 (gI ez [0]),Dp.k 4 (gI dj [0]),E8.k 4 (gI da [0]),Em.k 4 (gI db [0]),Mq.k 4 (gI cj [0]),Hn.k 4 (gI dx [0])]) (gc Hn.code (gc Mq.code (gc Em.code (gc E8.code (gc Dp.code (gc Ff.code (gc h3 (gc k1 (gc (aK h2) (B0 (aK h1) (B0 (aK h0) gn)))))))))))
theorem cGa(Em:aD Tp 0 aGd (fQ dl sk dc 0) (.exit 8) (fQ dl sk dc Rn))(Mq:aD Tp 0 aCi (eZ dl sk dc 0) .ret (bQ (eZ dl sk dc Ta) [(2,(pI 1))])):FV Tp 31 [(.p (.agg (bC dl sk dc)))] base (pI 1) []:=have k1:=fk 1 (bU dl 0 10000) rfl;FV.fi func31 (rF 11++[k1.o,bF,Ff.k 4 (gI ez [0]),Dp.k 4 (gI dj [0]),E8.k 4 (gI da [0]),Em.k 4 (gI db [0]),Mq.k 4 (gI cj [0])]) (gc Mq.code (gc Em.code (gc E8.code (gc Dp.code (gc Ff.code (gc h3 (gc k1 (gc (aK h2) (B0 (aK h1) (B0 (aK h0) gn))))))))))
theorem cGb(Em:aD Tp 0 aGd (fQ dl sk dc 0) .ret (bQ (fQ dl sk dc Rn) [(2,(pI 5))])):FV Tp 31 [(.p (.agg (bC dl sk dc)))] base (pI 5) []:=have k1:=fk 1 (bU dl 0 10000) rfl;FV.fi func31 (rF 11++[k1.o,bF,Ff.k 4 (gI ez [0]),Dp.k 4 (gI dj [0]),E8.k 4 (gI da [0]),Em.k 4 (gI db [0])]) (gc Em.code (gc E8.code (gc Dp.code (gc Ff.code (gc h3 (gc k1 (gc (aK h2) (B0 (aK h1) (B0 (aK h0) gn)))))))))
end
section
variable(h0:(1:Int)≤(sk.length:Int))(h1:(sk.length:Int)≤30)(h2:(dc.length:Int)≤40)(h3:(eJ dl 0 10000)=false)
include h0 h1 h2 h3
theorem cGc(Ff:aD Tp 0 uB (dY dl sk dc 0) (.exit 0) (dY dl sk dc Bm))(Dp:aD Tp 0 nI (cS dl sk dc 0) (.exit 2) (cS dl sk dc Oh))(E8:aD Tp 0 aCh (eY dl sk dc 0) .ret (bQ (eY dl sk dc Pv) [(2,(pI 5))])):FV Tp 31 [(.p (.agg (bC dl sk dc)))] base (pI 5) []:=have k1:=fk 1 (bU dl 0 10000) rfl;FV.fi func31 (rF 11++[k1.o,bF,Ff.k 4 (gI ez [0]),Dp.k 4 (gI dj [0]),E8.k 4 (gI da [0])]) (gc E8.code (gc Dp.code (gc Ff.code (gc h3 (gc k1 (gc (aK h2) (B0 (aK h1) (B0 (aK h0) gn))))))))
theorem cGd(Ff:aD Tp 0 uB (dY dl sk dc 0) (.exit 0) (dY dl sk dc Bm))(Dp:aD Tp 0 nI (cS dl sk dc 0) .ret (bQ (cS dl sk dc Oh) [(2,(pI 3))])):FV Tp 31 [(.p (.agg (bC dl sk dc)))] base (pI 3) []:=have k1:=fk 1 (bU dl 0 10000) rfl;FV.fi func31 (rF 11++[k1.o,bF,Ff.k 4 (gI ez [0]),Dp.k 4 (gI dj [0])]) (gc Dp.code (gc Ff.code (gc h3 (gc k1 (gc (aK h2) (B0 (aK h1) (B0 (aK h0) gn)))))))
theorem bXt(Ff:aD Tp 0 uB (dY dl sk dc 0) .ret (bQ (dY dl sk dc Bm) [(2,(pI 3))])):FV Tp 31 [(.p (.agg (bC dl sk dc)))] base (pI 3) []:=have k1:=fk 1 (bU dl 0 10000) rfl;FV.fi func31 (rF 11++[k1.o,bF,Ff.k 4 (gI ez [0])]) (gc Ff.code (gc h3 (gc k1 (gc (aK h2) (B0 (aK h1) (B0 (aK h0) gn))))))
end
section
variable(h0:(i:Int)<(sk.length:Int))(h1:sk[i]? = some [Aa,Ab])(h2:uni 2 sk)
include h0 h1 h2
theorem bId(h3:(eJ Aa 1 999)=true):aC Tp 0 uB (dY dl sk dc i) .ret (bQ (dY dl sk dc i) [(2,(pI 3))]):=have k1:=fk 1 (bU Aa 1 999) rfl;aC.fi (gI [0,1,14,42] [0]) ([bT,.x (aB Aa),k1.o]++rT 8) (E1 h3 (gc k1 (gt ((sk.flatten.map aB)[(i*2)]? = some (aB Aa)) (bE (i:=i) (f:=0) h2 h1 rfl) (gc (gJ (k:=2) (i:=(i:Int)) (by decide) h2 (Bp _) h1) (g0 h0)))))
theorem bIe(h3:(eJ Aa 1 999)=false)(h4:(eJ Ab (-1) 360000)=true):aC Tp 0 uB (dY dl sk dc i) .ret (bQ (dY dl sk dc i) [(2,(pI 3))]):=have k1:=fk 1 (bU Aa 1 999) rfl;have k2:=fk 1 (bU Ab (-1) 360000) rfl;aC.fi (gI [0,1,14,42] [0]) ([bT,.x (aB Aa),k1.o]++rF 6++[.x (aB Ab),bF,k2.o,bF,bT]) (gc h4 (gc h3 (gc k2 (gc h3 (gt ((sk.flatten.map aB)[((i*2)+1)]? = some (aB Ab)) (bE (i:=i) (f:=1) h2 h1 rfl) (Aq h3 (gc (gJ (k:=2) (i:=(i:Int)) (by decide) h2 (Bp _) h1) (Au h3 (gc k1 (gt ((sk.flatten.map aB)[(i*2)]? = some (aB Aa)) (bE (i:=i) (f:=0) h2 h1 rfl) (gc (gJ (k:=2) (i:=(i:Int)) (by decide) h2 (Bp _) h1) (g0 h0))))))))))))
theorem bIf(h3:(eJ Aa 1 999)=false)(h4:(eJ Ab (-1) 360000)=false)(h5:gk i)(Ai:i'=(i+1)):aC Tp 0 uB (dY dl sk dc i) .normal (dY dl sk dc i'):=by
 subst Ai;have k1:=fk 1 (bU Aa 1 999) rfl;have k2:=fk 1 (bU Ab (-1) 360000) rfl;exact aC.fi (gI ez [0]) ([bT,.x (aB Aa),k1.o]++rF 6++[.x (aB Ab),bF,k2.o,bF,bF]) (gc h5 (gc h4 (gc h3 (gc k2 (gc h3 (gt ((sk.flatten.map aB)[((i*2)+1)]? = some (aB Ab)) (bE (i:=i) (f:=1) h2 h1 rfl) (Aq h3 (gc (gJ (k:=2) (i:=(i:Int)) (by decide) h2 (Bp _) h1) (Au h3 (gc k1 (gt ((sk.flatten.map aB)[(i*2)]? = some (aB Aa)) (bE (i:=i) (f:=0) h2 h1 rfl) (gc (gJ (k:=2) (i:=(i:Int)) (by decide) h2 (Bp _) h1) (g0 h0)))))))))))))
end
theorem bIg(h0:(sk.length:Int)≤(i:Int)):aC Tp 0 uB (dY dl sk dc i) (.exit 0) (dY dl sk dc i):=aC.fi (gI ez [0]) [bF] (gc (aK h0) gn)
section
variable(h0:(j:Int)<(dc.length:Int))(h1:dc[j]? = some [Ap,Ah,An,Aw,Ao,Al])(h2:uni 6 dc)
include h0 h1 h2
theorem bIh(h3:(eJ Ap 1 9999)=true):aC Tp 0 nI (cS dl sk dc j) .ret (bQ (cS dl sk dc j) [(2,(pI 3))]):=have k1:=fk 2 (bU Ap 1 9999) rfl;aC.fi (gI dn [0]) [bT,.x (dcE Ap Ah An Aw Ao Al),k1.o,bT,bT,bT,bT] (Au h3 (gc k1 (gfl h2 h1 (g0 h0))))
theorem bIi(h3:(eJ Ap 1 9999)=false)(h4:(eJ Ah 0 9)=true):aC Tp 0 nI (cS dl sk dc j) .ret (bQ (cS dl sk dc j) [(2,(pI 3))]):=have k1:=fk 2 (bU Ap 1 9999) rfl;have k2:=fk 2 (bU Ah 0 9) rfl;aC.fi (gI dn [0]) [bT,.x (dcE Ap Ah An Aw Ao Al),k1.o,bF,bF,bF,k2.o,bF,bT,bT,bT,bT] (Au h4 (gc h3 (gc k2 (Ak h3 (gc k1 (gfl h2 h1 (g0 h0)))))))
theorem bIj(h3:(eJ Ap 1 9999)=false)(h4:(eJ Ah 0 9)=false)(h5:(eJ An 0 10000)=true):aC Tp 0 nI (cS dl sk dc j) .ret (bQ (cS dl sk dc j) [(2,(pI 3))]):=have k1:=fk 2 (bU Ap 1 9999) rfl;have k2:=fk 2 (bU Ah 0 9) rfl;have k3:=fk 2 (bU An 0 10000) rfl;aC.fi (gI dn [0]) [bT,.x (dcE Ap Ah An Aw Ao Al),k1.o,bF,bF,bF,k2.o,bF,bF,bF,bF,k3.o,bF,bT,bT,bT,bT] (Au h5 (gc h4 (gc k3 (Ak h4 (gc h3 (gc k2 (Ak h3 (gc k1 (gfl h2 h1 (g0 h0))))))))))
theorem bIk(h3:(eJ Ap 1 9999)=false)(h4:(eJ Ah 0 9)=false)(h5:(eJ An 0 10000)=false)(h6:(eJ Ao 0 36000)=true):aC Tp 0 nI (cS dl sk dc j) .ret (bQ (cS dl sk dc j) [(2,(pI 3))]):=have k1:=fk 2 (bU Ap 1 9999) rfl;have k2:=fk 2 (bU Ah 0 9) rfl;have k3:=fk 2 (bU An 0 10000) rfl;have k4:=fk 2 (bU Ao 0 36000) rfl;aC.fi (gI dn [0]) [bT,.x (dcE Ap Ah An Aw Ao Al),k1.o,bF,bF,bF,k2.o,bF,bF,bF,bF,k3.o,bF,bF,bF,bF,k4.o,bF,bT] (gc h6 (gc h5 (gc k4 (Ak h5 (gc h4 (gc k3 (Ak h4 (gc h3 (gc k2 (Ak h3 (gc k1 (gfl h2 h1 (g0 h0)))))))))))))
end
section
variable(h0:(j:Int)<(dc.length:Int))(h1:dc[j]? = some [Ap,Ah,An,Aw,Ao,Al])(h2:uni 6 dc)(h3:(eJ Ap 1 9999)=false)(h4:(eJ Ah 0 9)=false)(h5:(eJ An 0 10000)=false)(h6:(eJ Ao 0 36000)=false)
include h0 h1 h2 h3 h4 h5 h6
theorem bIl(h7:(0:Int)<Ao)(h8:Ah=3):aC Tp 0 nI (cS dl sk dc j) .ret (bQ (cS dl sk dc j) [(2,(pI 3))]):=have k1:=fk 2 (bU Ap 1 9999) rfl;have k2:=fk 2 (bU Ah 0 9) rfl;have k3:=fk 2 (bU An 0 10000) rfl;have k4:=fk 2 (bU Ao 0 36000) rfl;aC.fi (gI dn [0]) ([bT,.x (dcE Ap Ah An Aw Ao Al),k1.o,bF,bF,bF,k2.o,bF,bF,bF,bF,k3.o,bF,bF,bF,bF,k4.o,bF,bF]++rT 12) (Ak (bI h7) (gc (bX h8) (gc (bI h7) (Ak (bX h8) (Au (bI h7) (gc h6 (gc h5 (gc k4 (Ak h5 (gc h4 (gc k3 (Ak h4 (gc h3 (gc k2 (Ak h3 (gc k1 (gfl h2 h1 (g0 h0))))))))))))))))))
theorem bIm(h7:(0:Int)<Ao)(h8:Ah≠3)(h9:Ah=5):aC Tp 0 nI (cS dl sk dc j) .ret (bQ (cS dl sk dc j) [(2,(pI 3))]):=have k1:=fk 2 (bU Ap 1 9999) rfl;have k2:=fk 2 (bU Ah 0 9) rfl;have k3:=fk 2 (bU An 0 10000) rfl;have k4:=fk 2 (bU Ao 0 36000) rfl;aC.fi (gI dn [0]) ([bT,.x (dcE Ap Ah An Aw Ao Al),k1.o,bF,bF,bF,k2.o,bF,bF,bF,bF,k3.o,bF,bF,bF,bF,k4.o,bF,bF,bT,bT,bT,bT,bF,bF,bF,bT,bF]++rT 7) (gc (bI h7) (gc (bX h9) (gc (bI h7) (Ak (bX h9) (gc (bI h7) (gc (aS h8) (gc (bI h7) (Ak (aS h8) (Au (bI h7) (gc h6 (gc h5 (gc k4 (Ak h5 (gc h4 (gc k3 (Ak h4 (gc h3 (gc k2 (Ak h3 (gc k1 (gfl h2 h1 (g0 h0))))))))))))))))))))))
theorem bIn(h7:(0:Int)<Ao)(h8:Ah≠3)(h9:Ah≠5)(A8:(6:Int)<Ah):aC Tp 0 nI (cS dl sk dc j) .ret (bQ (cS dl sk dc j) [(2,(pI 3))]):=have k1:=fk 2 (bU Ap 1 9999) rfl;have k2:=fk 2 (bU Ah 0 9) rfl;have k3:=fk 2 (bU An 0 10000) rfl;have k4:=fk 2 (bU Ao 0 36000) rfl;aC.fi (gI dn [0]) [bT,.x (dcE Ap Ah An Aw Ao Al),k1.o,bF,bF,bF,k2.o,bF,bF,bF,bF,k3.o,bF,bF,bF,bF,k4.o,bF,bF,bT,bT,bT,bT,bF,bF,bF,bT,bF,bT,bF,bF,bF,bT,bF,bT,bT] (gc (bI A8) (gc (bI h7) (gc (aS h9) (gc (bI h7) (Ak (aS h9) (gc (bI h7) (gc (aS h8) (gc (bI h7) (Ak (aS h8) (Au (bI h7) (gc h6 (gc h5 (gc k4 (Ak h5 (gc h4 (gc k3 (Ak h4 (gc h3 (gc k2 (Ak h3 (gc k1 (gfl h2 h1 (g0 h0)))))))))))))))))))))))
theorem bIo(h7:(0:Int)<Ao)(h8:Ah≠3)(h9:Ah≠5)(A8:Ah≤6)(Be:gk j)(Fl:j'=(j+1)):aC Tp 0 nI (cS dl sk dc j) .normal (cS dl sk dc j'):=by
 subst Fl;have k1:=fk 2 (bU Ap 1 9999) rfl;have k2:=fk 2 (bU Ah 0 9) rfl;have k3:=fk 2 (bU An 0 10000) rfl;have k4:=fk 2 (bU Ao 0 36000) rfl;exact aC.fi (gI dj [0]) [bT,.x (dcE Ap Ah An Aw Ao Al),k1.o,bF,bF,bF,k2.o,bF,bF,bF,bF,k3.o,bF,bF,bF,bF,k4.o,bF,bF,bT,bT,bT,bT,bF,bF,bF,bT,bF,bT,bF,bF,bF,bT,bF,bT,bF] (gc Be (gc (aK A8) (gc (bI h7) (gc (aS h9) (gc (bI h7) (Ak (aS h9) (gc (bI h7) (gc (aS h8) (gc (bI h7) (Ak (aS h8) (Au (bI h7) (gc h6 (gc h5 (gc k4 (Ak h5 (gc h4 (gc k3 (Ak h4 (gc h3 (gc k2 (Ak h3 (gc k1 (gfl h2 h1 (g0 h0))))))))))))))))))))))))
theorem bIp(h7:Ao≤0)(h8:gk j)(Fl:j'=(j+1)):aC Tp 0 nI (cS dl sk dc j) .normal (cS dl sk dc j'):=by
 subst Fl;have k1:=fk 2 (bU Ap 1 9999) rfl;have k2:=fk 2 (bU Ah 0 9) rfl;have k3:=fk 2 (bU An 0 10000) rfl;have k4:=fk 2 (bU Ao 0 36000) rfl;exact aC.fi (gI dj [0]) ([bT,.x (dcE Ap Ah An Aw Ao Al),k1.o,bF,bF,bF,k2.o,bF,bF,bF,bF,k3.o,bF,bF,bF,bF,k4.o]++rF 10) (gc h8 (E1 (aK h7) (gc h6 (gc h5 (gc k4 (Ak h5 (gc h4 (gc k3 (Ak h4 (gc h3 (gc k2 (Ak h3 (gc k1 (gfl h2 h1 (g0 h0)))))))))))))))
end
theorem bIq(h0:(dc.length:Int)≤(j:Int)):aC Tp 0 nI (cS dl sk dc j) (.exit 2) (cS dl sk dc j):=aC.fi (gI dj [0]) [bF] (gc (aK h0) gn)
def iP(dl:Int)(sk dc:Lqq)(a b:Nat):St:=⟨fr 219 [(1,(.ptr 0 0)),(6,(pI (a:Int))),(7,(pI (b:Int))),(104,(pI (a:Int))),(105,(.ptr 0 1)),(106,(.p (fS sk))),(107,(pI (sk.length:Int))),(108,(pB (decide ((a:Int)<(sk.length:Int)))))],(ae dl sk dc)⟩
theorem bIr{a':Nat}(h0:(a:Int)<(sk.length:Int))(hl1:aD Tp 0 aRk (iP dl sk dc a 0) (.exit 6) (iP dl sk dc a Mo))(h2:gk a)(Pw:a'=(a+1)):aC Tp 0 aCh (eY dl sk dc a) .normal (eY dl sk dc a'):=by
 subst Pw;exact aC.fi (gI da [0]) [bT,hl1.k 5 (gI cf [0])] (gc h2 (gc hl1.code (g0 h0)))
theorem bIs(h0:(a:Int)<(sk.length:Int))(hl1:aD Tp 0 aRk (iP dl sk dc a 0) .ret (bQ (iP dl sk dc a Mo) [(2,(pI 5))])):aC Tp 0 aCh (eY dl sk dc a) .ret (bQ (eY dl sk dc a) [(2,(pI 5))]):=aC.fi (gI [0,1,3,3,7,1,14,115] [0]) [bT,hl1.k 5 (gI cf [0])] (gc hl1.code (g0 h0))
theorem bIt(h0:(sk.length:Int)≤(a:Int)):aC Tp 0 aCh (eY dl sk dc a) (.exit 4) (eY dl sk dc a):=aC.fi (gI da [0]) [bF] (gc (aK h0) gn)
def iQ(dl:Int)(sk dc:Lqq)(c d:Nat):St:=⟨fr 219 [(1,(.ptr 0 0)),(8,(pI (c:Int))),(9,(pI (d:Int))),(129,(pI (c:Int))),(130,(.ptr 0 2)),(131,(.p (fS dc))),(132,(pI (dc.length:Int))),(133,(pB (decide ((c:Int)<(dc.length:Int)))))],(ae dl sk dc)⟩
theorem bIu{c':Nat}(h0:(c:Int)<(dc.length:Int))(hl1:aD Tp 0 aRl (iQ dl sk dc c 0) (.exit 10) (iQ dl sk dc c Mp))(h2:gk c)(Xc:c'=(c+1)):aC Tp 0 aGd (fQ dl sk dc c) .normal (fQ dl sk dc c'):=by
 subst Xc;exact aC.fi (gI db [0]) [bT,hl1.k 5 (gI c8 [0])] (gc h2 (gc hl1.code (g0 h0)))
theorem bIv(h0:(c:Int)<(dc.length:Int))(hl1:aD Tp 0 aRl (iQ dl sk dc c 0) .ret (bQ (iQ dl sk dc c Mp) [(2,(pI 5))])):aC Tp 0 aGd (fQ dl sk dc c) .ret (bQ (fQ dl sk dc c) [(2,(pI 5))]):=aC.fi (gI [0,1,3,5,9,1,14,140] [0]) [bT,hl1.k 5 (gI c8 [0])] (gc hl1.code (g0 h0))
theorem bIw(h0:(dc.length:Int)≤(c:Int)):aC Tp 0 aGd (fQ dl sk dc c) (.exit 8) (fQ dl sk dc c):=aC.fi (gI db [0]) [bF] (gc (aK h0) gn)
section
variable(h0:(e:Int)<(dc.length:Int))(h1:dc[e]? = some [Ek,Dj,E3,Ev,H0,H3])(h2:uni 6 dc)
include h0 h1 h2
theorem bIx(h3:(4:Int)<Dj)(h4:Ev≠0):aC Tp 0 aCi (eZ dl sk dc e) .ret (bQ (eZ dl sk dc e) [(2,(pI 1))]):=aC.fi (gI [0,1,3,7,11,1,14,172] [0]) ([bT,.x (dcE Ek Dj E3 Ev H0 H3)]++rT 10) (Gf (fH h4) (Au (bI h3) (gfl h2 h1 (g0 h0))))
theorem bIy(h3:(4:Int)<Dj)(h4:Ev=0)(h5:(5:Int)≤Dj)(h6:gk e)(Tb:e'=(e+1)):aC Tp 0 aCi (eZ dl sk dc e) .normal (eZ dl sk dc e'):=by
 subst Tb;exact aC.fi (gI cj [0]) ([bT,.x (dcE Ek Dj E3 Ev H0 H3),bT,bT,bT,bT]++rF 12) (gc h6 (gc (bG h4) (gc (aK h5) (gc (bG h4) (B0 (aK h5) (Au (bG h4) (Au (bI h3) (gfl h2 h1 (g0 h0)))))))))
theorem bIz(h3:Dj≤4)(h4:Dj<5)(h5:uni 2 sk)(h6:sk.length≤1000)(h7:(bJ (fun x=>decide (x.getD 0 0=Ev)) sk)<0):aC Tp 0 aCi (eZ dl sk dc e) .ret (bQ (eZ dl sk dc e) [(2,(pI 1))]):=have k1:=fk 2 (aWo dl sk dc Ev h5 h6) rfl;aC.fi (gI [0,1,3,7,11,1,14,172] [0]) [bT,.x (dcE Ek Dj E3 Ev H0 H3),bF,bF,bF,bF,bT,bT,bT,bT,k1.o,bT,bT,bT] (gc (bI h7) (Aq (bI h4) (gc k1 (Au (bI h4) (Au (aK h3) (gfl h2 h1 (g0 h0)))))))
theorem bJa(h3:Dj≤4)(h4:Dj<5)(h5:uni 2 sk)(h6:sk.length≤1000)(h7:(0:Int)≤(bJ (fun x=>decide (x.getD 0 0=Ev)) sk))(h8:gk e)(Tb:e'=(e+1)):aC Tp 0 aCi (eZ dl sk dc e) .normal (eZ dl sk dc e'):=by
 subst Tb;have k1:=fk 2 (aWo dl sk dc Ev h5 h6) rfl;exact aC.fi (gI cj [0]) [bT,.x (dcE Ek Dj E3 Ev H0 H3),bF,bF,bF,bF,bT,bT,bT,bT,k1.o,bT,bT,bF] (gc h8 (gc (aK h7) (Aq (bI h4) (gc k1 (Au (bI h4) (Au (aK h3) (gfl h2 h1 (g0 h0))))))))
end
theorem bJb(h0:(dc.length:Int)≤(e:Int)):aC Tp 0 aCi (eZ dl sk dc e) (.exit 12) (eZ dl sk dc e):=aC.fi (gI cj [0]) [bF] (gc (aK h0) gn)
section
variable(h0:(f:Int)<(dc.length:Int))(h1:dc[f]? = some [Ew,Ep,H4,H5,H6,Ey])(h2:uni 6 dc)
include h0 h1 h2
theorem bJc(h3:Ep<5)(h4:Ey≠0):aC Tp 0 aGe (fR dl sk dc f) .ret (bQ (fR dl sk dc f) [(2,(pI 4))]):=aC.fi (gI [0,1,3,9,13,206] [0]) ([bT,.x (dcE Ew Ep H4 H5 H6 Ey)]++rT 10) (Gf (fH h4) (Au (bI h3) (gfl h2 h1 (g0 h0))))
theorem bJd(h3:Ep<5)(h4:Ey=0)(h5:Ep≤4)(h6:gk f)(Tc:f'=(f+1)):aC Tp 0 aGe (fR dl sk dc f) .normal (fR dl sk dc f'):=by
 subst Tc;exact aC.fi (gI dx [0]) ([bT,.x (dcE Ew Ep H4 H5 H6 Ey),bT,bT,bT,bT]++rF 13) (gc h6 (gc (bG h4) (gc (aK h5) (gc (bG h4) (Gf (aK h5) (Au (bG h4) (Au (bI h3) (gfl h2 h1 (g0 h0)))))))))
theorem bJe(h3:(5:Int)≤Ep)(h4:(4:Int)<Ep)(h5:inR (Ew-1))(h6:(eJ Ey 1 (Ew-1))=true):aC Tp 0 aGe (fR dl sk dc f) .ret (bQ (fR dl sk dc f) [(2,(pI 4))]):=have k1:=fk 2 (bU Ey 1 (Ew-1)) rfl;aC.fi (gI [0,1,3,9,13,206] [0]) ([bT,.x (dcE Ew Ep H4 H5 H6 Ey),bF,bF,bF,bF]++rT 6++[k1.o,bT,bT]) (gc h6 (gc (bI h4) (gc k1 (gc (bI h4) (gc h5 (B0 (bI h4) (Au (aK h3) (gfl h2 h1 (g0 h0)))))))))
theorem bJf(h3:(5:Int)≤Ep)(h4:(4:Int)<Ep)(h5:inR (Ew-1))(h6:(eJ Ey 1 (Ew-1))=false)(h7:gk f)(Tc:f'=(f+1)):aC Tp 0 aGe (fR dl sk dc f) .normal (fR dl sk dc f'):=by
 subst Tc;have k1:=fk 2 (bU Ey 1 (Ew-1)) rfl;exact aC.fi (gI dx [0]) ([bT,.x (dcE Ew Ep H4 H5 H6 Ey),bF,bF,bF,bF]++rT 6++[k1.o,bT,bF]) (gc h7 (gc h6 (gc (bI h4) (gc k1 (gc (bI h4) (gc h5 (B0 (bI h4) (Au (aK h3) (gfl h2 h1 (g0 h0))))))))))
end
theorem bJg(h0:(dc.length:Int)≤(f:Int)):aC Tp 0 aGe (fR dl sk dc f) (.exit 14) (fR dl sk dc f):=aC.fi (gI dx [0]) [bF] (gc (aK h0) gn)
section
variable(h0:(b:Int)<(a:Int))(h1:sk[a]? = some [Hw,Pk])(h2:uni 2 sk)(h3:sk[b]? = some [Hy,Pm])
include h0 h1 h2 h3
theorem bJh(h4:Hw=Hy):aC Tp 0 aRk (iP dl sk dc a b) .ret (bQ (iP dl sk dc a b) [(2,(pI 5))]):=aC.fi (gI [0,1,3,3,14,90,111,18] [0]) [bT,.x (aB Hw),.x (aB Hy),bT] (gc (bX h4) (gt ((sk.flatten.map aB)[(b*2)]? = some (aB Hy)) (bE (i:=b) (f:=0) h2 h3 rfl) (gc (gJ (k:=2) (i:=(b:Int)) (by decide) h2 (Bp _) h3) (gt ((sk.flatten.map aB)[(a*2)]? = some (aB Hw)) (bE (i:=a) (f:=0) h2 h1 rfl) (gc (gJ (k:=2) (i:=(a:Int)) (by decide) h2 (Bp _) h1) (g0 h0))))))
theorem bJi{b':Nat}(h4:Hw≠Hy)(h5:gk b)(Pj:b'=(b+1)):aC Tp 0 aRk (iP dl sk dc a b) .normal (iP dl sk dc a b'):=by
 subst Pj;exact aC.fi (gI cf [0]) [bT,.x (aB Hw),.x (aB Hy),bF] (gc h5 (gc (aS h4) (gt ((sk.flatten.map aB)[(b*2)]? = some (aB Hy)) (bE (i:=b) (f:=0) h2 h3 rfl) (gc (gJ (k:=2) (i:=(b:Int)) (by decide) h2 (Bp _) h3) (gt ((sk.flatten.map aB)[(a*2)]? = some (aB Hw)) (bE (i:=a) (f:=0) h2 h1 rfl) (gc (gJ (k:=2) (i:=(a:Int)) (by decide) h2 (Bp _) h1) (g0 h0)))))))
end
theorem bJj(h0:(a:Int)≤(b:Int)):aC Tp 0 aRk (iP dl sk dc a b) (.exit 6) (iP dl sk dc a b):=aC.fi (gI cf [0]) [bF] (gc (aK h0) gn)
section
variable(h0:(d:Int)<(c:Int))(h1:dc[c]? = some [En,Eo,G5,Pn,Po,Pp])(h2:uni 6 dc)(h3:dc[d]? = some [Hz,Pq,Pr,Ps,Pt,Pu])
include h0 h1 h2 h3
theorem bJk(h4:En=Hz):aC Tp 0 aRl (iQ dl sk dc c d) .ret (bQ (iQ dl sk dc c d) [(2,(pI 5))]):=aC.fi (gI [0,1,3,5,14,115,136,18] [0]) [bT,.x (aB En),.x (aB Hz),bT] (gc (bX h4) (gt ((dc.flatten.map aB)[(d*6)]? = some (aB Hz)) (bE (i:=d) (f:=0) h2 h3 rfl) (gc (gJ (k:=6) (i:=(d:Int)) (by decide) h2 (Bp _) h3) (gt ((dc.flatten.map aB)[(c*6)]? = some (aB En)) (bE (i:=c) (f:=0) h2 h1 rfl) (gc (gJ (k:=6) (i:=(c:Int)) (by decide) h2 (Bp _) h1) (g0 h0))))))
theorem bJl{d':Nat}(h4:En≠Hz)(h5:gk d)(Xd:d'=(d+1)):aC Tp 0 aRl (iQ dl sk dc c d) .normal (iQ dl sk dc c d'):=by
 subst Xd;exact aC.fi (gI c8 [0]) [bT,.x (aB En),.x (aB Hz),bF] (gc h5 (gc (aS h4) (gt ((dc.flatten.map aB)[(d*6)]? = some (aB Hz)) (bE (i:=d) (f:=0) h2 h3 rfl) (gc (gJ (k:=6) (i:=(d:Int)) (by decide) h2 (Bp _) h3) (gt ((dc.flatten.map aB)[(c*6)]? = some (aB En)) (bE (i:=c) (f:=0) h2 h1 rfl) (gc (gJ (k:=6) (i:=(c:Int)) (by decide) h2 (Bp _) h1) (g0 h0)))))))
end
theorem bJm(h0:(c:Int)≤(d:Int)):aC Tp 0 aRl (iQ dl sk dc c d) (.exit 10) (iQ dl sk dc c d):=aC.fi (gI c8 [0]) [bF] (gc (aK h0) gn)
end
section

def nS(f:Lqq)(i:Nat):Int:=(f.getD i []).getD 0 0
theorem sG(f:Lqq):(aP f 0).Nodup↔∀ a,a<f.length→∀ b,b<a→nS f a≠nS f b:=by
 have hk:∀ i (h:i<f.length),nS f i=(aP f 0)[i]'(by rw [mI];exact h):=fun i h=>by simp [nS,aP,B5,Ay h]
 constructor
 ·intro h a ha b hb he
  have:=List.pairwise_iff_getElem.1 h b a (by rw [mI];omega) (by rw [mI];omega) hb
  rw [hk a ha,hk b (by omega)] at he
  exact this he.symm
 ·intro h
  refine List.pairwise_iff_getElem.2 fun i j hi hj hij he => ?_
  rw [mI] at hi hj
  exact h j hj i hij (by rw [hk j hj,hk i hi,he])
theorem rsin(dl:Int)(sk dc:Lqq)(hu:uni 2 sk)(hl:sk.length≤1000)(i:Nat)(hi:i<sk.length) :
  (∃ j,(List.range i).any (fun j=>decide (nS sk i=nS sk j))=true∧aD Tp 0 (sub (cd Tryz.f31) bj) (iP dl sk dc i 0) .ret (bQ (iP dl sk dc i j) [(2,.p (aB 5))]))∨((List.range i).any (fun j=>decide (nS sk i=nS sk j))=false∧aD Tp 0 (sub (cd Tryz.f31) bj) (iP dl sk dc i 0) (.exit 6) (iP dl sk dc i i)):=by
 have hx:∀ j,j<sk.length→∃ x,sk[j]? = some x∧x.length=2∧nS sk j=x.getD 0 0:=fun j hj=>⟨sk[j],Ay hj,hu _ (fP hj),by simp [nS,B5,Ay hj]⟩
 rcases aD.find (P:=Tp) (k:=0) (b:=(sub (cd Tryz.f31) bj)) (fun j=>iP dl sk dc i j) (fun j _=>bQ (iP dl sk dc i j) [(2,.p (aB 5))]) (iP dl sk dc i i) .ret (.exit 6) (by simp) (by simp) (fun j=>decide (nS sk i=nS sk j)) (List.range i)
  (fun j x hj hp=>by
   have hji:j<i:=by have:=aM hj;simpa using this
   have hxj:x=j:=by rw [mO hji] at hj;exact (Option.some.inj hj).symm
   subst hxj;obtain ⟨y,hy,ly,ky⟩:=hx i hi;obtain ⟨z,hz,lz,kz⟩:=hx x (by omega)
   obtain ⟨a,b,rfl⟩:=len2 ly;obtain ⟨c,d,rfl⟩:=len2 lz;have he:=of_decide_eq_false hp;rw [ky,kz] at he
   exact bJi (by omega) hy hu hz he (aI (by omega)) rfl)
  (fun j x hj hp=>by
   have hji:j<i:=by have:=aM hj;simpa using this
   have hxj:x=j:=by rw [mO hji] at hj;exact (Option.some.inj hj).symm
   subst hxj;obtain ⟨y,hy,ly,ky⟩:=hx i hi;obtain ⟨z,hz,lz,kz⟩:=hx x (by omega)
   obtain ⟨a,b,rfl⟩:=len2 ly;obtain ⟨c,d,rfl⟩:=len2 lz;have he:=of_decide_eq_true hp;rw [ky,kz] at he
   exact bJh (by omega) hy hu hz he)
  (by rw [aFs];exact bJj (by omega)) with ⟨j,x,h1,h2,h3,h4⟩ | ⟨h1,h2,h3⟩
 ·exact .inl ⟨j,List.any_eq_true.2 ⟨x,Bl h1,h3⟩,h4⟩
 ·exact .inr ⟨h2,h3⟩
theorem rso(dl:Int)(sk dc:Lqq)(hu:uni 2 sk)(hl:sk.length≤1000) :
  (¬ (aP sk 0).Nodup∧∃ i,aD Tp 0 (sub (cd Tryz.f31) dp) (eY dl sk dc 0) .ret (bQ (eY dl sk dc i) [(2,.p (aB 5))]))∨((aP sk 0).Nodup∧aD Tp 0 (sub (cd Tryz.f31) dp) (eY dl sk dc 0) (.exit 4) (eY dl sk dc sk.length)):=by
 rcases aD.find (P:=Tp) (k:=0) (b:=(sub (cd Tryz.f31) dp)) (fun i=>eY dl sk dc i) (fun i _=>bQ (eY dl sk dc i) [(2,.p (aB 5))]) (eY dl sk dc sk.length) .ret (.exit 4) (by simp) (by simp) (fun i=>(List.range i).any fun j=>decide (nS sk i=nS sk j)) (List.range sk.length)
  (fun i x hj hp=>by
   have hi:i<sk.length:=by have:=aM hj;simpa using this
   have hxj:x=i:=by rw [mO hi] at hj;exact (Option.some.inj hj).symm
   subst hxj
   rcases rsin dl sk dc hu hl x hi with ⟨j,h,_⟩ | ⟨_,h⟩
   ·rw [h] at hp;cases hp
   ·exact bIr (by omega) h (aI (by omega)) rfl)
  (fun i x hj hp=>by
   have hi:i<sk.length:=by have:=aM hj;simpa using this
   have hxj:x=i:=by rw [mO hi] at hj;exact (Option.some.inj hj).symm
   subst hxj
   rcases rsin dl sk dc hu hl x hi with ⟨j,_,h⟩ | ⟨h,_⟩
   ·exact bIs (by omega) h
   ·rw [h] at hp;cases hp)
  (by rw [aFs];exact bIt (by omega)) with ⟨i,x,h1,h2,h3,h4⟩ | ⟨h1,h2,h3⟩
 ·refine .inl ⟨fun hn => ?_,i,h4⟩
  have hi:i<sk.length:=by have:=aM h1;simpa using this
  have hxj:x=i:=by rw [mO hi] at h1;exact (Option.some.inj h1).symm
  subst hxj;obtain ⟨j,hj,he⟩:=List.any_eq_true.1 h3;exact (sG sk).1 hn x hi j (by simpa using hj) (of_decide_eq_true he)
 ·refine .inr ⟨(sG sk).2 fun i hi j hj he => ?_,h3⟩
  have:=List.any_eq_false.1 h2 i (iN.2 hi);exact this (List.any_eq_true.2 ⟨j,iN.2 hj,decide_eq_true he⟩)
theorem rdin(dl:Int)(sk dc:Lqq)(hu:uni 6 dc)(hl:dc.length≤1000)(i:Nat)(hi:i<dc.length) :
  (∃ j,(List.range i).any (fun j=>decide (nS dc i=nS dc j))=true∧aD Tp 0 (sub (cd Tryz.f31) bg) (iQ dl sk dc i 0) .ret (bQ (iQ dl sk dc i j) [(2,.p (aB 5))]))∨((List.range i).any (fun j=>decide (nS dc i=nS dc j))=false∧aD Tp 0 (sub (cd Tryz.f31) bg) (iQ dl sk dc i 0) (.exit 10) (iQ dl sk dc i i)):=by
 have hx:∀ j,j<dc.length→∃ x,dc[j]? = some x∧x.length=6∧nS dc j=x.getD 0 0:=fun j hj=>⟨dc[j],Ay hj,hu _ (fP hj),by simp [nS,B5,Ay hj]⟩
 rcases aD.find (P:=Tp) (k:=0) (b:=(sub (cd Tryz.f31) bg)) (fun j=>iQ dl sk dc i j) (fun j _=>bQ (iQ dl sk dc i j) [(2,.p (aB 5))]) (iQ dl sk dc i i) .ret (.exit 10) (by simp) (by simp) (fun j=>decide (nS dc i=nS dc j)) (List.range i)
  (fun j x hj hp=>by
   have hji:j<i:=by have:=aM hj;simpa using this
   have hxj:x=j:=by rw [mO hji] at hj;exact (Option.some.inj hj).symm
   subst hxj;obtain ⟨y,hy,ly,ky⟩:=hx i hi;obtain ⟨z,hz,lz,kz⟩:=hx x (by omega)
   obtain ⟨a,b,c,d,e,g,rfl⟩:=A7 ly;obtain ⟨a',b',c',d',e',g',rfl⟩:=A7 lz;have he:=of_decide_eq_false hp;rw [ky,kz] at he
   exact bJl (by omega) hy hu hz he (aI (by omega)) rfl)
  (fun j x hj hp=>by
   have hji:j<i:=by have:=aM hj;simpa using this
   have hxj:x=j:=by rw [mO hji] at hj;exact (Option.some.inj hj).symm
   subst hxj;obtain ⟨y,hy,ly,ky⟩:=hx i hi;obtain ⟨z,hz,lz,kz⟩:=hx x (by omega)
   obtain ⟨a,b,c,d,e,g,rfl⟩:=A7 ly;obtain ⟨a',b',c',d',e',g',rfl⟩:=A7 lz;have he:=of_decide_eq_true hp;rw [ky,kz] at he
   exact bJk (by omega) hy hu hz he)
  (by rw [aFs];exact bJm (by omega)) with ⟨j,x,h1,h2,h3,h4⟩ | ⟨h1,h2,h3⟩
 ·exact .inl ⟨j,List.any_eq_true.2 ⟨x,Bl h1,h3⟩,h4⟩
 ·exact .inr ⟨h2,h3⟩
theorem rdo(dl:Int)(sk dc:Lqq)(hu:uni 6 dc)(hl:dc.length≤1000) :
  (¬ (aP dc 0).Nodup∧∃ i,aD Tp 0 (sub (cd Tryz.f31) ck) (fQ dl sk dc 0) .ret (bQ (fQ dl sk dc i) [(2,.p (aB 5))]))∨((aP dc 0).Nodup∧aD Tp 0 (sub (cd Tryz.f31) ck) (fQ dl sk dc 0) (.exit 8) (fQ dl sk dc dc.length)):=by
 rcases aD.find (P:=Tp) (k:=0) (b:=(sub (cd Tryz.f31) ck)) (fun i=>fQ dl sk dc i) (fun i _=>bQ (fQ dl sk dc i) [(2,.p (aB 5))]) (fQ dl sk dc dc.length) .ret (.exit 8) (by simp) (by simp) (fun i=>(List.range i).any fun j=>decide (nS dc i=nS dc j)) (List.range dc.length)
  (fun i x hj hp=>by
   have hi:i<dc.length:=by have:=aM hj;simpa using this
   have hxj:x=i:=by rw [mO hi] at hj;exact (Option.some.inj hj).symm
   subst hxj
   rcases rdin dl sk dc hu hl x hi with ⟨j,h,_⟩ | ⟨_,h⟩
   ·rw [h] at hp;cases hp
   ·exact bIu (by omega) h (aI (by omega)) rfl)
  (fun i x hj hp=>by
   have hi:i<dc.length:=by have:=aM hj;simpa using this
   have hxj:x=i:=by rw [mO hi] at hj;exact (Option.some.inj hj).symm
   subst hxj
   rcases rdin dl sk dc hu hl x hi with ⟨j,_,h⟩ | ⟨h,_⟩
   ·exact bIv (by omega) h
   ·rw [h] at hp;cases hp)
  (by rw [aFs];exact bIw (by omega)) with ⟨i,x,h1,h2,h3,h4⟩ | ⟨h1,h2,h3⟩
 ·refine .inl ⟨fun hn => ?_,i,h4⟩
  have hi:i<dc.length:=by have:=aM h1;simpa using this
  have hxj:x=i:=by rw [mO hi] at h1;exact (Option.some.inj h1).symm
  subst hxj;obtain ⟨j,hj,he⟩:=List.any_eq_true.1 h3;exact (sG dc).1 hn x hi j (by simpa using hj) (of_decide_eq_true he)
 ·refine .inr ⟨(sG dc).2 fun i hi j hj he => ?_,h3⟩
  have:=List.any_eq_false.1 h2 i (iN.2 hi);exact this (List.any_eq_true.2 ⟨j,iN.2 hj,decide_eq_true he⟩)
theorem kC{n a b:Int}(h:within n a b=true):eJ n a b=false:=by unfold eJ;rw [h];rfl
theorem aRj{n a b:Int}(h:within n a b=false):eJ n a b=true:=by unfold eJ;rw [h];rfl
theorem aWm(a b:Int):skB [a,b]=(within a 1 999 && within b (-1) 360000):=rfl
theorem r0(dl:Int)(sk dc:Lqq)(hu:uni 2 sk)(hl:sk.length≤1000):(sk.all skB=false∧∃ i,aD Tp 0 (sub (cd Tryz.f31) ey) (dY dl sk dc 0) .ret (bQ (dY dl sk dc i) [(2,.p (aB 3))]))∨(sk.all skB=true∧aD Tp 0 (sub (cd Tryz.f31) ey) (dY dl sk dc 0) (.exit 0) (dY dl sk dc sk.length)):=by
 rcases aD.find (P:=Tp) (k:=0) (b:=(sub (cd Tryz.f31) ey)) (fun i=>dY dl sk dc i) (fun i _=>bQ (dY dl sk dc i) [(2,.p (aB 3))]) (dY dl sk dc sk.length) .ret (.exit 0) (by simp) (by simp) (fun x => !skB x) sk
  (fun i x hx hp=>by
   obtain ⟨a,b,rfl⟩:=len2 (hu _ (Bl hx));have hp:skB [a,b]=true:=by simpa using hp
   rw [aWm,Ce] at hp
   have:=aM hx;exact bIf (by omega) hx hu (kC hp.1) (kC hp.2) (aI (by omega)) rfl)
  (fun i x hx hp=>by
   obtain ⟨a,b,rfl⟩:=len2 (hu _ (Bl hx));have hp:skB [a,b]=false:=by simpa using hp
   have:=aM hx;rw [aWm] at hp
   cases h1:within a 1 999 with
   | false=>exact bId (by omega) hx hu (aRj h1)
   | true=>rw [h1,gS] at hp;exact bIe (by omega) hx hu (kC h1) (aRj hp))
  (bIg (by omega)) with ⟨i,x,h1,h2,h3,h4⟩ | ⟨h1,h2,h3⟩
 ·exact .inl ⟨by rw [← aDp,eF h2];simp,i,h4⟩
 ·exact .inr ⟨by rw [List.all_eq_not_any_not,h2];rfl,h3⟩
theorem r1 (dl:Int) (sk dc:Lqq) (hu:uni 6 dc) (hl:dc.length≤1000):(dc.all dcB=false∧∃ i,aD Tp 0 (sub (cd Tryz.f31) dv) (cS dl sk dc 0) .ret (bQ (cS dl sk dc i) [(2,.p (aB 3))]))∨(dc.all dcB=true∧aD Tp 0 (sub (cd Tryz.f31) dv) (cS dl sk dc 0) (.exit 2) (cS dl sk dc dc.length)):=by
 rcases aD.find (P:=Tp) (k:=0) (b:=(sub (cd Tryz.f31) dv)) (fun i=>cS dl sk dc i) (fun i _=>bQ (cS dl sk dc i) [(2,.p (aB 3))]) (cS dl sk dc dc.length) .ret (.exit 2) (by simp) (by simp) (fun x => !dcB x) dc
  (fun i x hx hp=>by
   obtain ⟨a,b,c,d,e,f,rfl⟩:=A7 (hu _ (Bl hx));have hp:dcB [a,b,c,d,e,f]=true:=by simpa using hp
   rw [iF,Ce,Ce,Ce] at hp
   obtain ⟨p1,p2,p3,p4⟩:=hp;have:=aM hx;have q2:=bW.1 p2;have q4:=bW.1 p4;have hm:within e 0 36000=true:=bW.2 ⟨q4.1,by have:=q4.2;unfold nJ at this;split at this <;> omega⟩
   by_cases he:0<e
   ·have hk:¬ (b=3∨¬ b≤4∧b≠6):=fun h=>by
     have:=q4.2;unfold nJ at this
     rw [if_pos h] at this
     omega
    exact bIo (by omega) hx hu (kC p1) (kC p2) (kC p3) (kC hm) he (by omega) (by omega) (by omega) (aI (by omega)) rfl
   ·exact bIp (by omega) hx hu (kC p1) (kC p2) (kC p3) (kC hm) (by omega) (aI (by omega)) rfl)
  (fun i x hx hp=>by
   obtain ⟨a,b,c,d,e,f,rfl⟩:=A7 (hu _ (Bl hx));have hp:dcB [a,b,c,d,e,f]=false:=by simpa using hp
   have:=aM hx;rw [iF] at hp
   cases p1:within a 1 9999 with
   | false=>exact bIh (by omega) hx hu (aRj p1)
   | true =>
   cases p2:within b 0 9 with
   | false=>exact bIi (by omega) hx hu (kC p1) (aRj p2)
   | true =>
   cases p3:within c 0 10000 with
   | false=>exact bIj (by omega) hx hu (kC p1) (kC p2) (aRj p3)
   | true =>
   cases p4:within e 0 36000 with
   | false=>exact bIk (by omega) hx hu (kC p1) (kC p2) (kC p3) (aRj p4)
   | true =>
    rw [p1,p2,p3,gS,gS,gS] at hp
    have q2:=bW.1 p2;have q4:=bW.1 p4;have hk:(b=3∨¬ b≤4∧b≠6)∧0<e:=by
     unfold nJ at hp
     split at hp
     ·rename_i hk
      refine ⟨hk,?_⟩
      rcases Int.lt_or_le 0 e with h | h
      ·exact h
      ·rw [bW.2 ⟨q4.1,h⟩] at hp;cases hp
     ·rw [p4] at hp;cases hp
    by_cases h3:b=3
    ·exact bIl (by omega) hx hu (kC p1) (kC p2) (kC p3) (kC p4) hk.2 h3
    ·by_cases h5:b=5
     ·exact bIm (by omega) hx hu (kC p1) (kC p2) (kC p3) (kC p4) hk.2 h3 h5
     ·exact bIn (by omega) hx hu (kC p1) (kC p2) (kC p3) (kC p4) hk.2 h3 h5 (by omega))
  (bIq (by omega)) with ⟨i,x,h1,h2,h3,h4⟩ | ⟨h1,h2,h3⟩
 ·exact .inl ⟨by rw [← aDp,eF h2];simp,i,h4⟩
 ·exact .inr ⟨by rw [List.all_eq_not_any_not,h2];rfl,h3⟩
theorem bBe(sk:Lqq)(v:Int):decide (0≤bJ (fun x=>decide (x.getD 0 0=v)) sk)=(aP sk 0).contains v:=by
 have:=mP (fun x:List Int=>decide (x.getD 0 0=v)) sk
 rw [show decide (0≤bJ (fun x=>decide (x.getD 0 0=v)) sk)=decide (bJ (fun x=>decide (x.getD 0 0=v)) sk ≥ 0) from rfl,this]
 unfold aP;rw [Bool.eq_iff_iff];simp [List.any_eq_true,List.contains_iff_mem,B3]
theorem bRy(sk:Lqq)(a b c d e f:Int):inB sk [a,b,c,d,e,f]=if b≤4 then (aP sk 0).contains d else d == 0:=rfl
theorem r6(dl:Int)(sk dc:Lqq)(us:uni 2 sk)(ls:sk.length≤1000)(hu:uni 6 dc)(hl:dc.length≤1000):(dc.all (inB sk)=false∧∃ i,aD Tp 0 (sub (cd Tryz.f31) c9) (eZ dl sk dc 0) .ret (bQ (eZ dl sk dc i) [(2,.p (aB 1))]))∨(dc.all (inB sk)=true∧aD Tp 0 (sub (cd Tryz.f31) c9) (eZ dl sk dc 0) (.exit 12) (eZ dl sk dc dc.length)):=by
 rcases aD.find (P:=Tp) (k:=0) (b:=(sub (cd Tryz.f31) c9)) (fun i=>eZ dl sk dc i) (fun i _=>bQ (eZ dl sk dc i) [(2,.p (aB 1))]) (eZ dl sk dc dc.length) .ret (.exit 12) (by simp) (by simp) (fun x => !inB sk x) dc
  (fun i x hx hp=>by
   obtain ⟨a,b,c,d,e,f,rfl⟩:=A7 (hu _ (Bl hx));have hp:inB sk [a,b,c,d,e,f]=true:=by simpa using hp
   have:=aM hx;rw [bRy] at hp
   by_cases hb:b≤4
   ·rw [if_pos hb,← bBe] at hp
    exact bJa (by omega) hx hu hb (by omega) us ls (of_decide_eq_true hp) (aI (by omega)) rfl
   ·rw [if_neg hb] at hp
    exact bIy (by omega) hx hu (by omega) (by simpa using hp) (by omega) (aI (by omega)) rfl)
  (fun i x hx hp=>by
   obtain ⟨a,b,c,d,e,f,rfl⟩:=A7 (hu _ (Bl hx));have hp:inB sk [a,b,c,d,e,f]=false:=by simpa using hp
   have:=aM hx;rw [bRy] at hp
   by_cases hb:b≤4
   ·rw [if_pos hb,← bBe] at hp
    have:=of_decide_eq_false hp;exact bIz (by omega) hx hu hb (by omega) us ls (by omega)
   ·rw [if_neg hb] at hp
    exact bIx (by omega) hx hu (by omega) (by simpa using hp))
  (bJb (by omega)) with ⟨i,x,h1,h2,h3,h4⟩ | ⟨h1,h2,h3⟩
 ·exact .inl ⟨by rw [← aDp,eF h2];simp,i,h4⟩
 ·exact .inr ⟨by rw [List.all_eq_not_any_not,h2];rfl,h3⟩
theorem bRz(a b c d e f:Int):orB [a,b,c,d,e,f]=if b≤4 then f == 0 else within f 1 (a-1):=rfl
theorem r7(dl:Int)(sk dc:Lqq)(hu:uni 6 dc)(hl:dc.length≤1000)(hr:∀ x∈dc,inR (x.getD 0 0-1)):(dc.all orB=false∧∃ i,aD Tp 0 (sub (cd Tryz.f31) bt) (fR dl sk dc 0) .ret (bQ (fR dl sk dc i) [(2,.p (aB 4))]))∨(dc.all orB=true∧aD Tp 0 (sub (cd Tryz.f31) bt) (fR dl sk dc 0) (.exit 14) (fR dl sk dc dc.length)):=by
 rcases aD.find (P:=Tp) (k:=0) (b:=(sub (cd Tryz.f31) bt)) (fun i=>fR dl sk dc i) (fun i _=>bQ (fR dl sk dc i) [(2,.p (aB 4))]) (fR dl sk dc dc.length) .ret (.exit 14) (by simp) (by simp) (fun x => !orB x) dc
  (fun i x hx hp=>by
   have hin:=hr x (Bl hx);obtain ⟨a,b,c,d,e,f,rfl⟩:=A7 (hu _ (Bl hx));have hin:inR (a-1):=hin;have hp:orB [a,b,c,d,e,f]=true:=by simpa using hp
   have:=aM hx;rw [bRz] at hp
   by_cases hb:b≤4
   ·rw [if_pos hb] at hp
    exact bJd (by omega) hx hu (by omega) (by simpa using hp) hb (aI (by omega)) rfl
   ·rw [if_neg hb] at hp
    exact bJf (by omega) hx hu (by omega) (by omega) hin (kC hp) (aI (by omega)) rfl)
  (fun i x hx hp=>by
   have hin:=hr x (Bl hx);obtain ⟨a,b,c,d,e,f,rfl⟩:=A7 (hu _ (Bl hx));have hin:inR (a-1):=hin;have hp:orB [a,b,c,d,e,f]=false:=by simpa using hp
   have:=aM hx;rw [bRz] at hp
   by_cases hb:b≤4
   ·rw [if_pos hb] at hp
    exact bJc (by omega) hx hu (by omega) (by simpa using hp)
   ·rw [if_neg hb] at hp
    exact bJe (by omega) hx hu (by omega) (by omega) hin (aRj hp))
  (bJg (by omega)) with ⟨i,x,h1,h2,h3,h4⟩ | ⟨h1,h2,h3⟩
 ·exact .inl ⟨by rw [← aDp,eF h2];simp,i,h4⟩
 ·exact .inr ⟨by rw [List.all_eq_not_any_not,h2];rfl,h3⟩
theorem aWn(dl:Int)(sk dc:Lqq)(us:uni 2 sk)(ud:uni 6 dc){base:Nat}:FV Tp 31 [.p (.agg (bC dl sk dc))] base (.p (aB (cY dl sk dc))) []:=by
 unfold cY
 by_cases h1:(sk.length:Int)<1
 ·rw [if_pos (.inl (by unfold within;rw [decide_eq_false (by omega)];rfl))];exact cFu h1
 by_cases h2:(30:Int)<(sk.length:Int)
 ·rw [if_pos (.inl (by unfold within;rw [decide_eq_false (p:=(sk.length:Int)≤30) (by omega),Bool.and_false]))];exact cFv (by omega) h2
 by_cases h3:(40:Int)<(dc.length:Int)
 ·rw [if_pos (.inr h3)];exact cFw (by omega) (by omega) h3
 have hw:within (sk.length:Int) 1 30=true:=bW.2 (by omega)
 rw [if_neg (by rw [hw];simp;omega)]
 cases h4:within dl 0 10000 with
 | false=>rw [if_pos (.inl rfl)];exact cFx (by omega) (by omega) (by omega) (aRj h4)
 | true =>
 have o4:=kC h4;have a1:(1:Int)≤(sk.length:Int):=by omega
 have a2:(sk.length:Int)≤30:=by omega
 have a3:(dc.length:Int)≤40:=by omega
 rcases r0 dl sk dc us (by omega) with ⟨q0,i0,L0⟩ | ⟨q0,L0⟩
 ·rw [if_pos (.inr (.inl q0))];exact bXt a1 a2 a3 o4 L0
 rcases r1 dl sk dc ud (by omega) with ⟨q1,i1,L1⟩ | ⟨q1,L1⟩
 ·rw [if_pos (.inr (.inr q1))];exact cGd a1 a2 a3 o4 L0 L1
 rw [if_neg (by rw [q0,q1];simp)]
 rcases rso dl sk dc us (by omega) with ⟨q2,i2,L2⟩ | ⟨q2,L2⟩
 ·rw [if_pos (.inl q2)];exact cGc a1 a2 a3 o4 L0 L1 L2
 rcases rdo dl sk dc ud (by omega) with ⟨q3,i3,L3⟩ | ⟨q3,L3⟩
 ·rw [if_pos (.inr q3)];exact cGb a1 a2 a3 o4 L0 L1 L2 L3
 rw [if_neg (by simp [q2,q3])]
 rcases r6 dl sk dc us (by omega) ud (by omega) with ⟨q6,i6,L6⟩ | ⟨q6,L6⟩
 ·rw [if_pos q6];exact cGa a1 a2 a3 o4 L0 L1 L2 L3 L6
 rw [if_neg (by rw [q6];simp)]
 have hr:∀ x∈dc,inR (x.getD 0 0-1):=fun x hx=>by
  have:=iH.1 (gB.1 q1 x hx);unfold inR;omega
 rcases r7 dl sk dc ud (by omega) hr with ⟨q7,i7,L7⟩ | ⟨q7,L7⟩
 ·rw [if_pos q7];exact cFz a1 a2 a3 o4 L0 L1 L2 L3 L6 L7
 rw [if_neg (by rw [q7];simp)]
 exact cFy a1 a2 a3 o4 L0 L1 L2 L3 L6 L7
end
section
variable {dl Hu Hv:Int}{o q dc sk D1:Lqq}{b n b' n':Nat}
variable {dl:Int}{sk dc:Lqq}

noncomputable abbrev aJy:Code:=sub (cd Tryz.f36) [1,1,0,1,0,0]
noncomputable abbrev aJz:Code:=sub (cd Tryz.f36) [1,1,1,0,1,0,0]
theorem aNe{r:Int}(dl:Int)(sk dc:Lqq)(v:Int)(hu:uni 2 sk)(hl:sk.length≤1000)(h:bJ (fun x=>decide (x.getD 0 0=v)) sk=r){base:Nat}:FV Tp 92 [.p (.agg (bC dl sk dc)),.p (aB v)] base (pI r) []:=by
 have q:=aWo dl sk dc v hu hl (base:=base);rw [h] at q
 exact q
theorem bRu{r:Int}(dl:Int)(sk dc:Lqq)(v:Int)(hu:uni 6 dc)(hl:dc.length≤1000)(h:bJ (fun x=>decide (x.getD 0 0=v)) dc=r){base:Nat}:FV Tp 101 [.p (.agg (bC dl sk dc)),.p (aB v)] base (pI r) []:=by
 have q:=cFt dl sk dc v hu hl (base:=base);rw [h] at q
 exact q
def lC(dl:Int)(sk dc:Lqq)(b on:Nat)(oc:List PV):St:=⟨fr 59 [(1,(.ptr 0 0)),(2,(.ptr 1 0)),(3,(.ptr 2 0)),(4,(pI (b:Int)))],[some (.box 61 [(pI dl),(.p (fS sk)),(.p (fS dc))]),some (.box 61 [(pI 0),(.p cC),(.p cC)]),some (.box 61 [(pI dl),(.own 3),(.p cC)]),some (.row 73 on oc)]⟩
def lD(dl:Int)(sk dc D1:Lqq)(n qn:Nat)(qc:List PV):St:=⟨fr 59 [(1,(.ptr 0 0)),(2,(.ptr 1 0)),(3,(.ptr 2 0)),(6,(pI (n:Int)))],[some (.box 61 [(pI dl),(.p (fS sk)),(.p (fS dc))]),some (.box 61 [(pI 0),(.p cC),(.p cC)]),some (.box 61 [(pI dl),(.own 3),(.own 4)]),some (.row 73 D1.length (D1.flatten.map aB)),some (.row 119 qn qc)]⟩
theorem bRv{Xb Rm:Nat}{Nm:Lqq}(hl0:aD Tp 0 aJy (lC dl sk dc 1 0 []) (.exit 0) (lC dl sk dc Xb D1.length (D1.flatten.map aB)))(hl1:aD Tp 0 aJz (lD dl sk dc D1 1 0 []) (.exit 2) (lD dl sk dc D1 Rm Nm.length (Nm.flatten.map aB))){base:Nat}:FV Tp 36 [(.p (.agg (bC dl sk dc)))] base (.p (.agg (bC dl D1 Nm))) []:=FV.frz (FMM.fi 0 ⟨[],[],[3,4],[]⟩ func36 [hl0.k 8 (gN fu ge [(102001,73)]),hl1.k 4 (gN fx [0,1,2,3,4] [(102002,119)])] (gc hl1.code (gc hl0.code gn))) (by kernel_rfl)
section
variable(h0:(b:Int)≤999)(h1:uni 2 sk)(h2:sk.length≤1000)(h3:bJ (fun x=>decide (x.getD 0 0=(b:Int))) sk=Hu)
include h0 h1 h2 h3
theorem aKa{Ab Ac:Int}{o':Lqq}(h4:(0:Int)≤Hu)(h5:sk[Hu.toNat]? = some [Ab,Ac])(h6:0≤Hu)(h7:[(aB Ab),(aB Ac)].length=1*2∧o.length+1≤1000000)(h8:gk b)(Pj:b'=(b+1))(Bq:o'.length=(o.length+1))(Br:o'.flatten.map aB=((o.flatten.map aB)++[(aB Ab),(aB Ac)])):aC Tp 0 aJy (lC dl sk dc b o.length (o.flatten.map aB)) .normal (lC dl sk dc b' o'.length (o'.flatten.map aB)):=by
 subst Pj;rw [Bq,Br];exact aC.fi (gI fu [0,1,2,5]) [bT,.c (pI Hu) [],bT,.x (.agg [(aB Ab),(aB Ac)])] (gc h8 (gc h7 (gt ([(aB Ab),(aB Ac)].length=2) (by first | decide | simp) (gfz h1 h6 h5 (gc (oQ h4) (gc (fk 4 (aNe dl sk dc (b:Int) h1 h2 h3) rfl) (gc (oQ h0) gn)))))))
theorem aKb(h4:Hu<0)(h5:gk b)(Pj:b'=(b+1)):aC Tp 0 aJy (lC dl sk dc b o.length (o.flatten.map aB)) .normal (lC dl sk dc b' o.length (o.flatten.map aB)):=by
 subst Pj;exact aC.fi (gI fu ge) [bT,.c (pI Hu) [],bF] (gc h5 (gc (kZ h4) (gc (fk 4 (aNe dl sk dc (b:Int) h1 h2 h3) rfl) (gc (oQ h0) gn))))
end
theorem aKc(h0:(999:Int)<(b:Int)):aC Tp 0 aJy (lC dl sk dc b o.length (o.flatten.map aB)) (.exit 0) (lC dl sk dc b o.length (o.flatten.map aB)):=aC.fi (gI fu ge) [bF] (gc (kZ h0) gn)
section
variable(h0:(n:Int)≤9999)(h1:(q.length:Int)<(dc.length:Int))(h2:uni 6 dc)(h3:dc.length≤1000)(h4:bJ (fun x=>decide (x.getD 0 0=(n:Int))) dc=Hv)
include h0 h1 h2 h3 h4
theorem aKd{Ah An Aw Ao Al J4:Int}{q':Lqq}(h5:(0:Int)≤Hv)(h6:dc[Hv.toNat]? = some [Ah,An,Aw,Ao,Al,J4])(h7:0≤Hv)(h8:[(aB Ah),(aB An),(aB Aw),(aB Ao),(aB Al),(aB J4)].length=1*6∧q.length+1≤1000000)(h9:gk n)(J3:n'=(n+1))(J5:q'.length=(q.length+1))(J6:q'.flatten.map aB=((q.flatten.map aB)++[(aB Ah),(aB An),(aB Aw),(aB Ao),(aB Al),(aB J4)])):aC Tp 0 aJz (lD dl sk dc D1 n q.length (q.flatten.map aB)) .normal (lD dl sk dc D1 n' q'.length (q'.flatten.map aB)):=by
 subst J3;rw [J5,J6];exact aC.fi (gI fx [0,1,2,3,6]) (rT 9++[.c (pI Hv) [],bT,.x (dcE Ah An Aw Ao Al J4)]) (gc h9 (gc h8 (gt ([(aB Ah),(aB An),(aB Aw),(aB Ao),(aB Al),(aB J4)].length=6) (by first | decide | simp) (gfz h2 h7 h6 (gc (oQ h5) (gc (fk 5 (bRu dl sk dc (n:Int) h2 h3 h4) rfl) (gc (bI h1) (E1 (oQ h0) gn))))))))
theorem aKe(h5:Hv<0)(h6:gk n)(J3:n'=(n+1)):aC Tp 0 aJz (lD dl sk dc D1 n q.length (q.flatten.map aB)) .normal (lD dl sk dc D1 n' q.length (q.flatten.map aB)):=by
 subst J3;exact aC.fi (gI fx [0,1,2,3,4]) (rT 9++[.c (pI Hv) [],bF]) (gc h6 (gc (kZ h5) (gc (fk 5 (bRu dl sk dc (n:Int) h2 h3 h4) rfl) (gc (bI h1) (E1 (oQ h0) gn)))))
end
theorem aKf(h0:(n:Int)≤9999)(h1:(dc.length:Int)≤(q.length:Int)):aC Tp 0 aJz (lD dl sk dc D1 n q.length (q.flatten.map aB)) (.exit 2) (lD dl sk dc D1 n q.length (q.flatten.map aB)):=aC.fi (gI fx [0,1,2,3,4]) (rT 8++[bF]) (gc (aK h1) (E1 (oQ h0) gn))
theorem aKg(h0:(9999:Int)<(n:Int)):aC Tp 0 aJz (lD dl sk dc D1 n q.length (q.flatten.map aB)) (.exit 2) (lD dl sk dc D1 n q.length (q.flatten.map aB)):=aC.fi (gI fx [0,1,2,3,4]) (rF 8) (E1 (kZ h0) gn)
theorem vQ{l:Lqq}{p:List Int→Bool}(h:∀ x∈l,p x=false):l.filter p=[]:=List.filter_eq_nil_iff.2 fun x hx=>by rw [h x hx];simp
theorem xO(n:Int):∀ {l:Lqq},l.Pairwise (fun a b=>a.getD 0 0≤b.getD 0 0)→l.filter (fun x=>decide (x.getD 0 0<n+1))=l.filter (fun x=>decide (x.getD 0 0<n))++l.filter (fun x=>decide (x.getD 0 0=n))
 | [],_=>rfl
 | x::l,h=>by
  rw [aMp] at h
  have ih:=xO n h.2
  rcases Int.lt_trichotomy (x.getD 0 0) n with hx | hx | hx
  ·rw [List.filter_cons_of_pos (by rw [decide_eq_true_iff];omega),List.filter_cons_of_pos (by rw [decide_eq_true_iff];omega),List.filter_cons_of_neg (by rw [decide_eq_true_iff];omega),ih]
   rfl
  ·rw [List.filter_cons_of_pos (by rw [decide_eq_true_iff];omega),List.filter_cons_of_neg (by rw [decide_eq_true_iff];omega),List.filter_cons_of_pos (by rw [decide_eq_true_iff];omega),ih,
    vQ (l:=l) (p:=fun x=>decide (x.getD 0 0<n)) (fun y hy=>decide_eq_false (by have:=h.1 y hy;omega))]
   rfl
  ·rw [List.filter_cons_of_neg (by rw [decide_eq_true_iff];omega),List.filter_cons_of_neg (by rw [decide_eq_true_iff];omega),List.filter_cons_of_neg (by rw [decide_eq_true_iff];omega),ih]
theorem aRf:∀ {l:Lqq} {x:List Int},(aP l 0).Nodup→x∈l→l.filter (fun y=>decide (y.getD 0 0=x.getD 0 0))=[x]
 | [],x,_,h=>by cases h
 | y::l,x,hn,h=>by
  have Fx:=hn;unfold aP at hn
  rw [iB,List.nodup_cons] at hn
  rcases fW.1 h with rfl | h
  ·rw [List.filter_cons_of_pos (by simp),vQ (fun z hz=>decide_eq_false fun e=>hn.1 (B3.2 ⟨z,hz,e⟩))]
  ·rw [List.filter_cons_of_neg (by rw [decide_eq_true_iff];exact fun e=>hn.1 (B3.2 ⟨x,h,e.symm⟩))]
   exact aRf hn.2 h
def upto(f:Lqq)(n:Nat):Lqq:=(aA f).filter fun x=>decide (x.getD 0 0<(n:Int))
theorem uA{f:Lqq}(h:(aP f 0).Nodup):(aP (aA f) 0).Nodup:=((dZ f).map _).nodup_iff.2 h
theorem aRg{f:Lqq}(hn:(aP f 0).Nodup){n:Nat}{x:List Int}(hx:x∈f)(hk:x.getD 0 0=(n:Int)):upto f (n+1)=upto f n++[x]:=by
 unfold upto;have e:((n+1:Nat):Int)=(n:Int)+1:=by omega
 rw [e,xO (n:Int) (iX f)];have:=aRf (uA hn) ((dZ f).mem_iff.2 hx);rw [hk] at this
 rw [this]
theorem aKh{f:Lqq}{n:Nat}(h:∀ x∈f,x.getD 0 0≠(n:Int)):upto f (n+1)=upto f n:=by
 unfold upto;have e:((n+1:Nat):Int)=(n:Int)+1:=by omega
 rw [e,xO (n:Int) (iX f),vQ (l:=aA f) (p:=fun x=>decide (x.getD 0 0=(n:Int))) (fun x hx=>decide_eq_false (h x ((dZ f).mem_iff.1 hx))),List.append_nil]
theorem aRh{f:Lqq}{n:Nat}(h:∀ x∈f,x.getD 0 0<(n:Int)):upto f n=aA f:=List.filter_eq_self.2 fun x hx=>decide_eq_true (h x ((dZ f).mem_iff.1 hx))
theorem bRw{f:Lqq}{n:Nat}(h:f.length≤(upto f n).length):upto f n=aA f:=by
 have h1:(upto f n).length≤(aA f).length:=rZ _ _;have h2:=dC f;exact (List.filter_sublist).eq_of_length (by unfold upto at h h1;omega)
theorem aKi{f:Lqq}(h:∀ x∈f,1≤x.getD 0 0):upto f 1=[]:=vQ fun x hx=>decide_eq_false (by have:=h x ((dZ f).mem_iff.1 hx);omega)
theorem bBd(f:Lqq)(n:Nat):(upto f n).length≤f.length:=by
 have h1:(upto f n).length≤(aA f).length:=rZ _ _;rw [dC] at h1;exact h1
theorem aDn{f:Lqq}{v:Int}(h:0≤bJ (fun x=>decide (x.getD 0 0=v)) f):∃ x,f[(bJ (fun x=>decide (x.getD 0 0=v)) f).toNat]? = some x∧x.getD 0 0=v:=by
 unfold bJ at h ⊢
 cases hq:f.findIdx? fun x=>decide (x.getD 0 0=v) with
 | none=>rw [hq] at h;simp at h
 | some i =>
  obtain ⟨hi,hp,_⟩:=List.findIdx?_eq_some_iff_getElem.1 hq;exact ⟨f[i],by simp [Ay hi],of_decide_eq_true hp⟩
theorem aRi{f:Lqq}{v:Int}(h:bJ (fun x=>decide (x.getD 0 0=v)) f<0):∀ x∈f,x.getD 0 0≠v:=by
 unfold bJ at h
 cases hq:f.findIdx? fun x=>decide (x.getD 0 0=v) with
 | none=>intro x hx e;have:=List.findIdx?_eq_none_iff.1 hq x hx;rw [decide_eq_true e] at this;cases this
 | some i=>rw [hq] at h;simp at h;omega
theorem bRx(dl:Int)(sk dc:Lqq)(h:bO dl sk dc){base:Nat}:FV Tp 36 [.p (.agg (bC dl sk dc))] base (.p (.agg (bC dl (aA sk) (aA dc)))) []:=by
 have l1:=h.len;have l2:=h.len2;have k1:∀ x∈sk,1≤x.getD 0 0∧x.getD 0 0≤999:=fun x hx=>(aNf.1 (h.hsk x hx)).1
 have k2:∀ x∈dc,1≤x.getD 0 0∧x.getD 0 0≤9999:=fun x hx=>(iH.1 (h.hdc x hx)).1
 have L0:aD Tp 0 aJy (lC dl sk dc 1 0 []) (.exit 0) (lC dl sk dc 1000 (aA sk).length ((aA sk).flatten.map aB)):=by
  have L:=aD.count (P:=Tp) (k:=0) (b:=aJy) (e := .exit 0) (R:=lC dl sk dc 1000 (aA sk).length ((aA sk).flatten.map aB)) 999 (fun i=>lC dl sk dc (i+1) (upto sk (i+1)).length ((upto sk (i+1)).flatten.map aB))
   (fun i hi=>by
    by_cases hx:0≤bJ (fun x=>decide (x.getD 0 0=(((i+1:Nat)):Int))) sk
    ·obtain ⟨x,h1,h2⟩:=aDn hx
     obtain ⟨a,b,rfl⟩:=len2 (h.us _ (Bl h1));have e:=aRg h.ns (Bl h1) h2;have:=bBd sk (i+1);exact aKa (b:=i+1) (o:=upto sk (i+1)) (o':=upto sk (i+1+1)) (by omega) h.us (by omega) rfl hx h1 hx ⟨rfl,by omega⟩ (aI (by omega)) rfl (by rw [e];simp) (by rw [e];exact (vR (l:=upto sk (i+1)) (x:=[a,b])).symm)
    ·rw [aKh (n:=i+1) (aRi (by omega))]
     exact aKb (b:=i+1) (by omega) h.us (by omega) rfl (by omega) (aI (by omega)) rfl)
   (by rw [show upto sk (999+1)=aA sk from aRh fun x hx=>by have:=k1 x hx;omega];exact aKc (by omega)) (by simp)
  have e:=aKi (f:=sk) fun x hx=>(k1 x hx).1
  simp only [iC,e] at L
  exact L
 have L1:∀ d i,i+d=10000→1≤i→∃ i',aD Tp 0 aJz (lD dl sk dc (aA sk) i (upto dc i).length ((upto dc i).flatten.map aB)) (.exit 2) (lD dl sk dc (aA sk) i' (aA dc).length ((aA dc).flatten.map aB)):=by
  intro d
  induction d with
  | zero =>
   intro i hi h1;rw [show upto dc i=aA dc from aRh fun x hx=>by have:=k2 x hx;omega]
   exact ⟨i,.exit (aKg (by omega)) (by simp)⟩
  | succ d ih =>
   intro i hi h1
   by_cases hl:dc.length≤(upto dc i).length
   ·rw [bRw hl]
    have:=dC dc;exact ⟨i,.exit (aKf (by omega) (by omega)) (by simp)⟩
   ·obtain ⟨i',ih⟩:=ih (i+1) (by omega) (by omega)
    refine ⟨i',.step ?_ ih⟩
    by_cases hx:0≤bJ (fun x=>decide (x.getD 0 0=((i:Nat):Int))) dc
    ·obtain ⟨x,h1,h2⟩:=aDn hx
     obtain ⟨a,b,c,d,e,f,rfl⟩:=A7 (h.ud _ (Bl h1));have e:=aRg h.nd (Bl h1) h2;have:=bBd dc i;exact aKd (q:=upto dc i) (q':=upto dc (i+1)) (by omega) (by omega) h.ud (by omega) rfl hx h1 hx ⟨rfl,by omega⟩ (aI (by omega)) rfl (by rw [e];simp) (by rw [e];exact (vR (l:=upto dc i)).symm)
    ·rw [aKh (n:=i) (aRi (by omega))]
     exact aKe (by omega) (by omega) h.ud (by omega) rfl (by omega) (aI (by omega)) rfl
 obtain ⟨i',L1⟩:=L1 9999 1 (by omega) (by omega)
 rw [aKi (f:=dc) fun x hx=>(k2 x hx).1] at L1
 exact bRv L0 L1
end
section
mutual
def wkP:PV→PV
 | .v (.slice none 0 0) => .sl 0 []
 | .agg cs => .agg (bSn cs)
 | x=>x
def bSn:List PV→List PV
 | []=>[]
 | x::r=>wkP x::bSn r
end
theorem aRo:∀ l:List PV,bSn l=l.map wkP
 | []=>by simp [bSn]
 | x::r=>by rw [bSn,aRo r];rfl
def P0:AV→AV
 | .p x => .p (wkP x)
 | x=>x
theorem bYz{F:Nat→Prop}{w:World}{x:PV}{u:Value}(h:cM F w x u):cM F w (wkP x) u:=by
 induction h with
 | v x =>
  unfold wkP
  split
  ·rename_i e
   cases e;exact .sl 0 [] none 0 (fun _=>undef) (dF _) (Nat.zero_le _) (fun i h=>by simp at h) (fun i h=>by simp at h) (fun i h=>by simp at h)
  ·rename_i e;cases e
  ·exact .v x
 | sl n cs p cap us h1 h2 h3 h4 h5 _=>unfold wkP;exact .sl n cs p cap us h1 h2 h3 h4 h5
 | agg cs vs h0 h1 _ ih =>
  unfold wkP;rw [aRo];exact .agg _ vs (fun i hi=>h0 i (by simpa using hi)) (by simpa using h1) (fun i hi=>by
   have:=ih i (by simpa using hi)
   simpa using this)
 | mp es b cl arr us hb h0 h1 h2 h3 _=>unfold wkP;exact .mp es b cl arr us hb h0 h1 h2 h3
 | rp cs off b o us h1 h2 h3 _=>unfold wkP;exact .rp cs off b o us h1 h2 h3
theorem bZa{C:Cx}{M:Mem}{w:World}{x:AV}{u:Value}(h:Rep C M w x u):Rep C M w (P0 x) u:=by
 cases h with
 | p x u h=>exact .p _ _ (bYz h)
 | _=>unfold P0;constructor <;> assumption
theorem dL.wk{C:Cx}{M:Mem}{w:World}:∀ {args:List AV} {us:List Value},dL C M w args us→dL C M w (args.map P0) us
 | [],_,h=>by cases h;exact .nil
 | x::l,_,h=>by
  cases h with
  | cons _ _ u us h1 h2=>exact .cons _ _ _ _ (bZa h1) h2.wk
theorem FMM.argwk{P:Program}{f:Nat}{args A1:List AV}{r:AV}{M M':Mem}(h:FMM P f A1 M r M')(e:args.map P0=A1):FMM P f args M r M':=fun C w us hus hM n=>by
 subst e;exact h C w us hus.wk hM n
theorem FV.argwk{P:Program}{f base:Nat}{args A1:List AV}{y:AV}{L:Upd}(h:FV P f A1 base y L)(e:args.map P0=A1):FV P f args base y L:=by
 obtain ⟨r,M1,h1,h2⟩:=h;exact ⟨r,M1,h1.argwk e,h2⟩
end
section
variable {r0:Bool}{m n el:Int}{ec tk:Lqq}{base:Nat}
variable {dl:Int}{sk dc:Lqq}

section
variable(h0:dl=el)(h1:uni 2 sk)(h2:uni 2 tk)(h3:sk.length≤1000)
include h0 h1 h2 h3
theorem cFd(h4:(decide (sk=tk))=true)(h5:uni 6 dc)(h6:uni 6 ec)(h7:dc.length≤1000)(A6:r0=(decide (dc=ec))):FV Tp 35 [(.p (.agg (bC dl sk dc))),(.p (.agg (bC el tk ec)))] base (pB r0) []:=by
 subst A6;have k1:=fk 2 (bSa sk tk h1 h2 h3) rfl;have k2:=fk 2 (cGt dc ec h5 h6 h7) rfl;exact FV.fi func35 (rT 5++[k1.o]++rT 6++[k2.o,bT]) (gc h4 (gc k2 (B0 h4 (gc (bX h0) (gc k1 (B0 (bX h0) gn))))))
theorem cFe(h4:(decide (sk=tk))=false):FV Tp 35 [(.p (.agg (bC dl sk dc))),(.p (.agg (bC el tk ec)))] base (pB false) []:=have k1:=fk 2 (bSa sk tk h1 h2 h3) rfl;FV.fi func35 (rT 5++[k1.o,bT]++rF 6) (Gf h4 (gc (bX h0) (gc k1 (B0 (bX h0) gn))))
end
theorem cFf(h0:dl≠el):FV Tp 35 [(.p (.agg (bC dl sk dc))),(.p (.agg (bC el tk ec)))] base (pB false) []:=FV.fi func35 (rF 6) (Gf (aS h0) gn)
theorem aNd(dl:Int)(sk dc:Lqq)(el:Int)(tk ec:Lqq)(u1:uni 2 sk∧sk.length≤1000)(u2:uni 6 dc∧dc.length≤1000)(v1:uni 2 tk)(v2:uni 6 ec){base:Nat}:FV Tp 35 [.p (.agg (bC dl sk dc)),.p (.agg (bC el tk ec))] base (pB (decide (dl=el∧sk=tk∧dc=ec))) []:=by
 by_cases h1:dl=el
 ·by_cases h2:sk=tk
  ·exact cFd h1 u1.1 v1 u1.2 (decide_eq_true h2) u2.1 v2 u2.2 (by simp [h1,h2])
  ·rw [decide_eq_false (fun h=>h2 h.2.1)];exact cFe h1 u1.1 v1 u1.2 (decide_eq_false h2)
 ·rw [decide_eq_false (fun h=>h1 h.1)];exact cFf h1
theorem cFg(h0:n<(sk.length:Int))(h1:(sk.length:Int)≤30):FV Tp 29 [(.p (.agg (bC dl sk dc))),(pI n),(pI m)] base (pB true) []:=FV.fi func29 (rT 10) (B0 (oQ h1) (Au (bI h0) (g0 h0)))
section
variable(h0:n<(sk.length:Int))(h1:(30:Int)<(sk.length:Int))
include h0 h1
theorem cFh(h2:(35:Int)<(sk.length:Int)):FV Tp 29 [(.p (.agg (bC dl sk dc))),(pI n),(pI m)] base (pB true) []:=FV.fi func29 (rT 5++rF 5++rT 8) (E1 (bI h2) (B0 (kZ h1) (Au (bI h0) (g0 h0))))
theorem cFi(h2:(sk.length:Int)≤35)(h3:m<(dc.length:Int))(h4:(dc.length:Int)≤40):FV Tp 29 [(.p (.agg (bC dl sk dc))),(pI n),(pI m)] base (pB true) []:=FV.fi func29 (rT 5++rF 11++[bT,bT,bT,bT,bF,bT,bF]++rT 5) (B0 (oQ h4) (gc (aK h2) (gc (bI h3) (gc (aK h2) (Au (bI h3) (Gf (aK h2) (B0 (kZ h1) (Au (bI h0) (g0 h0)))))))))
theorem cFj(h2:(sk.length:Int)≤35)(h3:m<(dc.length:Int))(h4:(40:Int)<(dc.length:Int))(A6:r0=(decide ((dc.length:Int) > 45))):FV Tp 29 [(.p (.agg (bC dl sk dc))),(pI n),(pI m)] base (pB r0) []:=by
 subst A6;exact FV.fi func29 (rT 5++rF 11++[bT,bT,bT,bT,bF,bT]++rF 6) (B0 (kZ h4) (gc (aK h2) (gc (bI h3) (gc (aK h2) (Au (bI h3) (Gf (aK h2) (B0 (kZ h1) (Au (bI h0) (g0 h0)))))))))
theorem cFk(h2:(sk.length:Int)≤35)(h3:(dc.length:Int)≤m)(A6:r0=(decide ((dc.length:Int) > 45))):FV Tp 29 [(.p (.agg (bC dl sk dc))),(pI n),(pI m)] base (pB r0) []:=by
 subst A6;exact FV.fi func29 (rT 5++rF 18) (gc (aK h2) (gc (aK h3) (gc (aK h2) (Au (aK h3) (Gf (aK h2) (B0 (kZ h1) (Au (bI h0) (g0 h0))))))))
end
theorem cFl(h0:(sk.length:Int)≤n)(h1:(35:Int)<(sk.length:Int)):FV Tp 29 [(.p (.agg (bC dl sk dc))),(pI n),(pI m)] base (pB true) []:=FV.fi func29 (rF 5++rT 8) (E1 (bI h1) (B0 (aK h0) gn))
section
variable(h0:(sk.length:Int)≤n)(h1:(sk.length:Int)≤35)
include h0 h1
theorem cFm(h2:m<(dc.length:Int))(h3:(dc.length:Int)≤40):FV Tp 29 [(.p (.agg (bC dl sk dc))),(pI n),(pI m)] base (pB true) []:=FV.fi func29 (rF 11++[bT,bT,bT,bT,bF,bT,bF]++rT 5) (B0 (oQ h3) (gc (aK h1) (gc (bI h2) (gc (aK h1) (Au (bI h2) (Gf (aK h1) (B0 (aK h0) gn)))))))
theorem cFn(h2:m<(dc.length:Int))(h3:(40:Int)<(dc.length:Int))(A6:r0=(decide ((dc.length:Int) > 45))):FV Tp 29 [(.p (.agg (bC dl sk dc))),(pI n),(pI m)] base (pB r0) []:=by
 subst A6;exact FV.fi func29 (rF 11++[bT,bT,bT,bT,bF,bT]++rF 6) (B0 (kZ h3) (gc (aK h1) (gc (bI h2) (gc (aK h1) (Au (bI h2) (Gf (aK h1) (B0 (aK h0) gn)))))))
theorem cFo(h2:(dc.length:Int)≤m)(A6:r0=(decide ((dc.length:Int) > 45))):FV Tp 29 [(.p (.agg (bC dl sk dc))),(pI n),(pI m)] base (pB r0) []:=by
 subst A6;exact FV.fi func29 (rF 18) (gc (aK h1) (gc (aK h2) (gc (aK h1) (Au (aK h2) (Gf (aK h1) (B0 (aK h0) gn))))))
end
def wD(sk dc:Lqq)(n m:Int):Bool:=decide ((n<(sk.length:Int)∧(sk.length:Int)≤30)∨(35:Int)<(sk.length:Int)∨(m<(dc.length:Int)∧(dc.length:Int)≤40)∨(45:Int)<(dc.length:Int))
theorem aGc(dl:Int)(sk dc:Lqq)(n m:Int){base:Nat}:FV Tp 29 [.p (.agg (bC dl sk dc)),.p (aB n),.p (aB m)] base (pB (wD sk dc n m)) []:=by
 have T:∀ {p:Prop} [Decidable p],p→true=decide p:=fun h=>(decide_eq_true h).symm
 by_cases h1:n<(sk.length:Int)
 ·by_cases h2:(sk.length:Int)≤30
  ·rw [show wD sk dc n m=true from decide_eq_true (.inl ⟨h1,h2⟩)];exact cFg h1 h2
  by_cases h3:(35:Int)<(sk.length:Int)
  ·rw [show wD sk dc n m=true from decide_eq_true (.inr (.inl h3))];exact cFh h1 (by omega) h3
  by_cases h4:m<(dc.length:Int)
  ·by_cases h5:(dc.length:Int)≤40
   ·rw [show wD sk dc n m=true from decide_eq_true (.inr (.inr (.inl ⟨h4,h5⟩)))];exact cFi h1 (by omega) (by omega) h4 h5
   ·exact cFj h1 (by omega) (by omega) h4 (by omega) (by unfold wD;rw [Bool.eq_iff_iff];simp only [decide_eq_true_eq];omega)
  ·exact cFk h1 (by omega) (by omega) (by omega) (by unfold wD;rw [Bool.eq_iff_iff];simp only [decide_eq_true_eq];omega)
 ·by_cases h3:(35:Int)<(sk.length:Int)
  ·rw [show wD sk dc n m=true from decide_eq_true (.inr (.inl h3))];exact cFl (by omega) h3
  by_cases h4:m<(dc.length:Int)
  ·by_cases h5:(dc.length:Int)≤40
   ·rw [show wD sk dc n m=true from decide_eq_true (.inr (.inr (.inl ⟨h4,h5⟩)))];exact cFm (by omega) (by omega) h4 h5
   ·exact cFn (by omega) (by omega) h4 (by omega) (by unfold wD;rw [Bool.eq_iff_iff];simp only [decide_eq_true_eq];omega)
  ·exact cFo (by omega) (by omega) (by omega) (by unfold wD;rw [Bool.eq_iff_iff];simp only [decide_eq_true_eq];omega)
end
section

theorem aWl(dl:Int)(sk dc:Lqq)(h0:uni 2 sk)(h1:sk.length≤1000)(h2:uni 6 dc)(h3:dc.length≤1000){base:Nat}:FV Tp 27 [.p (.agg (bC dl sk dc))] base (.p (.agg (bC dl sk dc))) []:=cGe h0 h1 h2 h3
end
section
section
variable {α:Type} {E:α→List PV} {k:Nat}
theorem aDq(hE:∀ a,(E a).length=k)(l:List α):((l.map E).flatten).length=l.length*k:=by
 induction l with
 | nil=>simp
 | cons a l ih=>rw [iB,tX,iJ,hE,ih,oE,aIf];omega
theorem aAs(hE:∀ a,(E a).length=k){l:List α}{i:Nat}{e:α}(h:l[i]? = some e):∃ a b,(l.map E).flatten=a++(E e++b)∧a.length=i*k:=by
 obtain ⟨hi,rfl⟩:=Ca.1 h;refine ⟨((l.take i).map E).flatten,((l.drop (i+1)).map E).flatten,?_,?_⟩
 ·have:l=l.take i++(l[i]::l.drop (i+1)):=by rw [← aMo hi,aQw]
  have e2:=congrArg (fun l=>(l.map E).flatten) this
  simp only [iA,iB,aQx,tX] at e2
  exact e2
 ·rw [aDq hE,oD];congr 1;omega
theorem bA{l:List α}{i f:Nat}(hE:∀ a,(E a).length=k){e:α}{x:PV}(h:l[i]? = some e)(hx:(E e)[f]? = some x):((l.map E).flatten)[i*k+f]? = some x:=by
 obtain ⟨a,b,e1,e2⟩:=aAs hE h;have hf:=(Ca.1 hx).1;rw [e1,← e2,xJ (by omega),Nat.add_sub_cancel_left,aAh hf]
 exact hx
theorem fJ{l:List α}{i:Nat}(hE:∀ a,(E a).length=k){e:α}(h:l[i]? = some e):i*k+k≤((l.map E).flatten).length:=by
 obtain ⟨a,b,e1,e2⟩:=aAs hE h;rw [e1,iJ,iJ,hE,e2];omega
theorem dE{l:List α}{i:Nat}(hE:∀ a,(E a).length=k){e:α}(h:l[i]? = some e){x:PV}(hx:PV.agg (E e)=x):some (.agg ((((l.map E).flatten).drop (i*k)).take k):PV)=some x:=by
 obtain ⟨a,b,e1,e2⟩:=aAs hE h;rw [e1,← e2,List.drop_left,List.take_left' (hE e),hx]
theorem cN{l:List α}{i:Int}(hE:∀ a,(E a).length=k)(hk:0<k)(h0:0≤i){e:α}(h:l[i.toNat]? = some e):0≤i∧i<(l.length:Int)∧i.toNat*k<((l.map E).flatten).length:=by
 have hi:=(Ca.1 h).1;refine ⟨h0,by omega,?_⟩
 rw [aDq hE];exact Nat.mul_lt_mul_of_pos_right hi hk
end
end
section
variable {a c l o r u Dv A3 Ar A9 Dw C8 Dx Bt Eh C9 B8:Bool}{b f i k m i' k' Jd Aa Ab Ac Ad Ae Af Ap Ah An Aw Ao Al Ba Dy Bb Dz Hs Bc Cu:Int}{q:List Int}{n n' Ht:Nat}
variable {dl:Int}{sk dc:Lqq}

noncomputable abbrev iO:Code:=sub (cd Tryz.f75) [1,1,0,1,0,0,1,0,0,1,1,1,1,1,1,0,1,0,0]
noncomputable abbrev xN:Code:=sub (cd Tryz.f75) [1,1,0,1,0,0]
noncomputable abbrev sF:Code:=sub (cd Tryz.f75) [1,1,0,1,0,0,1,0,0,1,1,1,1,1,1,1,1,0,1,0,0]
abbrev RS:=Bool × Bool × Bool × Bool × Int × Int × Int
def rsE(s:RS):List PV:=[blP s.1,blP s.2.1,blP s.2.2.1,blP s.2.2.2.1,aB s.2.2.2.2.1,aB s.2.2.2.2.2.1,aB s.2.2.2.2.2.2]
def iE(dl:Int)(sk dc:Lqq)(q:List Int)(i:Int)(Ln:Nat)(Lc:List PV):St:=⟨fr 165 [(1,(.p (aF q))),(2,(.ptr 0 0)),(4,(.p cC)),(5,(.own 1)),(6,(pI i))],[some (.box 61 [(pI dl),(.p (fS sk)),(.p (fS dc))]),some (.row 121 Ln Lc)]⟩
theorem cFc{Bm:Int}{L'1:List RS}(h0:0≤(dc.length:Int)∧(dc.length:Int)≤(dc.length:Int)∧(dc.length:Int)≤1000000)(h1:inR ((dc.length:Int)-1))(C6:aD Tp 0 xN (iE dl sk dc q ((dc.length:Int)-1) dc.length ((List.replicate dc.length [(blP false),(blP false),(blP false),(blP false),(aB 0),(aB 0),(aB 0)]).flatten)) (.exit 0) (iE dl sk dc q Bm L'1.length ((L'1.map rsE).flatten))){base:Nat}:FV Tp 75 [(.p (.agg (bC dl sk dc))),(.p (aF q))] base (.own base) [(base,(.row 121 L'1.length ((L'1.map rsE).flatten)))]:=FV.fi func75 [C6.k 8 (gI f9 [0,1])] (gc C6.code (gc h1 (gc h0 gn)))
def cJ(dl:Int)(sk dc:Lqq)(q:List Int)(i:Int)(L:List RS)(Aa Ab Ac Ad Ae Af k:Int)(l a c u:Bool)(m b f:Int)(r:Bool):St:=⟨fr 165 [(1,(.p (aF q))),(2,(.ptr 0 0)),(4,(.p cC)),(5,(.own 1)),(6,(pI i)),(7,(.ptr 2 0)),(8,(.ptr 3 0)),(9,(pB a)),(10,(pB r)),(11,(pI k))],[some (.box 61 [(pI dl),(.p (fS sk)),(.p (fS dc))]),some (.row 121 L.length ((L.map rsE).flatten)),some (.box 119 [(pI Aa),(pI Ab),(pI Ac),(pI Ad),(pI Ae),(pI Af)]),some (.box 121 [(pB l),(pB c),(pB false),(pB u),(pI m),(pI b),(pI f)])]⟩
def eQ(dl:Int)(sk dc:Lqq)(q:List Int)(i:Int)(L:List RS)(Aa Ab Ac Ad Ae Af:Int)(A9 A3:Bool)(Bc Ba Bb:Int)(Bt:Bool)(n:Nat)(o u:Bool):St:=⟨fr 165 [(1,(.p (aF q))),(2,(.ptr 0 0)),(4,(.p cC)),(5,(.own 1)),(6,(pI i)),(7,(.ptr 2 0)),(8,(.ptr 3 0)),(10,(pB Bt)),(13,(pI (n:Int)))],[some (.box 61 [(pI dl),(.p (fS sk)),(.p (fS dc))]),some (.row 121 L.length ((L.map rsE).flatten)),some (.box 119 [(pI Aa),(pI Ab),(pI Ac),(pI Ad),(pI Ae),(pI Af)]),some (.box 121 [(pB A9),(pB A3),(pB o),(pB u),(pI Bc),(pI Ba),(pI Bb)])]⟩
section
variable{L:List RS}(h0:(0:Int)≤i)(h1:dc[i.toNat]? = some [Aa,Ab,Ac,Ad,Ae,Af])(h2:0≤i)(h3:uni 6 dc)(h4:Ab=4)(h5:inR ((L.length:Int)-1))(E8:aD Tp 0 iO (cJ dl sk dc q i L Aa Ab Ac Ad Ae Af ((L.length:Int)-1) (decide (Ac > dl)) true (!(decide (Ac > dl))) false Ae 0 0 false) (.exit 2) (cJ dl sk dc q i L Aa Ab Ac Ad Ae Af Hs A9 Dv A3 Eh Bc Ba Bb Bt))(h7:Dv=true)
include h0 h1 h2 h3 h4 h5 E8 h7
theorem bHl{L':List RS}(h8:A3=true)(Hn:aD Tp 0 sF (eQ dl sk dc q i L Aa Ab Ac Ad Ae Af A9 A3 Bc Ba Bb Bt 0 (!Bt) Eh) (.exit 4) (eQ dl sk dc q i L Aa Ab Ac Ad Ae Af A9 A3 Bc Ba Bb Bt Ht C8 C9))(A8:0≤i∧i<(L.length:Int))(Be:[(blP A9),(blP A3),(blP C8),(blP C9),(aB Bc),(aB Ba),(aB Bb)].length=7∧(i.toNat*7)+7≤((L.map rsE).flatten).length)(Bo:inR (i-1))(Ai:i'=(i-1))(D9:L'.length=L.length)(Ea:(L'.map rsE).flatten=(((L.map rsE).flatten).take (i.toNat*7)++[(blP A9),(blP A3),(blP C8),(blP C9),(aB Bc),(aB Ba),(aB Bb)]++((L.map rsE).flatten).drop ((i.toNat*7)+7))):aC Tp 0 xN (iE dl sk dc q i L.length ((L.map rsE).flatten)) .normal (iE dl sk dc q i' L'.length ((L'.map rsE).flatten)):=by
 subst Ai;rw [D9,Ea];exact aC.fi (gI f9 [0,1]) ([bT,.x (dcE Aa Ab Ac Ad Ae Af),bT,bT,bT,bT,E8.k 10 (gN co ge [(9,0),(10,0)])]++rT 6++[Hn.k 4 (gI bu ge)]) (gc Bo (gc Be (gc A8 (gc Hn.code (Ak h8 (Ak h7 (gc E8.code (gc h5 (Au (bX h4) (gfz h3 h2 h1 (gc (oQ h0) gn)))))))))))
theorem bHm{L':List RS}(h8:A3=false)(Hn:aD Tp 0 sF (eQ dl sk dc q i L Aa Ab Ac Ad Ae Af A9 A3 Bc Ba Bb Bt 0 false Eh) (.exit 4) (eQ dl sk dc q i L Aa Ab Ac Ad Ae Af A9 A3 Bc Ba Bb Bt Ht C8 C9))(A8:0≤i∧i<(L.length:Int))(Be:[(blP A9),(blP A3),(blP C8),(blP C9),(aB Bc),(aB Ba),(aB Bb)].length=7∧(i.toNat*7)+7≤((L.map rsE).flatten).length)(Bo:inR (i-1))(Ai:i'=(i-1))(D9:L'.length=L.length)(Ea:(L'.map rsE).flatten=(((L.map rsE).flatten).take (i.toNat*7)++[(blP A9),(blP A3),(blP C8),(blP C9),(aB Bc),(aB Ba),(aB Bb)]++((L.map rsE).flatten).drop ((i.toNat*7)+7))):aC Tp 0 xN (iE dl sk dc q i L.length ((L.map rsE).flatten)) .normal (iE dl sk dc q i' L'.length ((L'.map rsE).flatten)):=by
 subst Ai;rw [D9,Ea];exact aC.fi (gI f9 [0,1]) [bT,.x (dcE Aa Ab Ac Ad Ae Af),bT,bT,bT,bT,E8.k 10 (gN co ge [(9,0),(10,0)]),bT,bT,bT,bF,bF,bF,Hn.k 4 (gN bu ge [(103002,0)])] (gc Bo (gc Be (gc A8 (gc Hn.code (Ak h8 (Ak h7 (gc E8.code (gc h5 (Au (bX h4) (gfz h3 h2 h1 (gc (oQ h0) gn)))))))))))
end
section
variable{L:List RS}(h0:(0:Int)≤i)(h1:dc[i.toNat]? = some [Aa,Ab,Ac,Ad,Ae,Af])(h2:0≤i)(h3:uni 6 dc)(h4:Ab≠4)(h5:Ab=7)(h6:inR ((L.length:Int)-1))(Em:aD Tp 0 iO (cJ dl sk dc q i L Aa Ab Ac Ad Ae Af ((L.length:Int)-1) (decide (Ac > dl)) (Ab == 7) (!(decide (Ac > dl))) false Ae 0 0 false) (.exit 2) (cJ dl sk dc q i L Aa Ab Ac Ad Ae Af Hs A9 Dv A3 Eh Bc Ba Bb Bt))(h8:Dv=true)
include h0 h1 h2 h3 h4 h5 h6 Em h8
theorem bHn{L':List RS}(h9:A3=true)(D8:aD Tp 0 sF (eQ dl sk dc q i L Aa Ab Ac Ad Ae Af A9 A3 Bc Ba Bb Bt 0 (!Bt) Eh) (.exit 4) (eQ dl sk dc q i L Aa Ab Ac Ad Ae Af A9 A3 Bc Ba Bb Bt Ht C8 C9))(Be:0≤i∧i<(L.length:Int))(Bo:[(blP A9),(blP A3),(blP C8),(blP C9),(aB Bc),(aB Ba),(aB Bb)].length=7∧(i.toNat*7)+7≤((L.map rsE).flatten).length)(Cl:inR (i-1))(Ai:i'=(i-1))(D9:L'.length=L.length)(Ea:(L'.map rsE).flatten=(((L.map rsE).flatten).take (i.toNat*7)++[(blP A9),(blP A3),(blP C8),(blP C9),(aB Bc),(aB Ba),(aB Bb)]++((L.map rsE).flatten).drop ((i.toNat*7)+7))):aC Tp 0 xN (iE dl sk dc q i L.length ((L.map rsE).flatten)) .normal (iE dl sk dc q i' L'.length ((L'.map rsE).flatten)):=by
 subst Ai;rw [D9,Ea];exact aC.fi (gI f9 [0,1]) ([bT,.x (dcE Aa Ab Ac Ad Ae Af),bF,bF,bF,bF]++rT 6++[Em.k 8 (gN co ge [(10,0)])]++rT 6++[D8.k 4 (gI bu ge)]) (gc Cl (gc Bo (gc Be (gc D8.code (Ak h9 (Ak h8 (gc Em.code (gc h6 (Gf (bX h5) (Au (aS h4) (gfz h3 h2 h1 (gc (oQ h0) gn))))))))))))
theorem bHo{L':List RS}(h9:A3=false)(D8:aD Tp 0 sF (eQ dl sk dc q i L Aa Ab Ac Ad Ae Af A9 A3 Bc Ba Bb Bt 0 false Eh) (.exit 4) (eQ dl sk dc q i L Aa Ab Ac Ad Ae Af A9 A3 Bc Ba Bb Bt Ht C8 C9))(Be:0≤i∧i<(L.length:Int))(Bo:[(blP A9),(blP A3),(blP C8),(blP C9),(aB Bc),(aB Ba),(aB Bb)].length=7∧(i.toNat*7)+7≤((L.map rsE).flatten).length)(Cl:inR (i-1))(Ai:i'=(i-1))(D9:L'.length=L.length)(Ea:(L'.map rsE).flatten=(((L.map rsE).flatten).take (i.toNat*7)++[(blP A9),(blP A3),(blP C8),(blP C9),(aB Bc),(aB Ba),(aB Bb)]++((L.map rsE).flatten).drop ((i.toNat*7)+7))):aC Tp 0 xN (iE dl sk dc q i L.length ((L.map rsE).flatten)) .normal (iE dl sk dc q i' L'.length ((L'.map rsE).flatten)):=by
 subst Ai;rw [D9,Ea];exact aC.fi (gI f9 [0,1]) ([bT,.x (dcE Aa Ab Ac Ad Ae Af),bF,bF,bF,bF]++rT 6++[Em.k 8 (gN co ge [(10,0)]),bT,bT,bT,bF,bF,bF,D8.k 4 (gN bu ge [(103002,0)])]) (gc Cl (gc Bo (gc Be (gc D8.code (Ak h9 (Ak h8 (gc Em.code (gc h6 (Gf (bX h5) (Au (aS h4) (gfz h3 h2 h1 (gc (oQ h0) gn))))))))))))
end
theorem bHp{L L':List RS}(h0:(0:Int)≤i)(h1:dc[i.toNat]? = some [Aa,Ab,Ac,Ad,Ae,Af])(h2:0≤i)(h3:uni 6 dc)(h4:Ab≠4)(h5:Ab≠7)(h6:inR ((L.length:Int)-1))(Em:aD Tp 0 iO (cJ dl sk dc q i L Aa Ab Ac Ad Ae Af ((L.length:Int)-1) false (Ab == 7) true false Ae 0 0 false) (.exit 2) (cJ dl sk dc q i L Aa Ab Ac Ad Ae Af Hs A9 Dv A3 Eh Bc Ba Bb Bt))(h8:Dv=false)(Hn:aD Tp 0 sF (eQ dl sk dc q i L Aa Ab Ac Ad Ae Af A9 A3 Bc Ba Bb Bt 0 false Eh) (.exit 4) (eQ dl sk dc q i L Aa Ab Ac Ad Ae Af A9 A3 Bc Ba Bb Bt Ht C8 C9))(A8:0≤i∧i<(L.length:Int))(Be:[(blP A9),(blP A3),(blP C8),(blP C9),(aB Bc),(aB Ba),(aB Bb)].length=7∧(i.toNat*7)+7≤((L.map rsE).flatten).length)(Bo:inR (i-1))(Ai:i'=(i-1))(D9:L'.length=L.length)(Ea:(L'.map rsE).flatten=(((L.map rsE).flatten).take (i.toNat*7)++[(blP A9),(blP A3),(blP C8),(blP C9),(aB Bc),(aB Ba),(aB Bb)]++((L.map rsE).flatten).drop ((i.toNat*7)+7))):aC Tp 0 xN (iE dl sk dc q i L.length ((L.map rsE).flatten)) .normal (iE dl sk dc q i' L'.length ((L'.map rsE).flatten)):=by
 subst Ai;rw [D9,Ea];exact aC.fi (gI f9 [0,1]) ([bT,.x (dcE Aa Ab Ac Ad Ae Af)]++rF 10++[Em.k 8 (gN co ge [(103000,0),(103001,0),(10,0)]),bF,bF,bF,Hn.k 4 (gN bu ge [(103002,0)])]) (gc Bo (gc Be (gc A8 (gc Hn.code (Ak h8 (gc Em.code (gc h6 (Gf (aS h5) (Au (aS h4) (gfz h3 h2 h1 (gc (oQ h0) gn)))))))))))
theorem bHq{L:List RS}(h0:i<0):aC Tp 0 xN (iE dl sk dc q i L.length ((L.map rsE).flatten)) (.exit 0) (iE dl sk dc q i L.length ((L.map rsE).flatten)):=aC.fi (gI f9 [0,1]) [bF] (gc (kZ h0) gn)
theorem bHr{L:List RS}(h0:i<k)(h1:dc[k.toNat]? = some [Ap,Ah,An,Aw,Ao,Al])(h2:0≤k)(h3:uni 6 dc)(h4:Al≠Aa)(h5:inR (k-1))(Ci:k'=(k-1)):aC Tp 0 iO (cJ dl sk dc q i L Aa Ab Ac Ad Ae Af k l a c u m b f r) .normal (cJ dl sk dc q i L Aa Ab Ac Ad Ae Af k' l a c u m b f r):=by
 subst Ci;exact aC.fi (gI co ge) ([bT,.x (dcE Ap Ah An Aw Ao Al)]++rT 7) (gc h5 (Ja (fH h4) (gfz h3 h2 h1 (g0 h0))))
section
variable{L:List RS}(h0:i<k)(h1:dc[k.toNat]? = some [Ap,Ah,An,Aw,Ao,Al])(h2:0≤k)(h3:uni 6 dc)(h4:Al=Aa)(h5:0≤k∧k<(L.length:Int))(h6:L[k.toNat]? = some (Dw,Ar,Dx,B8,Cu,Dy,Dz))
include h0 h1 h2 h3 h4 h5 h6
theorem bHs(h7:Ar=false)(h8:inR (k-1))(Ci:k'=(k-1)):aC Tp 0 iO (cJ dl sk dc q i L Aa Ab Ac Ad Ae Af k l a c u m b f r) .normal (cJ dl sk dc q i L Aa Ab Ac Ad Ae Af k' l a c u m b f r):=by
 subst Ci;exact aC.fi (gI co ge) ([bT,.x (dcE Ap Ah An Aw Ao Al)]++rF 5++[.x (blP Ar),bF,bF,bT]) (gc h8 (gc (bN h7) (Aq (bG h4) (gt (((L.map rsE).flatten)[((k.toNat*7)+1)]? = some (blP Ar)) (bA (E:=rsE) (i:=k.toNat) (f:=1) (k:=7) (fun _=>rfl) h6 rfl) (Aq (bG h4) (gc h5 (Ak (bG h4) (gfz h3 h2 h1 (g0 h0)))))))))
theorem aWb(h7:Ar=true)(h8:Ah=5)(h9:Ah≤7)(A8:Ah≠6)(Be:inR (k-1))(Ci:k'=(k-1)):aC Tp 0 iO (cJ dl sk dc q i L Aa Ab Ac Ad Ae Af k l a c u m b f r) .normal (cJ dl sk dc q i L Aa Ab Ac Ad Ae Af k' l a false u m b f r):=by
 subst Ci;exact aC.fi (gN co ge [(103001,0)]) ([bT,.x (dcE Ap Ah An Aw Ao Al)]++rF 5++[.x (blP Ar),bF,bF,bF]++rT 8++rF 7) (gc Be (Au (aS A8) (Ak (aK h9) (E1 (bX h8) (gc (aR h7) (Aq (bG h4) (gt (((L.map rsE).flatten)[((k.toNat*7)+1)]? = some (blP Ar)) (bA (E:=rsE) (i:=k.toNat) (f:=1) (k:=7) (fun _=>rfl) h6 rfl) (Aq (bG h4) (gc h5 (Ak (bG h4) (gfz h3 h2 h1 (g0 h0))))))))))))
theorem aWc(h7:Ar=true)(h8:Ah≠5)(h9:Ah=7)(A8:B8=true)(Be:Ab<8)(Bo:Ah≤7)(Cl:Ah≠6)(Ec:inR (k-1))(Ci:k'=(k-1)):aC Tp 0 iO (cJ dl sk dc q i L Aa Ab Ac Ad Ae Af k l a c u m b f r) .normal (cJ dl sk dc q i L Aa Ab Ac Ad Ae Af k' l a false u m b f r):=by
 subst Ci;exact aC.fi (gN co ge [(103001,0)]) ([bT,.x (dcE Ap Ah An Aw Ao Al)]++rF 5++[.x (blP Ar)]++rF 7++rT 5++[.x (blP B8),bF,bT,bF,bT,bT,bT,bF,bT,bF,bT]++rF 7) (gc Ec (Au (aS Cl) (Ak (aK Bo) (gc (bI Be) (gc (aS h8) (gc A8 (gc (aS h8) (Ak A8 (gc (aS h8) (gc (bX h9) (gc (aS h8) (gt (((L.map rsE).flatten)[((k.toNat*7)+3)]? = some (blP B8)) (bA (E:=rsE) (i:=k.toNat) (f:=3) (k:=7) (fun _=>rfl) h6 rfl) (Aq (bX h9) (gc h5 (Ak (bX h9) (Au (aS h8) (gc (aR h7) (Aq (bG h4) (gt (((L.map rsE).flatten)[((k.toNat*7)+1)]? = some (blP Ar)) (bA (E:=rsE) (i:=k.toNat) (f:=1) (k:=7) (fun _=>rfl) h6 rfl) (Aq (bG h4) (gc h5 (Ak (bG h4) (gfz h3 h2 h1 (g0 h0))))))))))))))))))))))))
theorem aWd(h7:Ar=true)(h8:Ah≠5)(h9:Ah=7)(A8:B8=true)(Be:(8:Int)≤Ab)(Bo:Ah≤7)(Cl:Ah≠6)(Ec:inR (k-1))(Ci:k'=(k-1)):aC Tp 0 iO (cJ dl sk dc q i L Aa Ab Ac Ad Ae Af k l a c u m b f r) .normal (cJ dl sk dc q i L Aa Ab Ac Ad Ae Af k' l a c u m b f r):=by
 subst Ci;exact aC.fi (gI co ge) ([bT,.x (dcE Ap Ah An Aw Ao Al)]++rF 5++[.x (blP Ar)]++rF 7++rT 5++[.x (blP B8),bF,bT,bF,bT,bT,bT,bF,bT]++rF 9) (gc Ec (Au (aS Cl) (Ak (aK Bo) (gc (aK Be) (gc (aS h8) (gc A8 (gc (aS h8) (Ak A8 (gc (aS h8) (gc (bX h9) (gc (aS h8) (gt (((L.map rsE).flatten)[((k.toNat*7)+3)]? = some (blP B8)) (bA (E:=rsE) (i:=k.toNat) (f:=3) (k:=7) (fun _=>rfl) h6 rfl) (Aq (bX h9) (gc h5 (Ak (bX h9) (Au (aS h8) (gc (aR h7) (Aq (bG h4) (gt (((L.map rsE).flatten)[((k.toNat*7)+1)]? = some (blP Ar)) (bA (E:=rsE) (i:=k.toNat) (f:=1) (k:=7) (fun _=>rfl) h6 rfl) (Aq (bG h4) (gc h5 (Ak (bG h4) (gfz h3 h2 h1 (g0 h0))))))))))))))))))))))))
theorem aWe(h7:Ar=true)(h8:Ah≠5)(h9:Ah=7)(A8:B8=false)(Be:Ah≤7)(Bo:Ah≠6)(Cl:inR (k-1))(Ci:k'=(k-1)):aC Tp 0 iO (cJ dl sk dc q i L Aa Ab Ac Ad Ae Af k l a c u m b f r) .normal (cJ dl sk dc q i L Aa Ab Ac Ad Ae Af k' l a c u m b f r):=by
 subst Ci;exact aC.fi (gI co ge) ([bT,.x (dcE Ap Ah An Aw Ao Al)]++rF 5++[.x (blP Ar)]++rF 7++rT 5++[.x (blP B8),bF,bT]++rF 14) (gc Cl (Au (aS Bo) (Ak (aK Be) (gc (aS h8) (gc A8 (gc (aS h8) (Ak A8 (gc (aS h8) (gc (bX h9) (gc (aS h8) (gt (((L.map rsE).flatten)[((k.toNat*7)+3)]? = some (blP B8)) (bA (E:=rsE) (i:=k.toNat) (f:=3) (k:=7) (fun _=>rfl) h6 rfl) (Aq (bX h9) (gc h5 (Ak (bX h9) (Au (aS h8) (gc (aR h7) (Aq (bG h4) (gt (((L.map rsE).flatten)[((k.toNat*7)+1)]? = some (blP Ar)) (bA (E:=rsE) (i:=k.toNat) (f:=1) (k:=7) (fun _=>rfl) h6 rfl) (Aq (bG h4) (gc h5 (Ak (bG h4) (gfz h3 h2 h1 (g0 h0)))))))))))))))))))))))
theorem aWf{u':Bool}(h7:Ar=true)(h8:Ah≠5)(h9:Ah≠7)(A8:(7:Int)<Ah)(Be:r=false)(Bo:Ah≠6)(Cl:inR (k-1))(Ci:k'=(k-1))(Xa:u'=(Ah == 8)):aC Tp 0 iO (cJ dl sk dc q i L Aa Ab Ac Ad Ae Af k l a c u m b f r) .normal (cJ dl sk dc q i L Aa Ab Ac Ad Ae Af k' l a c u' m Ap f true):=by
 subst Ci Xa;exact aC.fi (gN co ge [(10,0)]) ([bT,.x (dcE Ap Ah An Aw Ao Al)]++rF 5++[.x (blP Ar)]++rF 17++[bT,bT,bT,bT,bF,bF,bF,bF]) (gc Cl (Au (aS Bo) (gc (bN Be) (Ak (bI A8) (Ak (aS h8) (gc (aS h9) (gc (aS h8) (B0 (aS h9) (Au (aS h8) (gc (aR h7) (Aq (bG h4) (gt (((L.map rsE).flatten)[((k.toNat*7)+1)]? = some (blP Ar)) (bA (E:=rsE) (i:=k.toNat) (f:=1) (k:=7) (fun _=>rfl) h6 rfl) (Aq (bG h4) (gc h5 (Ak (bG h4) (gfz h3 h2 h1 (g0 h0)))))))))))))))))
theorem aWg(h7:Ar=true)(h8:Ah≠5)(h9:Ah≠7)(A8:(7:Int)<Ah)(Be:r=true)(Bo:Ah≠6)(Cl:inR (k-1))(Ci:k'=(k-1)):aC Tp 0 iO (cJ dl sk dc q i L Aa Ab Ac Ad Ae Af k l a c u m b f r) .normal (cJ dl sk dc q i L Aa Ab Ac Ad Ae Af k' l a c u m b f r):=by
 subst Ci;exact aC.fi (gI co ge) ([bT,.x (dcE Ap Ah An Aw Ao Al)]++rF 5++[.x (blP Ar)]++rF 17++[bT,bT,bT]++rF 5) (gc Cl (Au (aS Bo) (gc (aR Be) (Ak (bI A8) (Ak (aS h8) (gc (aS h9) (gc (aS h8) (B0 (aS h9) (Au (aS h8) (gc (aR h7) (Aq (bG h4) (gt (((L.map rsE).flatten)[((k.toNat*7)+1)]? = some (blP Ar)) (bA (E:=rsE) (i:=k.toNat) (f:=1) (k:=7) (fun _=>rfl) h6 rfl) (Aq (bG h4) (gc h5 (Ak (bG h4) (gfz h3 h2 h1 (g0 h0)))))))))))))))))
theorem aWh(h7:Ar=true)(h8:Ah≠5)(h9:Ah≠7)(A8:Ah≤7)(Be:Ah=6)(Bo:f=0)(Cl:inR (k-1))(Ci:k'=(k-1)):aC Tp 0 iO (cJ dl sk dc q i L Aa Ab Ac Ad Ae Af k l a c u m b f r) .normal (cJ dl sk dc q i L Aa Ab Ac Ad Ae Af k' l a c u Cu b Ap r):=by
 subst Ci;exact aC.fi (gI co ge) ([bT,.x (dcE Ap Ah An Aw Ao Al)]++rF 5++[.x (blP Ar)]++rF 20++rT 5++[.x (aB Cu)]) (gc Cl (gt (((L.map rsE).flatten)[((k.toNat*7)+4)]? = some (aB Cu)) (bA (E:=rsE) (i:=k.toNat) (f:=4) (k:=7) (fun _=>rfl) h6 rfl) (gc h5 (gc (bX Bo) (Au (bX Be) (Ak (aK A8) (Ak (aS h8) (gc (aS h9) (gc (aS h8) (B0 (aS h9) (Au (aS h8) (gc (aR h7) (Aq (bG h4) (gt (((L.map rsE).flatten)[((k.toNat*7)+1)]? = some (blP Ar)) (bA (E:=rsE) (i:=k.toNat) (f:=1) (k:=7) (fun _=>rfl) h6 rfl) (Aq (bG h4) (gc h5 (Ak (bG h4) (gfz h3 h2 h1 (g0 h0)))))))))))))))))))
theorem aWi(h7:Ar=true)(h8:Ah≠5)(h9:Ah≠7)(A8:Ah≤7)(Be:Ah=6)(Bo:f≠0)(Cl:inR (k-1))(Ci:k'=(k-1)):aC Tp 0 iO (cJ dl sk dc q i L Aa Ab Ac Ad Ae Af k l a c u m b f r) .normal (cJ dl sk dc q i L Aa Ab Ac Ad Ae Af k' l a c u m b f r):=by
 subst Ci;exact aC.fi (gI co ge) ([bT,.x (dcE Ap Ah An Aw Ao Al)]++rF 5++[.x (blP Ar)]++rF 20++[bT,bT,bT,bT,bF]) (gc Cl (gc (aS Bo) (Au (bX Be) (Ak (aK A8) (Ak (aS h8) (gc (aS h9) (gc (aS h8) (B0 (aS h9) (Au (aS h8) (gc (aR h7) (Aq (bG h4) (gt (((L.map rsE).flatten)[((k.toNat*7)+1)]? = some (blP Ar)) (bA (E:=rsE) (i:=k.toNat) (f:=1) (k:=7) (fun _=>rfl) h6 rfl) (Aq (bG h4) (gc h5 (Ak (bG h4) (gfz h3 h2 h1 (g0 h0)))))))))))))))))
theorem aWj(h7:Ar=true)(h8:Ah≠5)(h9:Ah≠7)(A8:Ah≤7)(Be:Ah≠6)(Bo:inR (k-1))(Ci:k'=(k-1)):aC Tp 0 iO (cJ dl sk dc q i L Aa Ab Ac Ad Ae Af k l a c u m b f r) .normal (cJ dl sk dc q i L Aa Ab Ac Ad Ae Af k' l a c u m b f r):=by
 subst Ci;exact aC.fi (gI co ge) ([bT,.x (dcE Ap Ah An Aw Ao Al)]++rF 5++[.x (blP Ar)]++rF 24) (gc Bo (Au (aS Be) (Ak (aK A8) (Ak (aS h8) (gc (aS h9) (gc (aS h8) (B0 (aS h9) (Au (aS h8) (gc (aR h7) (Aq (bG h4) (gt (((L.map rsE).flatten)[((k.toNat*7)+1)]? = some (blP Ar)) (bA (E:=rsE) (i:=k.toNat) (f:=1) (k:=7) (fun _=>rfl) h6 rfl) (Aq (bG h4) (gc h5 (Ak (bG h4) (gfz h3 h2 h1 (g0 h0))))))))))))))))
end
theorem aWk{L:List RS}(h0:k≤i):aC Tp 0 iO (cJ dl sk dc q i L Aa Ab Ac Ad Ae Af k l a c u m b f r) (.exit 2) (cJ dl sk dc q i L Aa Ab Ac Ad Ae Af k l a c u m b f r):=aC.fi (gI co ge) [bF] (gc (aK h0) gn)
section
variable(h0:(n:Int)<(q.length:Int))(h1:Bt=false)(h2:q[n]? = some Jd)
include h0 h1 h2
theorem bHt{L:List RS}(h3:Jd=Aa)(h4:gk n)(J3:n'=(n+1)):aC Tp 0 sF (eQ dl sk dc q i L Aa Ab Ac Ad Ae Af A9 A3 Bc Ba Bb Bt n o u) .normal (eQ dl sk dc q i L Aa Ab Ac Ad Ae Af A9 A3 Bc Ba Bb Bt n' o true):=by
 subst J3;exact aC.fi (gN bu ge [(103003,0)]) (rT 5++[.x (aB Jd)]++rT 5) (gc h4 (gc (bX h3) (Au (bN h1) (gc (atm aB h2) (gc (bN h1) (gc (ixn aB h2) (Ak (bN h1) (g0 h0))))))))
theorem bHu{L:List RS}(h3:Jd≠Aa)(h4:gk n)(J3:n'=(n+1)):aC Tp 0 sF (eQ dl sk dc q i L Aa Ab Ac Ad Ae Af A9 A3 Bc Ba Bb Bt n o u) .normal (eQ dl sk dc q i L Aa Ab Ac Ad Ae Af A9 A3 Bc Ba Bb Bt n' o u):=by
 subst J3;exact aC.fi (gI bu ge) (rT 5++[.x (aB Jd),bT,bT,bT,bT,bF]) (gc h4 (gc (aS h3) (Au (bN h1) (gc (atm aB h2) (gc (bN h1) (gc (ixn aB h2) (Ak (bN h1) (g0 h0))))))))
end
theorem bHv{L:List RS}(h0:(n:Int)<(q.length:Int))(h1:Bt=true)(h2:gk n)(J3:n'=(n+1)):aC Tp 0 sF (eQ dl sk dc q i L Aa Ab Ac Ad Ae Af A9 A3 Bc Ba Bb Bt n o u) .normal (eQ dl sk dc q i L Aa Ab Ac Ad Ae Af A9 A3 Bc Ba Bb Bt n' o u):=by
 subst J3;exact aC.fi (gI bu ge) ([bT]++rF 8) (gc h2 (E1 (aR h1) (g0 h0)))
theorem bHw{L:List RS}(h0:(q.length:Int)≤(n:Int)):aC Tp 0 sF (eQ dl sk dc q i L Aa Ab Ac Ad Ae Af A9 A3 Bc Ba Bb Bt n o u) (.exit 4) (eQ dl sk dc q i L Aa Ab Ac Ad Ae Af A9 A3 Bc Ba Bb Bt n o u):=aC.fi (gI bu ge) [bF] (gc (aK h0) gn)
end
section
theorem bXq{dl:Int}{sk dc:Lqq}{q:List Int}{i:Int}{L:List RS}{Aa Ab Ac Ad Ae Af k:Int}{l a c u:Bool}{m b f:Int}{r:Bool}{Ap Ah An Aw Ao Al:Int}{Dw Ar Dx B8:Bool}{Cu Dy Dz:Int}(hik:i<k)(hx:dc[k.toNat]? = some [Ap,Ah,An,Aw,Ao,Al])(Gc:0≤k)(hu:uni 6 dc)(hkl:k<(L.length:Int))(hL:L[k.toNat]? = some (Dw,Ar,Dx,B8,Cu,Dy,Dz))(hin:inR (k-(1:Int))) :
  aC Tp 0 (sub (cd Tryz.f75) ba) (cJ dl sk dc q i L Aa Ab Ac Ad Ae Af k l a c u m b f r) .normal (cJ dl sk dc q i L Aa Ab Ac Ad Ae Af (k-1) l a (if (Al=Aa∧Ar=true)∧(Ah=5∨(Ah=7∧B8=true∧Ab<8)) then false else c) (if (Al=Aa∧Ar=true)∧7<Ah∧r=false then Ah == 8 else u) (if (Al=Aa∧Ar=true)∧Ah=6∧f=0 then Cu else m) (if (Al=Aa∧Ar=true)∧7<Ah∧r=false then Ap else b) (if (Al=Aa∧Ar=true)∧Ah=6∧f=0 then Ap else f) (if (Al=Aa∧Ar=true)∧7<Ah then true else r)):=by
 by_cases d0:Al=Aa
 ·by_cases d1:Ar=true
  ·by_cases d2:Ah=(5:Int)
   ·by_cases d3:(7:Int)<Ah
    ·by_cases d4:r=true
     ·by_cases d5:Ah=(6:Int)
      ·by_cases d6:f=(0:Int)
       ·exfalso;omega
       ·exfalso;omega
      ·exfalso;omega
     ·by_cases d5:Ah=(6:Int)
      ·by_cases d6:f=(0:Int)
       ·exfalso;omega
       ·exfalso;omega
      ·exfalso;omega
    ·by_cases d4:Ah=(6:Int)
     ·by_cases d5:f=(0:Int)
      ·exfalso;omega
      ·exfalso;omega
     ·exact (aWb hik hx Gc hu d0 ⟨Gc,hkl⟩ hL d1 d2 (by omega) d4 hin rfl).cast (by simp [d0,d1,d2,d3,d4])
   ·by_cases d3:Ah=(7:Int)
    ·by_cases d4:B8=true
     ·by_cases d5:Ab<(8:Int)
      ·by_cases d6:(7:Int)<Ah
       ·by_cases d7:r=true
        ·by_cases d8:Ah=(6:Int)
         ·by_cases d9:f=(0:Int)
          ·exfalso;omega
          ·exfalso;omega
         ·exfalso;omega
        ·by_cases d8:Ah=(6:Int)
         ·by_cases d9:f=(0:Int)
          ·exfalso;omega
          ·exfalso;omega
         ·exfalso;omega
       ·by_cases d7:Ah=(6:Int)
        ·by_cases d8:f=(0:Int)
         ·exfalso;omega
         ·exfalso;omega
        ·exact (aWc hik hx Gc hu d0 ⟨Gc,hkl⟩ hL d1 d2 d3 d4 d5 (by omega) d7 hin rfl).cast (by simp [d0,d1,d2,d3,d4,d5,d6,d7])
      ·by_cases d6:(7:Int)<Ah
       ·by_cases d7:r=true
        ·by_cases d8:Ah=(6:Int)
         ·by_cases d9:f=(0:Int)
          ·exfalso;omega
          ·exfalso;omega
         ·exfalso;omega
        ·by_cases d8:Ah=(6:Int)
         ·by_cases d9:f=(0:Int)
          ·exfalso;omega
          ·exfalso;omega
         ·exfalso;omega
       ·by_cases d7:Ah=(6:Int)
        ·by_cases d8:f=(0:Int)
         ·exfalso;omega
         ·exfalso;omega
        ·exact (aWd hik hx Gc hu d0 ⟨Gc,hkl⟩ hL d1 d2 d3 d4 (by omega) (by omega) d7 hin rfl).cast (by simp [d0,d1,d2,d3,d4,d5,d6,d7])
     ·by_cases d5:(7:Int)<Ah
      ·by_cases d6:r=true
       ·by_cases d7:Ah=(6:Int)
        ·by_cases d8:f=(0:Int)
         ·exfalso;omega
         ·exfalso;omega
        ·exfalso;omega
       ·by_cases d7:Ah=(6:Int)
        ·by_cases d8:f=(0:Int)
         ·exfalso;omega
         ·exfalso;omega
        ·exfalso;omega
      ·by_cases d6:Ah=(6:Int)
       ·by_cases d7:f=(0:Int)
        ·exfalso;omega
        ·exfalso;omega
       ·exact (aWe hik hx Gc hu d0 ⟨Gc,hkl⟩ hL d1 d2 d3 (by simpa using d4) (by omega) d6 hin rfl).cast (by simp [d0,d1,d2,d3,d4,d5,d6])
    ·by_cases d4:(7:Int)<Ah
     ·by_cases d5:r=true
      ·by_cases d6:Ah=(6:Int)
       ·by_cases d7:f=(0:Int)
        ·exfalso;omega
        ·exfalso;omega
       ·exact (aWg hik hx Gc hu d0 ⟨Gc,hkl⟩ hL d1 d2 d3 d4 d5 d6 hin rfl).cast (by simp [d0,d1,d2,d3,d4,d5,d6])
      ·by_cases d6:Ah=(6:Int)
       ·by_cases d7:f=(0:Int)
        ·exfalso;omega
        ·exfalso;omega
       ·exact (aWf hik hx Gc hu d0 ⟨Gc,hkl⟩ hL d1 d2 d3 d4 (by simpa using d5) d6 hin rfl rfl).cast (by simp [d0,d1,d2,d3,d4,d5,d6])
     ·by_cases d5:Ah=(6:Int)
      ·by_cases d6:f=(0:Int)
       ·exact (aWh hik hx Gc hu d0 ⟨Gc,hkl⟩ hL d1 d2 d3 (by omega) d5 d6 hin rfl).cast (by simp [d0,d1,d2,d3,d4,d5,d6])
       ·exact (aWi hik hx Gc hu d0 ⟨Gc,hkl⟩ hL d1 d2 d3 (by omega) d5 d6 hin rfl).cast (by simp [d0,d1,d2,d3,d4,d5,d6])
      ·exact (aWj hik hx Gc hu d0 ⟨Gc,hkl⟩ hL d1 d2 d3 (by omega) d5 hin rfl).cast (by simp [d0,d1,d2,d3,d4,d5])
  ·exact (bHs hik hx Gc hu d0 ⟨Gc,hkl⟩ hL (by simpa using d1) hin rfl).cast (by simp [d0,d1])
 ·exact (bHr hik hx Gc hu d0 hin rfl).cast (by simp [d0])
end
section

abbrev dN(x:List Int):Int:=x.getD 0 0
abbrev dK(x:List Int):Int:=x.getD 1 0
abbrev dMi(x:List Int):Int:=x.getD 2 0
abbrev dB(x:List Int):Int:=x.getD 3 0
abbrev dMu(x:List Int):Int:=x.getD 4 0
abbrev dAb(x:List Int):Int:=x.getD 5 0
def fA(k:Int):Bool:=k == 4 || k == 7
def cT(k:Int):Bool:=k == 8 || k == 9

def cF(dc:Lqq)(n:Int):Lqq:=dc.reverse.filter fun x=>dAb x == n

structure DS where
 x:List Int
 cnt:Bool
 upd:Bool
 rul:Option (List Int)
 chg:Option (List Int)
 much:Int

def cV(t:List DS)(n:Int):List DS:=t.reverse.filter fun s=>dAb s.x == n
def iI(dl:Int)(x:List Int):Bool:=fA (dK x) && decide (dl<dMi x)
def wR(x y:List Int):Bool:=dK y == 5 || (dK y == 7 && !cT (dK x))
def sU(x:List Int)(s:DS):Bool:=wR x s.x && s.cnt && (dK s.x == 5 || s.upd)
def mkS(dl:Int)(oc x:List Int)(t:List DS):DS :=
 ⟨x,!iI dl x && !((cV t (dN x)).any (sU x)),
  match (cV t (dN x)).find? fun s=>cT (dK s.x) && s.cnt with
   | some s=>dK s.x == 8
   | none=>oc.contains (dN x),
  ((cV t (dN x)).find? fun s=>cT (dK s.x) && s.cnt).map (·.x),
  ((cV t (dN x)).find? fun s=>dK s.x == 6 && s.cnt).map (·.x),
  match (cV t (dN x)).find? fun s=>dK s.x == 6 && s.cnt with
   | some s=>s.much
   | none=>dMu x⟩
def bL(dl:Int)(oc:List Int):Lqq→List DS
 | []=>[]
 | x::r=>mkS dl oc x (bL dl oc r)::bL dl oc r

theorem pY(dl:Int)(oc:List Int):∀ dc:Lqq,(bL dl oc dc).map (·.x)=dc
 | []=>rfl
 | x::r=>by rw [bL,iB,pY dl oc r];rfl
theorem jW(dl:Int)(oc:List Int)(dc:Lqq):(bL dl oc dc).length=dc.length:=by
 have:=congrArg List.length (pY dl oc dc);simpa using this
theorem bZb(dl:Int)(oc:List Int)(dc:Lqq)(n:Int):(cV (bL dl oc dc) n).map (·.x)=cF dc n:=by
 unfold cV cF
 conv=>rhs;rw [← pY dl oc dc]
 rw [← List.map_reverse,List.filter_map];rfl

structure bP (dc:Lqq):Prop where
 ud:uni 6 dc
 len:dc.length≤1000
 rng:∀ x∈dc,dcB x=true
 up:dc.Pairwise fun a b=>dN a<dN b
 ord:∀ x∈dc,orB x=true

theorem bP.tail{x:List Int}{r:Lqq}(h:bP (x::r)):bP r :=
 ⟨fun y hy=>h.ud y (Ch _ hy),by have:=h.len;simp at this;omega,fun y hy=>h.rng y (Ch _ hy),(aMp.1 h.up).2,fun y hy=>h.ord y (Ch _ hy)⟩
theorem aXi{a r:Lqq}{x:List Int}(h:bP (a++x::r)):cF (a++x::r) (dN x)=cF r (dN x):=by
 unfold cF;have e:a++x::r=(a++[x])++r:=by simp
 rw [e,List.reverse_append,oO];have:(a++[x]).reverse.filter (fun y=>dAb y == dN x)=[]:=by
  rw [List.filter_eq_nil_iff];intro y hy;have hy:y∈a++[x]:=yZ.1 hy;have hm:y∈a++x::r:=by rw [e];exact pN _ hy
  have P1:1≤dN x:=(iH.1 (h.rng x (by simp))).1.1
  have hle:dN y≤dN x:=by
   rcases jK.1 hy with hy | hy
   ·exact Int.le_of_lt ((List.pairwise_append.1 h.up).2.2 y hy x (by simp))
   ·simp at hy;rw [hy];exact bEv _
  have ho:=h.ord y hm;unfold orB at ho
  simp only [beq_iff_eq];show ¬ y.getD 5 0=x.getD 0 0
  split at ho
  ·have:y.getD 5 0=0:=by simpa using ho
   unfold dN at P1;omega
  ·have:=bW.1 ho
   unfold dN at hle;omega
 rw [this,List.append_nil]

def aCk(L:List (Int × Lqq))(k:Int):Lqq:=match L.find? fun e=>e.1 == k with
 | some e=>e.2
 | none=>[]
def aIh(L:List (Int × Lqq))(k:Int)(v:Lqq):List (Int × Lqq):=if L.any (fun e=>e.1 == k) then L.map (fun e=>if e.1 == k then (k,v) else e) else L++[(k,v)]
def kD(L:List (Int × Lqq))(x:List Int):List (Int × Lqq):=if 0<dAb x then aIh L (dAb x) (aCk L (dAb x)++[x]) else L
def abM(dc:Lqq):List (Int × Lqq):=dc.reverse.foldl kD []

structure aRr (q:Lqq) (L:List (Int × Lqq)):Prop where
 nd:(L.map (·.1)).Nodup
 mem:∀ e∈L,0<e.1∧e.2≠[]∧e.2=q.filter fun x=>dAb x == e.1
 all:∀ x∈q,0<dAb x→dAb x∈L.map (·.1)
theorem aRr.look{q:Lqq}{L:List (Int × Lqq)}(h:aRr q L){n:Int}(hn:0<n):aCk L n=q.filter fun x=>dAb x == n:=by
 unfold aCk;cases hf:L.find? fun e=>e.1 == n with
 | some e =>
  have h1:=rD hf;have h2:e.1=n:=by simpa using aMr hf
  rw [← h2];exact (h.mem e h1).2.2
 | none =>
  symm;rw [List.filter_eq_nil_iff];intro x hx he;have he:dAb x=n:=by simpa using he
  obtain ⟨e,h1,h2⟩:=B3.1 (h.all x hx (by omega))
  have:=aCz.1 hf e h1;exact this (by rw [h2,he];exact beq_self_eq_true n)
theorem bSp{L:List (Int × Lqq)}{k:Int}{v:Lqq}{e:Int × Lqq}(h:e∈aIh L k v):e=(k,v)∨(e∈L∧e.1≠k):=by
 unfold aIh at h
 split at h
 ·obtain ⟨z,hz,rfl⟩:=B3.1 h
  by_cases hk:z.1=k
  ·left;simp [hk]
  ·right;simp [hk,hz]
 ·rename_i hn
  rcases jK.1 h with h | h
  ·right
   refine ⟨h,fun hk=>hn (List.any_eq_true.2 ⟨e,h,by simpa using hk⟩)⟩
  ·left;simpa using h
theorem bKg{L:List (Int × Lqq)}{k:Int}{v:Lqq}:(k∈L.map (·.1)∧(aIh L k v).map (·.1)=L.map (·.1))∨(k∉L.map (·.1)∧(aIh L k v).map (·.1)=L.map (·.1)++[k]):=by
 unfold aIh
 by_cases h:L.any (fun e=>e.1 == k)=true
 ·left
  rw [if_pos h];refine ⟨?_,?_⟩
  ·obtain ⟨e,h1,h2⟩:=List.any_eq_true.1 h
   exact B3.2 ⟨e,h1,by simpa using h2⟩
  ·rw [wC]
   refine aAi fun e _ => ?_
   by_cases hk:e.1=k
   ·simp [hk]
   ·simp [hk]
 ·right
  rw [if_neg h];refine ⟨fun hm=>h ?_,by simp⟩
  obtain ⟨e,h1,h2⟩:=B3.1 hm;exact List.any_eq_true.2 ⟨e,h1,by simpa using h2⟩
theorem aRr.step{q:Lqq}{L:List (Int × Lqq)}(h:aRr q L)(x:List Int)(hx:0≤dAb x):aRr (q++[x]) (kD L x):=by
 unfold kD
 by_cases hp:0<dAb x
 ·rw [if_pos hp]
  have hk:=bKg (L:=L) (k:=dAb x) (v:=aCk L (dAb x)++[x]);refine ⟨?_,fun e he => ?_,fun y hy h0 => ?_⟩
  ·rcases hk with ⟨_,hk⟩ | ⟨hn,hk⟩
   ·rw [hk];exact h.nd
   ·rw [hk,List.nodup_append]
    exact ⟨h.nd,by simp,fun a ha b hb he=>hn (by rw [← List.mem_singleton.1 hb,← he];exact ha)⟩
  ·rcases bSp he with rfl | ⟨h1,h2⟩
   ·refine ⟨hp,by simp,?_⟩
    dsimp only;rw [h.look hp,oO];simp
   ·obtain ⟨q1,q2,q3⟩:=h.mem e h1
    refine ⟨q1,q2,?_⟩;rw [oO,← q3];have:[x].filter (fun y=>dAb y == e.1)=[]:=by
     rw [List.filter_eq_nil_iff];intro y hy;simp at hy
     subst hy;simpa using fun he=>h2 he.symm
    rw [this,List.append_nil]
  ·have:dAb y=dAb x∨dAb y∈L.map (·.1):=by
    rcases jK.1 hy with hy | hy
    ·exact .inr (h.all y hy h0)
    ·simp at hy;left;rw [hy]
   rcases hk with ⟨hm,hk⟩ | ⟨hn,hk⟩
   ·rw [hk]
    rcases this with h1 | h1
    ·rw [h1];exact hm
    ·exact h1
   ·rw [hk]
    rcases this with h1 | h1
    ·rw [h1];simp
    ·exact pN _ h1
 ·rw [if_neg hp]
  have h0:dAb x=0:=by omega
  refine ⟨h.nd,fun e he => ?_,fun y hy h1 => ?_⟩
  ·obtain ⟨q1,q2,q3⟩:=h.mem e he
   refine ⟨q1,q2,?_⟩;rw [oO,← q3];have:[x].filter (fun y=>dAb y == e.1)=[]:=by
    rw [List.filter_eq_nil_iff];intro y hy;simp at hy
    subst hy;simp only [beq_iff_eq];omega
   rw [this,List.append_nil]
  ·rcases jK.1 hy with hy | hy
   ·exact h.all y hy h1
   ·simp at hy;rw [hy] at h1;omega
theorem aAt:∀ (p q:Lqq) (L:List (Int × Lqq)),aRr q L→(∀ x∈p,0≤dAb x)→aRr (q++p) (p.foldl kD L)
 | [],q,L,h,_=>by simpa using h
 | x::p,q,L,h,hp=>by
  have:=aAt p (q++[x]) (kD L x) (h.step x (hp x (gA ..))) (fun y hy=>hp y (Ch _ hy))
  simpa using this
theorem nY{dc:Lqq}(h:bP dc):∀ x∈dc,0≤dAb x∧dAb x≤9998:=fun x hx=>by
 have h1:=iH.1 (h.rng x hx);have ho:=h.ord x hx;unfold orB at ho
 show 0≤x.getD 5 0∧x.getD 5 0≤9998
 split at ho
 ·have:x.getD 5 0=0:=by simpa using ho
  omega
 ·have:=bW.1 ho;omega
theorem aXj{dc:Lqq}(h:bP dc):aRr dc.reverse (abM dc):=by
 have:=aAt dc.reverse [] [] ⟨by simp,fun e he=>(by cases he),fun x hx=>(by cases hx)⟩ (fun x hx=>(nY h x (by simpa using hx)).1)
 simpa [abM] using this
theorem bSq{dc:Lqq}(h:bP dc){n:Int}(hn:0<n):aCk (abM dc) n=cF dc n:=(aXj h).look hn
end
section

def stF(dl:Int)(oc:List Int)(dc:Lqq)(x:List Int):DS:=((bL dl oc dc).find? fun s=>s.x == x).getD (mkS dl oc x [])
def dP(dl:Int)(oc:List Int)(dc:Lqq)(x:List Int):Bool:=(stF dl oc dc x).cnt
def uH(dl:Int)(oc:List Int)(dc:Lqq)(x:List Int):Bool:=(stF dl oc dc x).upd
def wE(dl:Int)(oc:List Int)(dc:Lqq)(x:List Int):Option (List Int):=(stF dl oc dc x).rul
def aNi(dl:Int)(oc:List Int)(dc:Lqq)(x:List Int):Option (List Int):=(stF dl oc dc x).chg
def jV(dl:Int)(oc:List Int)(dc:Lqq)(x:List Int):Int:=(stF dl oc dc x).much

theorem aRp{a r:Lqq}{x:List Int}(h:bP (a++x::r)){y:List Int}(hy:y∈a):dN y<dN x:=(List.pairwise_append.1 h.up).2.2 y hy x (by simp)
theorem aRq(dl:Int)(oc:List Int){x:List Int}{r:Lqq}:∀ (a:Lqq),bP (a++x::r)→(bL dl oc (a++x::r)).find? (fun s=>s.x == x)=some (mkS dl oc x (bL dl oc r))
 | [],h=>by
  simp only [List.nil_append,bL];rw [List.find?_cons_of_pos];show (mkS dl oc x (bL dl oc r)).x == x;exact beq_self_eq_true x
 | y::a,h=>by
  simp only [List.cons_append,bL];rw [List.find?_cons_of_neg,aRq dl oc a h.tail];show ¬ ((mkS dl oc y (bL dl oc (a++x::r))).x == x)=true;have h1:=aRp h (y:=y) (by simp)
  intro he;have:y=x:=by simpa [mkS] using he
  rw [this] at h1;omega
theorem aGl{dl:Int}{oc:List Int}{a r:Lqq}{x:List Int}(h:bP (a++x::r)):stF dl oc (a++x::r) x=mkS dl oc x (bL dl oc r):=by
 unfold stF;rw [aRq dl oc a h];rfl
theorem bBq(dl:Int)(oc:List Int)(r:Lqq):∀ a:Lqq,∃ l,bL dl oc (a++r)=l++bL dl oc r
 | []=>⟨[],rfl⟩
 | y::a=>by
  obtain ⟨l,h⟩:=bBq dl oc r a;exact ⟨mkS dl oc y (bL dl oc (a++r))::l,by simp [bL,h]⟩
theorem bBr{dl:Int}{oc:List Int}{s:DS}:∀ {dc:Lqq},s∈bL dl oc dc→∃ a r,dc=a++s.x::r∧s=mkS dl oc s.x (bL dl oc r)
 | [],h=>by simp [bL] at h
 | y::q,h=>by
  simp only [bL,fW] at h
  rcases h with rfl | h
  ·exact ⟨[],q,rfl,rfl⟩
  ·obtain ⟨a,r,h1,h2⟩:=bBr h
   exact ⟨y::a,r,by rw [h1];rfl,h2⟩
theorem aKt{dl:Int}{oc:List Int}{dc:Lqq}{s:DS}(h:bP dc)(hs:s∈bL dl oc dc):stF dl oc dc s.x=s:=by
 obtain ⟨a,r,h1,h2⟩:=bBr hs;subst h1;rw [aGl h,← h2]
theorem aXh{dl:Int}{oc:List Int}{dc:Lqq}{x:List Int}(h:bP dc)(hx:x∈dc):(stF dl oc dc x).x=x:=by
 obtain ⟨a,r,rfl⟩:=List.append_of_mem hx;rw [aGl h];rfl
theorem uI{dl:Int}{oc:List Int}{a r:Lqq}{x:List Int}(h:bP (a++x::r)):cV (bL dl oc r) (dN x)=(cF (a++x::r) (dN x)).map (stF dl oc (a++x::r)):=by
 rw [aXi h,← bZb dl oc r (dN x),wC]
 conv=>lhs;rw [← List.map_id (cV (bL dl oc r) (dN x))]
 refine aAi fun s hs => ?_
 have hs:s∈bL dl oc r:=by
  unfold cV at hs
  exact yZ.1 (kY.1 hs).1
 have e:a++x::r=(a++[x])++r:=by simp
 have:s∈bL dl oc (a++x::r):=by
  obtain ⟨l,hl⟩:=bBq dl oc r (a++[x]);rw [e,hl];exact aCy _ hs
 exact (aKt h this).symm

theorem eW{dc:Lqq}{n:Int}{y:List Int}(h:y∈cF dc n):y∈dc∧dAb y=n:=by
 unfold cF at h
 obtain ⟨h1,h2⟩:=kY.1 h;exact ⟨yZ.1 h1,by simpa using h2⟩
section
variable {dl:Int} {oc:List Int} {dc:Lqq} {x:List Int}
theorem cIi(h:bP dc)(l:Lqq)(hl:∀ y∈l,y∈dc)(f:DS→Bool)(g:List Int→Bool)(hfg:∀ y∈dc,f (stF dl oc dc y)=g y):(l.map (stF dl oc dc)).any f=l.any g:=by
 rw [List.any_map]
 induction l with
 | nil=>rfl
 | cons y l ih =>
  rw [List.any_cons,List.any_cons,ih fun z hz=>hl z (Ch _ hz)]
  rw [Function.comp,hfg y (hl y (gA ..))]
theorem aDr(h:bP dc)(l:Lqq)(hl:∀ y∈l,y∈dc)(f:DS→Bool)(g:List Int→Bool)(hfg:∀ y∈dc,f (stF dl oc dc y)=g y):(l.map (stF dl oc dc)).find? f=(l.find? g).map (stF dl oc dc):=by
 induction l with
 | nil=>rfl
 | cons y l ih =>
  rw [iB,List.find?_cons,List.find?_cons,hfg y (hl y (gA ..)),ih fun z hz=>hl z (Ch _ hz)]
  cases g y <;> rfl
theorem cIj(h:bP dc)(hx:x∈dc):dP dl oc dc x=(!iI dl x && !((cF dc (dN x)).any fun y=>wR x y && dP dl oc dc y && (dK y == 5 || uH dl oc dc y))):=by
 obtain ⟨a,r,rfl⟩:=List.append_of_mem hx;unfold dP;rw [aGl h];simp only [mkS];rw [uI h,cIi (dl:=dl) (oc:=oc) h _ (fun y hy=>(eW hy).1) (sU x) (fun y=>wR x y && dP dl oc (a++x::r) y && (dK y == 5 || uH dl oc (a++x::r) y)) (fun y hy => ?_)]
 ·rfl
 ·unfold sU dP uH
  rw [aXh h hy]
theorem wQ{l:Lqq}{g:List Int→Bool}{y:List Int}(h:l.find? g=some y):y∈l:=rD h
theorem aGm(h:bP dc)(l:Lqq)(hl:∀ y∈l,y∈dc)(g:List Int→Bool):((l.find? g).map (stF dl oc dc)).map (·.x)=l.find? g:=by
 cases hf:l.find? g with
 | none=>rfl
 | some y=>simp only [Option.map_some];rw [aXh h (hl y (wQ hf))]
theorem aGn(h:bP dc)(hx:x∈dc):wE dl oc dc x=(cF dc (dN x)).find? fun y=>cT (dK y) && dP dl oc dc y:=by
 obtain ⟨a,r,rfl⟩:=List.append_of_mem hx;unfold wE;rw [aGl h];simp only [mkS];rw [uI h,aDr (dl:=dl) (oc:=oc) h _ (fun y hy=>(eW hy).1) _ (fun y=>cT (dK y) && dP dl oc (a++x::r) y) (fun y hy => ?_),aGm h _ (fun y hy=>(eW hy).1)]
 unfold dP;rw [aXh h hy]
theorem cIk(h:bP dc)(hx:x∈dc):uH dl oc dc x=match wE dl oc dc x with | some y=>dK y == 8 | none=>oc.contains (dN x):=by
 rw [aGn h hx];obtain ⟨a,r,rfl⟩:=List.append_of_mem hx;unfold uH;rw [aGl h];simp only [mkS];rw [uI h,aDr (dl:=dl) (oc:=oc) h _ (fun y hy=>(eW hy).1) _ (fun y=>cT (dK y) && dP dl oc (a++x::r) y) (fun y hy => ?_)]
 ·cases hf:(cF (a++x::r) (dN x)).find? fun y=>cT (dK y) && dP dl oc (a++x::r) y with
  | none=>rfl
  | some y=>simp only [Option.map_some];rw [aXh h (eW (wQ hf)).1]
 ·unfold dP;rw [aXh h hy]
theorem aGo(h:bP dc)(hx:x∈dc):aNi dl oc dc x=(cF dc (dN x)).find? fun y=>dK y == 6 && dP dl oc dc y:=by
 obtain ⟨a,r,rfl⟩:=List.append_of_mem hx;unfold aNi;rw [aGl h];simp only [mkS];rw [uI h,aDr (dl:=dl) (oc:=oc) h _ (fun y hy=>(eW hy).1) _ (fun y=>dK y == 6 && dP dl oc (a++x::r) y) (fun y hy => ?_),aGm h _ (fun y hy=>(eW hy).1)]
 unfold dP;rw [aXh h hy]
theorem bBs(h:bP dc)(hx:x∈dc):jV dl oc dc x=match aNi dl oc dc x with | some y=>jV dl oc dc y | none=>dMu x:=by
 rw [aGo h hx];obtain ⟨a,r,rfl⟩:=List.append_of_mem hx;unfold jV;rw [aGl h];simp only [mkS];rw [uI h,aDr (dl:=dl) (oc:=oc) h _ (fun y hy=>(eW hy).1) _ (fun y=>dK y == 6 && dP dl oc (a++x::r) y) (fun y hy => ?_)]
 ·cases hf:(cF (a++x::r) (dN x)).find? fun y=>dK y == 6 && dP dl oc (a++x::r) y with
  | none=>rfl
  | some y=>rfl
 ·unfold dP;rw [aXh h hy]
theorem bSo(h:bP dc){y:List Int}(hy:y∈dc){n:Int}(hn:dAb y=n)(h1:1≤n):n<dN y:=by
 have ho:=h.ord y hy;unfold orB at ho
 split at ho
 ·have:y.getD 5 0=0:=by simpa using ho
  rw [show y.getD 5 0=dAb y from rfl] at this;omega
 ·have:=bW.1 ho
  rw [show y.getD 5 0=dAb y from rfl] at this
  rw [show y.getD 0 0=dN y from rfl] at this
  omega
end
end
section
abbrev Acc:=Bool × Bool × Int × Int × Int × Bool
def aWa(n kx:Int)(A:Acc)(s:DS):Acc :=
 (if (dAb s.x=n∧s.cnt=true)∧(dK s.x=5∨(dK s.x=7∧s.upd=true∧kx<8)) then false else A.1,
  if (dAb s.x=n∧s.cnt=true)∧7<dK s.x∧A.2.2.2.2.2=false then dK s.x == 8 else A.2.1,
  if (dAb s.x=n∧s.cnt=true)∧dK s.x=6∧A.2.2.2.2.1=0 then s.much else A.2.2.1,
  if (dAb s.x=n∧s.cnt=true)∧7<dK s.x∧A.2.2.2.2.2=false then dN s.x else A.2.2.2.1,
  if (dAb s.x=n∧s.cnt=true)∧dK s.x=6∧A.2.2.2.2.1=0 then dN s.x else A.2.2.2.2.1,
  if (dAb s.x=n∧s.cnt=true)∧7<dK s.x then true else A.2.2.2.2.2)
def cX(dl:Int)(s:DS):RS:=(iI dl s.x,s.cnt,fA (dK s.x) && (s.cnt && s.rul.isNone),s.upd,s.much,(s.rul.map dN).getD 0,(s.chg.map dN).getD 0)
def Og:RS:=(false,false,false,false,0,0,0)
theorem bXo{α:Type}{E:α→List PV}{k:Nat}(hE:∀ a,(E a).length=k){l:List α}{i:Nat}(hi:i<l.length)(e:α):((l.set i e).map E).flatten=((l.map E).flatten).take (i*k)++E e++((l.map E).flatten).drop (i*k+k):=by
 have h1:l.set i e=l.take i++e::l.drop (i+1):=by rw [List.set_eq_take_append_cons_drop,if_pos hi]
 have h2:l=l.take i++l[i]::l.drop (i+1):=by rw [← aMo hi,aQw]
 have hlen:((l.take i).map E).flatten.length=i*k:=by rw [aDq hE,oD];congr 1;omega
 have h3:(l.map E).flatten=((l.take i).map E).flatten++(E l[i]++((l.drop (i+1)).map E).flatten):=by
  have e2:=congrArg (fun l=>(l.map E).flatten) h2
  simp only [iA,iB,aQx,tX] at e2
  exact e2
 rw [h1,h3,← hlen,List.take_left,iA,iB,aQx,tX];have hd:(((l.take i).map E).flatten++(E l[i]++((l.drop (i+1)).map E).flatten)).drop (((l.take i).map E).flatten.length+k)=((l.drop (i+1)).map E).flatten:=by
  rw [← hE l[i],← iJ,← List.append_assoc,List.drop_left]
 rw [hd,List.append_assoc]
theorem cFb(i:Nat)(e:RS)(T:List RS):(List.replicate (i+1) Og++T).set i e=List.replicate i Og++e::T:=by
 rw [List.set_append_left _ _ (by simp),List.replicate_succ',List.set_append_right _ _ (by simp)]
 simp
section
variable {dl:Int} {sk dc:Lqq} {q:List Int} {i:Int} {L:List RS} {Aa Ab Ac Ad Ae Af:Int}
theorem bRt{A:Acc}{lt:Bool}(hlt:lt=(fA Ab && decide (dl<Ac)))(h0:0≤i)(hx:dc[i.toNat]? = some [Aa,Ab,Ac,Ad,Ae,Af])(hu:uni 6 dc)(hil:i<(L.length:Int))(hLl:L.length≤1000)
  (H1:∀ l a,aD Tp 0 (sub (cd Tryz.f75) ba) (cJ dl sk dc q i L Aa Ab Ac Ad Ae Af ((L.length:Int)-(1:Int)) l a (!lt) false Ae 0 0 false) (.exit 2) (cJ dl sk dc q i L Aa Ab Ac Ad Ae Af i l a A.1 A.2.1 A.2.2.1 A.2.2.2.1 A.2.2.2.2.1 A.2.2.2.2.2))
  (H2:∀ l c m b f o u,aD Tp 0 (sub (cd Tryz.f75) az) (eQ dl sk dc q i L Aa Ab Ac Ad Ae Af l c m b f A.2.2.2.2.2 0 o u) (.exit 4) (eQ dl sk dc q i L Aa Ab Ac Ad Ae Af l c m b f A.2.2.2.2.2 q.length o (u || (!A.2.2.2.2.2 && q.contains Aa)))) :
  aC Tp 0 (sub (cd Tryz.f75) fy) (iE dl sk dc q i L.length ((L.map rsE).flatten)) .normal (iE dl sk dc q (i-1) (L.set i.toNat (lt,A.1,fA Ab && (A.1 && !A.2.2.2.2.2),A.2.1 || (!A.2.2.2.2.2 && q.contains Aa),A.2.2.1,A.2.2.2.1,A.2.2.2.2.1)).length (((L.set i.toNat (lt,A.1,fA Ab && (A.1 && !A.2.2.2.2.2),A.2.1 || (!A.2.2.2.2.2 && q.contains Aa),A.2.2.1,A.2.2.2.1,A.2.2.2.2.1)).map rsE).flatten)):=by
 have hi:i.toNat<L.length:=by omega
 have hin:inR ((L.length:Int)-(1:Int)):=by unfold inR;omega
 have J2:inR (i-(1:Int)):=by unfold inR;omega
 have hc:∀ o:Bool,[(blP lt),(blP A.1),(blP o),(blP (A.2.1 || (!A.2.2.2.2.2 && q.contains Aa))),(aB A.2.2.1),(aB A.2.2.2.1),(aB A.2.2.2.2.1)].length=7∧(i.toNat*7)+7≤((L.map rsE).flatten).length:=fun o=>⟨rfl,by
  rw [aDq (k:=7) (fun _=>rfl)]
  have:=Nat.mul_le_mul_right 7 (show i.toNat+1≤L.length from hi)
  omega⟩
 have hs:=fun e=>bXo (E:=rsE) (k:=7) (fun _=>rfl) hi e
 by_cases h4:Ab=4
 ·have e1:lt=decide (Ac > dl):=by rw [hlt,h4];rfl
  have e2:fA Ab=true:=by rw [h4];rfl
  have H1':=H1 lt true;have ht:decide (Ac > dl)=lt:=e1.symm;rw [e2];cases hA:A.1 with
  | true =>
   rw [hA] at H1'
   exact bHl (Dv:=true) (A3:=true) h0 hx h0 hu h4 hin (by rw [ht];exact H1') rfl rfl (H2 _ _ _ _ _ _ _) ⟨h0,hil⟩ (by have:=hc (!A.2.2.2.2.2);rw [hA] at this;exact this) J2 rfl (by rw [oP]) (hs _)
  | false =>
   rw [hA] at H1'
   exact bHm (Dv:=true) (A3:=false) h0 hx h0 hu h4 hin (by rw [ht];exact H1') rfl rfl (H2 _ _ _ _ _ _ _) ⟨h0,hil⟩ (by have:=hc false;rw [hA] at this;exact this) J2 rfl (by rw [oP]) (hs _)
 ·by_cases h7:Ab=7
  ·have e1:lt=decide (Ac > dl):=by rw [hlt,h7];rfl
   have e2:fA Ab=true:=by rw [h7];rfl
   have H1':=H1 lt (Ab == 7);have ht:decide (Ac > dl)=lt:=e1.symm;have ha:(Ab == 7)=true:=by rw [h7];rfl
   rw [e2];cases hA:A.1 with
   | true =>
    rw [hA] at H1'
    exact bHn (A3:=true) h0 hx h0 hu h4 h7 hin (by rw [ht];exact H1') ha rfl (H2 _ _ _ _ _ _ _) ⟨h0,hil⟩ (by have:=hc (!A.2.2.2.2.2);rw [hA] at this;exact this) J2 rfl (by rw [oP]) (hs _)
   | false =>
    rw [hA] at H1'
    exact bHo (A3:=false) h0 hx h0 hu h4 h7 hin (by rw [ht];exact H1') ha rfl (H2 _ _ _ _ _ _ _) ⟨h0,hil⟩ (by have:=hc false;rw [hA] at this;exact this) J2 rfl (by rw [oP]) (hs _)
  ·have e2:fA Ab=false:=by unfold fA;simp [h4,h7]
   have e1:lt=false:=by rw [hlt,e2];rfl
   have ha:(Ab == 7)=false:=by simpa using h7
   rw [e1] at H1 hc ⊢
   rw [e2];exact bHp h0 hx h0 hu h4 h7 hin (H1 false (Ab == 7)) ha (H2 _ _ _ _ _ _ _) ⟨h0,hil⟩ (hc false) J2 rfl (by rw [oP]) (hs _)
theorem bXp(l c:Bool)(m b f:Int)(r o u:Bool)(hq:q.length≤1000):aD Tp 0 (sub (cd Tryz.f75) az) (eQ dl sk dc q i L Aa Ab Ac Ad Ae Af l c m b f r 0 o u) (.exit 4) (eQ dl sk dc q i L Aa Ab Ac Ad Ae Af l c m b f r q.length o (u || (!r && q.contains Aa))):=by
 have:=aD.range (P:=Tp) (k:=0) (b:=sub (cd Tryz.f75) az) (e := .exit 4) (fun n u=>eQ dl sk dc q i L Aa Ab Ac Ad Ae Af l c m b f r n o u) (fun u=>eQ dl sk dc q i L Aa Ab Ac Ad Ae Af l c m b f r q.length o u) (fun u (y:Int)=>u || (!r && y == Aa)) (fun _ _=>True) (by simp) q (a0:=u) trivial
  (fun n y u hy _=>by
   have hn:=aM hy;refine ⟨trivial,?_⟩;cases r with
   | true=>rw [show (u || (!true && y == Aa))=u by simp];exact bHv (by omega) rfl (aI (by omega)) rfl
   | false =>
    by_cases he:y=Aa
    ·rw [show (u || (!false && y == Aa))=true by simp [he]];exact bHt (by omega) rfl hy he (aI (by omega)) rfl
    ·rw [show (u || (!false && y == Aa))=u by simp [he]];exact bHu (by omega) rfl hy he (aI (by omega)) rfl)
  (fun u _=>bHw (by omega))
 have e:∀ (q:List Int) (u:Bool),q.foldl (fun u (y:Int)=>u || (!r && y == Aa)) u=(u || (!r && q.contains Aa)):=by
  intro q
  induction q with
  | nil=>intro u;simp
  | cons a q ih =>
   intro u;rw [kO,ih,List.contains_cons];cases u <;> cases r <;> simp [Bool.or_assoc,eq_comm,BEq.comm]
 rw [e] at this
 exact this
end
end
section
theorem aVz(s:DS)(T:List DS)(n:Int):cV (s::T) n=cV T n++(if dAb s.x=n then [s] else []):=by
 unfold cV;rw [List.reverse_cons,oO]
 congr 1
 by_cases h:dAb s.x=n
 ·rw [if_pos h,List.filter_cons_of_pos (by simpa using h)];rfl
 ·rw [if_neg h,List.filter_cons_of_neg (by simpa using h)];rfl
abbrev prB(s:DS):Bool:=cT (dK s.x) && s.cnt
abbrev pcB(s:DS):Bool:=dK s.x == 6 && s.cnt
def uOf:Option DS→Bool
 | some s=>dK s.x == 8
 | none=>false
def mOf(x:List Int):Option DS→Int
 | some s=>s.much
 | none=>dMu x
def nOf:Option DS→Int
 | some s=>dN s.x
 | none=>0
def oG(x:List Int)(c0:Bool)(l:List DS):Acc :=
 (c0 && !(l.any (sU x)),uOf (l.find? prB),mOf x (l.find? pcB),nOf (l.find? prB),nOf (l.find? pcB),(l.find? prB).isSome)
theorem Mm(p:DS→Bool)(s:DS):[s].find? p=if p s=true then some s else none:=by
 cases h:p s with
 | true=>rw [List.find?_cons_of_pos h];rfl
 | false=>rw [List.find?_cons_of_neg (by rw [h];simp)];rfl
theorem aRd{x:List Int}(hx:dK x≤9){s:DS}(hc:s.cnt=true):sU x s=true↔(dK s.x=5∨dK s.x=7∧s.upd=true∧dK x<8):=by
 have W8:(dK x<8)↔cT (dK x)=false:=by
  unfold cT;rw [Bool.or_eq_false_iff,beq_eq_false_iff_ne,beq_eq_false_iff_ne];constructor
  ·intro h;constructor <;> omega
  ·rintro ⟨h2,h3⟩;omega
 rw [W8];unfold sU wR;rw [hc];simp only [Ce,wB,beq_iff_eq,Bool.not_eq_true',and_true];constructor
 ·rintro ⟨h2 | ⟨h2,h3⟩,h4 | h4⟩
  ·exact .inl h2
  ·exact .inl h2
  ·exact .inl h4
  ·exact .inr ⟨h2,h4,h3⟩
 ·rintro (h2 | ⟨h2,h3,h4⟩)
  ·exact ⟨.inl h2,.inl h2⟩
  ·exact ⟨.inr ⟨h2,h4⟩,.inr h3⟩
theorem bHk{x:List Int}(hx:dK x≤9)(c0:Bool){l:List DS}(hl:∀ s∈l,1≤dN s.x){s:DS}(hs:dK s.x≤9):aWa (dN x) (dK x) (oG x c0 l) s=oG x c0 (l++(if dAb s.x=dN x then [s] else [])):=by
 by_cases h1:dAb s.x=dN x
 ·rw [if_pos h1]
  have W9:(7<dK s.x)↔cT (dK s.x)=true:=by
   unfold cT;rw [wB,beq_iff_eq,beq_iff_eq];omega
  have hf:(nOf (l.find? pcB)=0)↔(l.find? pcB)=none:=by
   cases hc:l.find? pcB with
   | none=>exact ⟨fun _=>rfl,fun _=>rfl⟩
   | some y =>
    have:=hl y (rD hc);exact ⟨fun h=>absurd (show dN y.x=0 from h) (by omega),fun h=>by cases h⟩
  unfold oG;rw [List.any_append,List.find?_append,List.find?_append,Mm,Mm,List.any_cons,List.any_nil,Bool.or_false];cases hc:s.cnt with
  | false =>
   have e1:sU x s=false:=by unfold sU;rw [hc,Bool.and_false,Bool.false_and]
   have e2:¬ prB s=true:=by show ¬ (cT (dK s.x) && s.cnt)=true;rw [hc,Bool.and_false];simp
   have e3:¬ pcB s=true:=by show ¬ (dK s.x == 6 && s.cnt)=true;rw [hc,Bool.and_false];simp
   rw [if_neg e2,if_neg e3,e1,Bool.or_false,Option.or_none,Option.or_none];unfold aWa;have hn:¬ (dAb s.x=dN x∧s.cnt=true):=by rw [hc];simp
   rw [if_neg (fun q=>hn q.1),if_neg (fun q=>hn q.1),if_neg (fun q=>hn q.1),if_neg (fun q=>hn q.1),if_neg (fun q=>hn q.1),if_neg (fun q=>hn q.1)]
  | true =>
   have hh:dAb s.x=dN x∧s.cnt=true:=⟨h1,hc⟩;have p1:(prB s=true)↔7<dK s.x:=by
    rw [W9];show (cT (dK s.x) && s.cnt)=true↔_;rw [hc,Bool.and_true]
   have p2:(pcB s=true)↔dK s.x=6:=by
    show (dK s.x == 6 && s.cnt)=true↔_;rw [hc,Bool.and_true,beq_iff_eq]
   unfold aWa;refine Prod.ext ?_ (Prod.ext ?_ (Prod.ext ?_ (Prod.ext ?_ (Prod.ext ?_ ?_))))
   ·show (if (dAb s.x=dN x∧s.cnt=true)∧(dK s.x=5∨dK s.x=7∧s.upd=true∧dK x<8) then false else (c0 && !(l.any (sU x))))=(c0 && !(l.any (sU x) || sU x s))
    by_cases h:dK s.x=5∨dK s.x=7∧s.upd=true∧dK x<8
    ·rw [if_pos ⟨hh,h⟩,(aRd hx hc).2 h];simp
    ·rw [if_neg (fun q=>h q.2),show sU x s=false from Bool.eq_false_iff.2 fun q=>h ((aRd hx hc).1 q)];simp
   ·show (if (dAb s.x=dN x∧s.cnt=true)∧7<dK s.x∧(l.find? prB).isSome=false then dK s.x == 8 else uOf (l.find? prB))=uOf ((l.find? prB).or (if prB s=true then some s else none))
    cases hr:l.find? prB with
    | some y=>rw [if_neg (fun q=>by cases q.2.2)];rfl
    | none =>
     by_cases h7:7<dK s.x
     ·rw [if_pos ⟨hh,h7,rfl⟩,if_pos (p1.2 h7)];rfl
     ·rw [if_neg (fun q=>h7 q.2.1),if_neg (fun q=>h7 (p1.1 q))];rfl
   ·show (if (dAb s.x=dN x∧s.cnt=true)∧dK s.x=6∧nOf (l.find? pcB)=0 then s.much else mOf x (l.find? pcB))=mOf x ((l.find? pcB).or (if pcB s=true then some s else none))
    cases hr:l.find? pcB with
    | some y =>
     rw [hr] at hf
     rw [if_neg (fun q=>by cases hf.1 q.2.2)];rfl
    | none =>
     by_cases h7:dK s.x=6
     ·rw [if_pos ⟨hh,h7,rfl⟩,if_pos (p2.2 h7)];rfl
     ·rw [if_neg (fun q=>h7 q.2.1),if_neg (fun q=>h7 (p2.1 q))];rfl
   ·show (if (dAb s.x=dN x∧s.cnt=true)∧7<dK s.x∧(l.find? prB).isSome=false then dN s.x else nOf (l.find? prB))=nOf ((l.find? prB).or (if prB s=true then some s else none))
    cases hr:l.find? prB with
    | some y=>rw [if_neg (fun q=>by cases q.2.2)];rfl
    | none =>
     by_cases h7:7<dK s.x
     ·rw [if_pos ⟨hh,h7,rfl⟩,if_pos (p1.2 h7)];rfl
     ·rw [if_neg (fun q=>h7 q.2.1),if_neg (fun q=>h7 (p1.1 q))];rfl
   ·show (if (dAb s.x=dN x∧s.cnt=true)∧dK s.x=6∧nOf (l.find? pcB)=0 then dN s.x else nOf (l.find? pcB))=nOf ((l.find? pcB).or (if pcB s=true then some s else none))
    cases hr:l.find? pcB with
    | some y =>
     rw [hr] at hf
     rw [if_neg (fun q=>by cases hf.1 q.2.2)];rfl
    | none =>
     by_cases h7:dK s.x=6
     ·rw [if_pos ⟨hh,h7,rfl⟩,if_pos (p2.2 h7)];rfl
     ·rw [if_neg (fun q=>h7 q.2.1),if_neg (fun q=>h7 (p2.1 q))];rfl
   ·show (if (dAb s.x=dN x∧s.cnt=true)∧7<dK s.x then true else (l.find? prB).isSome)=((l.find? prB).or (if prB s=true then some s else none)).isSome
    by_cases h7:7<dK s.x
    ·rw [if_pos ⟨hh,h7⟩,if_pos (p1.2 h7)]
     cases l.find? prB <;> rfl
    ·rw [if_neg (fun q=>h7 q.2),if_neg (fun q=>h7 (p1.1 q)),Option.or_none]
 ·rw [if_neg h1,List.append_nil]
  unfold aWa;rw [if_neg (fun q=>h1 q.1.1),if_neg (fun q=>h1 q.1.1),if_neg (fun q=>h1 q.1.1),if_neg (fun q=>h1 q.1.1),if_neg (fun q=>h1 q.1.1),if_neg (fun q=>h1 q.1.1)]
theorem aRe{x:List Int}(hx:dK x≤9)(c0:Bool):∀ {T:List DS},(∀ s∈T,1≤dN s.x∧dK s.x≤9)→T.reverse.foldl (aWa (dN x) (dK x)) (c0,false,dMu x,0,0,false)=oG x c0 (cV T (dN x))
 | [],_=>by
  show (c0,false,dMu x,(0:Int),(0:Int),false)=(c0 && true,false,dMu x,(0:Int),(0:Int),false);rw [Bool.and_true]
 | s::T,h=>by
  rw [List.reverse_cons,aDa,aRe hx c0 (fun y hy=>h y (Ch _ hy)),kO,List.foldl_nil,aVz]
  refine bHk hx c0 (fun y hy => ?_) (h s (gA ..)).2
  unfold cV at hy
  exact (h y (Ch _ (yZ.1 (kY.1 hy).1))).1
end
section

theorem cNy{dc:Lqq}{base:Nat}:FV Tp 147 [(.p (fS dc))] base (.fn 187 [] [(.rp [(fS dc)] 0)]) []:=FV.fi func147 [.g 3 ⟨[],[],[0],[]⟩] gn
end
section
variable {P:Program} {C C0:Cx} {M M0:Mem} {w w0:World}

theorem cH{w:World}{b:Nat}{o:Obj}(h:w.heap[b]? = some o):b<w.heap.size:=(nR.1 h).1

theorem aGw(hM:aU P C M w){w':World}(hsz:w.heap.size≤w'.heap.size)(hF:∀ b,C.F b→w'.heap[b]? = w.heap[b]?)(hL:∀ (id:Nat) (o:AO) (b:Nat),M[id]? = some (some o)→o.live=true→C.ι id=some b→w'.heap[b]? = w.heap[b]?) :
  aU P C M w'∧Le C C M M w w':=by
 have hle:Le C C M M w w':=⟨fun _ o h=>⟨o,h⟩,fun _ _ _ _ _ cs h=>⟨cs,h⟩,fun _ o h o' h' hl=>by rw [h] at h';cases h';exact ⟨hl,rfl,rfl⟩,fun _ h=>h,hF⟩
 refine ⟨⟨fun i Du n cs hm => ?_,fun i Du cs hm => ?_,fun i es cl hm => ?_,hM.inj,hM.nF,fun b hb=>gF (hM.Fs b hb) hsz,fun i x b hm hl hb=>gF (hM.lt i x b hm hl hb) hsz⟩,hle⟩
 ·rcases hM.row _ _ _ _ hm with h4 | ⟨b,arr,inf,q0,q1,q2,q3,q4,q5,q6,q7,q8⟩
  ·exact .inl h4
  ·exact .inr ⟨b,arr,inf,q0,by rw [hL _ _ _ hm rfl q0];exact q1,q2,q3,q4,q5,q6,fun j hj=>(q7 j hj).mono hle.F hle.fz,q8⟩
 ·obtain ⟨b,arr,q0,q1,q2,q3,q4⟩:=hM.box _ _ _ hm
  exact ⟨b,arr,q0,by rw [hL _ _ _ hm rfl q0];exact q1,q2,fun j hj=>(q3 j hj).mono hle,q4⟩
 ·obtain ⟨b,arr,q0,q1,q2,q3⟩:=hM.mp _ _ _ hm
  refine ⟨b,arr,q0,by rw [hL _ _ _ hm rfl q0];exact q1,q2,fun j hj => ?_⟩
  obtain ⟨en,r1,r2,r3,r4⟩:=q3 j hj;exact ⟨en,r1,r2,r3,r4.mono hle.F hle.fz⟩

theorem Sim.beside{R R':List (Nat × Obj)}{st:St}{a:Act}{w':World}(h:Sim P (C0.with R) M0 w0 st a w)(X:Nat→Prop)(hX:∀ b,X b→∃ o,(b,o)∈R)(h1:w'.os=w.os)(h2:w'.tape=w.tape)(h3:w'.output=w.output)
  (hsz:w.heap.size≤w'.heap.size) (hk:∀ b,b<w.heap.size→¬ X b→w'.heap[b]? = w.heap[b]?)
  (Vt:∀ p∈R',(p∈R∧¬ X p.1)∨(w'.heap[p.1]? = some p.2∧p.2 ≠ .deferred (some [])∧(w.heap.size≤p.1∨∃ o,(p.1,o)∈R))):Sim P (C0.with R') M0 w0 st a w':=by
 obtain ⟨C,hS,hM,hF,⟨l,m1,m2,m3⟩,hR,hP⟩:=h;have hXR:∀ b,X b→∃ o,w.heap[b]? = some o∧w0.heap.size≤b∧o ≠ .deferred (some [])∧¬ C.F b∧∀ (id:Nat) (o:AO),st.m[id]? = some (some o)→o.live=true→C.ι id≠some b:=fun b hb=>by
  obtain ⟨o,ho⟩:=hX b hb;exact ⟨o,hR _ ho⟩
 have hFz:∀ b,C.F b→w'.heap[b]? = w.heap[b]? := fun b hb=>hk b (hM.Fs b hb) (fun hx=>by obtain ⟨_,_,_,_,q,_⟩:=hXR b hx;exact q hb)
 have hLv:∀ (id:Nat) (o:AO) (b:Nat),st.m[id]? = some (some o)→o.live=true→C.ι id=some b→w'.heap[b]? = w.heap[b]? := fun id o b ho hl hb=>hk b (hM.lt _ _ _ ho hl hb) (fun hx=>by obtain ⟨_,_,_,_,_,q⟩:=hXR b hx;exact q id o ho hl hb)
 obtain ⟨Hh,hle⟩:=aGw hM hsz hFz hLv;refine ⟨C,hS.le hle,Hh,⟨h1.trans hF.os,h2.trans hF.tape,h3.trans hF.out,fL hF.size hsz,fun b hb hn=>(hk b (gF hb hF.size) (fun hx=>by obtain ⟨_,_,q,_⟩:=hXR b hx;omega)).trans (hF.keep b hb hn),hF.ids,hF.row,hF.liv,hF.new,hF.F1,hF.F2⟩,⟨l,m1,m2,fun D hD => ?_⟩,fun p hp => ?_,fun i to ti sz L hm => ?_,hP.2⟩
 ·obtain ⟨q1,q2,q3⟩:=m3 D hD
  refine ⟨(hk D (cH q1) (fun hx => ?_)).trans q1,q2,q3⟩
  obtain ⟨o,r1,_,r3,_⟩:=hXR D hx;rw [q1] at r1;cases r1;exact r3 rfl
 ·rcases Vt p hp with ⟨hin,hx⟩ | ⟨r1,r2,r3⟩
  ·obtain ⟨q1,q2,q3,q4,q5⟩:=hR p hin
   exact ⟨(hk _ (cH q1) hx).trans q1,q2,q3,q4,q5⟩
  ·rcases r3 with r3 | ⟨o,ho⟩
   ·refine ⟨r1,fL hF.size r3,r2,fun hf => ?_,fun id o ho hl hb => ?_⟩
    ·have:=hM.Fs _ hf;omega
    ·have:=hM.lt _ _ _ ho hl hb;omega
   ·obtain ⟨q1,q2,q3,q4,q5⟩:=hR _ ho
    exact ⟨r1,q2,r2,q4,q5⟩
 ·obtain ⟨p,p0,p1⟩:=hP.1 _ _ _ _ _ hm
  refine ⟨p.move p.io rfl (fun _ h=>h) hFz fun b hb=>⟨hk b (p.lt hb).1 fun hx => ?_,p.own b hb⟩,p0,fun b hb=>⟨(p1 b hb).1,fun q hq e => ?_⟩⟩
  ·obtain ⟨o,ho⟩:=hX b hx
   exact (p1 b hb).2 _ ho rfl
  ·rcases Vt q hq with ⟨hin,_⟩ | ⟨_,_,r3⟩
   ·exact (p1 b hb).2 q hin e
   ·rcases r3 with r3 | ⟨o,ho⟩
    ·have:=(p.lt hb).1;omega
    ·exact (p1 b hb).2 _ ho e

theorem Sim.has{R:List (Nat × Obj)}{st:St}{a:Act}(h:Sim P (C0.with R) M0 w0 st a w):∀ p∈R,w.heap[p.1]? = some p.2:=fun p hp=>by
 obtain ⟨C,_,_,_,_,hR,_⟩:=h;exact (hR p hp).1

end
section
open Go.Maps Go.MapKept
open Go.ChangeMaps (setBlock)

structure Ent where
 k:Int
 l:Lqq
 b:Nat
 cap:Nat
 arr:Array Value

def Ent.val(e:Ent):Value := .slice (some ⟨e.b,0,none⟩) e.l.length e.cap
def Ent.blk(e:Ent):Nat × Obj:=(e.b,.cells e.arr 44 (0,0))
structure Ent.OK (e:Ent):Prop where
 key:(Lit.int .i64 e.k).wf=true
 sz:e.arr.size=e.cap*6
 le:e.l.length≤e.cap
 cap:e.cap≤maxLen
 at_:e.arr.toList.take (e.l.length*6)=e.l.flatten.map (Value.int .i64)
 u:uni 6 e.l

structure nM (mb:Nat) (es:Array MapEntry) (L:List Ent):Prop where
 e1:∀ x∈es.toList,∃ e∈L,x.key = .int .i64 e.k∧x.val=e.val
 e2:∀ e∈L,∃ x∈es.toList,x.key = .int .i64 e.k∧x.val=e.val
 nd:es.toList.Pairwise (fun x y=>x.key≠y.key)
 ok:∀ e∈L,e.OK
 keys:(L.map (·.k)).Nodup
 blks:(mb::L.map (·.b)).Nodup
 ord:es.toList.map (fun x=>(x.key,x.val))=L.map fun e=>(Value.int .i64 e.k,e.val)

theorem nM.nil(mb:Nat):nM mb #[] []:=⟨fun x h=>by simp at h,fun e h=>by simp at h,by simp,fun e h=>by simp at h,by simp,by simp,rfl⟩

def uP(L:List Ent)(k:Int):Option Ent:=L.find? fun e=>e.k == k
def sW(L:List Ent)(k:Int):Value:=match uP L k with
 | some e=>e.val
 | none => .slice none 0 0

theorem xU{L:List Ent}{k:Int}{e:Ent}(h:uP L k=some e):e∈L∧e.k=k:=⟨rD h,by simpa using aMr h⟩
theorem aYf{L:List Ent}{k:Int}(h:uP L k=none):∀ e∈L,e.k≠k:=fun e he hk=>by
 have:=aCz.1 h e he;simp [hk] at this
theorem bLz{L:List Ent}{k:Int}{e:Ent}(hn:(L.map (·.k)).Nodup)(he:e∈L)(hk:e.k=k):uP L k=some e:=by
 cases h:uP L k with
 | none=>exact absurd hk (aYf h e he)
 | some e' =>
  obtain ⟨h1,h2⟩:=xU h;have:∀ (l:List Ent),(l.map (·.k)).Nodup→e∈l→e'∈l→e=e':=by
   intro l
   induction l with
   | nil=>intro _ h;simp at h
   | cons x r ih =>
    intro hn h3 h4;rw [iB,List.nodup_cons] at hn
    rcases fW.1 h3 with e1 | h5
    ·rcases fW.1 h4 with e2 | h6
     ·rw [e1,e2]
     ·exact absurd (B3.2 ⟨e',h6,by rw [h2,← hk,e1]⟩) hn.1
    ·rcases fW.1 h4 with e2 | h6
     ·exact absurd (B3.2 ⟨e,h5,by rw [hk,← h2,e2]⟩) hn.1
     ·exact ih hn.2 h5 h6
  rw [this L hn he h1]

section
variable {P:Program} {w:World} {t kt et:TypeId} {mb:Nat} {es:Array MapEntry} {cl:Nat} {L:List Ent}

theorem aNw(hkt:P.underlying kt=some (.int .i64)){k:Int}(hk:(Lit.int .i64 k).wf=true):keyOf P kt (.int .i64 k)=some (.int .i64 k):=keyOf_int_mk hkt hk

theorem bTt(ht:P.underlying t=some (.map kt et))(hkt:P.underlying kt=some (.int .i64))(hz:(zeroValue et).run P w = .ok (.slice none 0 0) w)(hb:w.heap[mb]? = some (.map es cl))(hM:nM mb es L){k:Int}(hk:(Lit.int .i64 k).wf=true) :
  (Instr.lookup t (.map (some mb)) (.int .i64 k) false).run P w = .ok (sW L k) w:=by
 have K:=int_keyed hkt;have hkey:=aNw hkt hk;have hes:∀ e∈es.toList,∃ l,keyOf P kt e.key=some l:=fun x hx=>by
  obtain ⟨e,he,h1,_⟩:=hM.e1 x hx;exact ⟨_,by rw [h1];exact aNw hkt (hM.ok e he).key⟩
 rcases K.find w hkey es.toList hes with ⟨h1,h2⟩ | ⟨j,e0,h1,h2,h3⟩
 ·have:uP L k=none:=by
   rw [uP,aCz];intro e he;obtain ⟨x,hx,h4,_⟩:=hM.e2 e he;have:=h2 x hx;rw [h4] at this
   intro Ih;exact this (by rw [eq_of_beq Ih])
  unfold sW;rw [this];simp [Instr.lookup,run_underlying ht,MapKept.run_getObj_map hb,K.check w _ hkey,h1,hz,Result.andThen]
 ·obtain ⟨e,he,h4,h5⟩:=hM.e1 e0 (Bl h2)
  rw [h3] at h4
  have Ih:e.k=k:=by injection h4 with _ h;exact h.symm
  unfold sW;rw [bLz hM.keys he Ih];simp [Instr.lookup,run_underlying ht,MapKept.run_getObj_map hb,K.check w _ hkey,h1,Result.andThen,h5]

def rG(L:List Ent)(e:Ent):List Ent:=if L.any (fun x=>x.k == e.k) then L.map (fun x=>if x.k == e.k then e else x) else L++[e]
theorem zL{L:List Ent}{e:Ent}(h:∀ x∈L,x.k≠e.k):rG L e=L++[e]:=by
 unfold rG;rw [if_neg];intro h1;obtain ⟨x,hx,he⟩:=List.any_eq_true.1 h1;exact h x hx (by simpa using he)
theorem uQ{L:List Ent}{e x:Ent}(hx:x∈L)(he:x.k=e.k):rG L e=L.map (fun x=>if x.k == e.k then e else x):=by
 unfold rG;rw [if_pos (List.any_eq_true.2 ⟨x,hx,by simpa using he⟩)]
theorem iS{L:List Ent}{e x:Ent}:x∈rG L e↔(x∈L∧x.k≠e.k)∨x=e:=by
 by_cases h:∃ y∈L,y.k=e.k
 ·obtain ⟨y,hy,he⟩:=h
  rw [uQ hy he,B3];constructor
  ·rintro ⟨z,hz,rfl⟩
   by_cases hk:z.k=e.k
   ·rw [if_pos (by simpa using hk)];exact .inr rfl
   ·rw [if_neg (by simpa using hk)];exact .inl ⟨hz,hk⟩
  ·rintro (⟨h1,h2⟩ | rfl)
   ·exact ⟨x,h1,by rw [if_neg (by simpa using h2)]⟩
   ·exact ⟨y,hy,by rw [if_pos (by simpa using he)]⟩
 ·have h':∀ y∈L,y.k≠e.k:=fun y hy he=>h ⟨y,hy,he⟩
  rw [zL h',jK,List.mem_singleton];constructor
  ·rintro (h1 | h1)
   ·exact .inl ⟨h1,h' x h1⟩
   ·exact .inr h1
  ·rintro (⟨h1,_⟩ | h1)
   ·exact .inl h1
   ·exact .inr h1
theorem bMa{L:List Ent}{e:Ent}(hn:(L.map (·.k)).Nodup):((rG L e).map (·.k)).Nodup:=by
 by_cases h:∃ y∈L,y.k=e.k
 ·obtain ⟨y,hy,he⟩:=h
  rw [uQ hy he,wC];have:L.map ((fun x=>x.k) ∘ fun x=>if x.k == e.k then e else x)=L.map (·.k):=aAi fun x _=>by
   by_cases hk:x.k=e.k
   ·simp [hk]
   ·simp [hk]
  rw [this];exact hn
 ·have h':∀ y∈L,y.k≠e.k:=fun y hy he=>h ⟨y,hy,he⟩
  rw [zL h',iA,List.nodup_append];refine ⟨hn,by simp,fun x hx y hy => ?_⟩
  obtain ⟨z,hz,rfl⟩:=B3.1 hx;simp at hy
  subst hy;exact h' z hz
theorem bMb{mb:Nat}{L:List Ent}{e:Ent}(hn:(L.map (·.k)).Nodup)(hb:(mb::L.map (·.b)).Nodup)(h1:e.b≠mb)(h2:∀ x∈L,x.k≠e.k→x.b≠e.b):(mb::(rG L e).map (·.b)).Nodup:=by
 obtain ⟨b1,b2⟩:=List.nodup_cons.1 hb;refine List.nodup_cons.2 ⟨?_,?_⟩
 ·intro hin
  obtain ⟨x,hx,hxb⟩:=B3.1 hin
  rcases iS.1 hx with ⟨h1,_⟩ | rfl
  ·exact b1 (B3.2 ⟨x,h1,hxb⟩)
  ·exact h1 hxb
 ·by_cases h:∃ y∈L,y.k=e.k
  ·obtain ⟨y,hy,he⟩:=h
   rw [uQ hy he,wC,List.Nodup,List.pairwise_map];rw [List.Nodup,List.pairwise_map] at hn b2
   refine List.Pairwise.imp_of_mem ?_ (hn.and b2);intro x z hx hz ⟨q1,q2⟩;dsimp only [Function.comp]
   by_cases hk:x.k=e.k
   ·rw [if_pos (by simpa using hk),if_neg (by simp;rw [← hk];exact fun h=>q1 h.symm)]
    exact fun he=>h2 z hz (fun h=>q1 (by rw [hk,h])) he.symm
   ·rw [if_neg (by simpa using hk)]
    by_cases Fz:z.k=e.k
    ·rw [if_pos (by simpa using Fz)];exact h2 x hx hk
    ·rw [if_neg (by simpa using Fz)];exact q2
  ·have h':∀ y∈L,y.k≠e.k:=fun y hy he=>h ⟨y,hy,he⟩
   rw [zL h',iA,List.nodup_append];refine ⟨b2,by simp,fun x hx y hy => ?_⟩
   obtain ⟨z,hz,rfl⟩:=B3.1 hx;simp at hy
   subst hy;exact h2 z hz (h' z hz)

theorem cAe(ht:P.underlying t=some (.map kt et))(hkt:P.underlying kt=some (.int .i64))(hb:w.heap[mb]? = some (.map es cl))(hM:nM mb es L)(e:Ent)(he:e.OK)
  (hblk:e.b≠mb∧∀ x∈L,x.k≠e.k→x.b≠e.b) :
  ∃ Cw Ef,(Instr.mapUpdate t (.map (some mb)) (.int .i64 e.k) e.val).run P w = .ok () (setBlock w mb (.map Cw Ef))∧nM mb Cw (rG L e)∧((∀ x∈es.toList,x.born<cl)→∀ x∈Cw.toList,x.born<Ef):=by
 have K:=int_keyed hkt;have hkey:=aNw hkt he.key;have hes:∀ e∈es.toList,∃ l,keyOf P kt e.key=some l:=fun x hx=>by
  obtain ⟨e,he,h1,_⟩:=hM.e1 x hx;exact ⟨_,by rw [h1];exact aNw hkt (hM.ok e he).key⟩
 have hok:∀ x∈rG L e,x.OK:=fun x hx=>by
  rcases iS.1 hx with ⟨h1,_⟩ | rfl
  ·exact hM.ok x h1
  ·exact he
 have hkeys:((rG L e).map (·.k)).Nodup:=bMa hM.keys
 have hblks:(mb::(rG L e).map (·.b)).Nodup:=bMb hM.keys hM.blks hblk.1 hblk.2
 rcases K.find w hkey es.toList hes with ⟨h1,h2⟩ | ⟨j,e0,h1,h2,h3⟩
 ·refine ⟨es.push ⟨.int .i64 e.k,e.val,cl⟩,cl+1,?_,⟨fun x hx => ?_,fun x hx => ?_,?_,hok,hkeys,hblks,?_⟩,fun hbn x hx => ?_⟩
  ·simp [Instr.mapUpdate,run_underlying ht,MapKept.run_getObj_map hb,K.check w false hkey,h1,MapKept.run_setObj_map _ hb,Result.andThen,setBlock]
  ·simp only [Array.toList_push,jK,List.mem_singleton] at hx
   rcases hx with hx | rfl
   ·obtain ⟨y,hy,q1,q2⟩:=hM.e1 x hx
    refine ⟨y,iS.2 (.inl ⟨hy,fun hk=>h2 x hx (by rw [q1,hk])⟩),q1,q2⟩
   ·exact ⟨e,iS.2 (.inr rfl),rfl,rfl⟩
  ·rcases iS.1 hx with ⟨q1,_⟩ | rfl
   ·obtain ⟨y,hy,q2⟩:=hM.e2 x q1
    exact ⟨y,by simp [hy],q2⟩
   ·exact ⟨⟨.int .i64 x.k,x.val,cl⟩,by simp,rfl,rfl⟩
  ·rw [Array.toList_push,List.pairwise_append]
   exact ⟨hM.nd,by simp,fun x hx y hy=>by simp at hy;subst hy;exact h2 x hx⟩
  ·have hno:∀ x∈L,x.k≠e.k:=fun x hx hk=>by
    obtain ⟨y,hy,q2,_⟩:=hM.e2 x hx;exact h2 y hy (by rw [q2,hk])
   rw [zL hno,Array.toList_push,iA,iA,hM.ord];rfl
  ·simp only [Array.toList_push,jK,List.mem_singleton] at hx
   rcases hx with hx | rfl
   ·exact Nat.lt_succ_of_lt (hbn x hx)
   ·exact Nat.lt_succ_self _
 ·have hj:es[j]? = some e0:=by simpa using h2
  have hlist:(es.modify j (fun e'=>{ e' with key := .int .i64 e.k,val:=e.val })).toList=es.toList.set j { e0 with key := .int .i64 e.k,val:=e.val }:=by
   rw [Array.toList_modify,Go.ChangeMaps.modify_eq_set _ _ _ _ h2]
  have hjl:j<es.toList.length:=(Ca.1 h2).1;have hother:∀ i x,es.toList[i]? = some x→i≠j→x.key ≠ .int .i64 e.k:=fun i x hi hij=>by
   rw [← h3];obtain ⟨Ik,rfl⟩:=Ca.1 hi;obtain ⟨Ny,hje⟩:=Ca.1 h2;have:=List.pairwise_iff_getElem.1 hM.nd
   rcases Nat.lt_or_ge i j with h | h
   ·rw [← hje];exact this i j Ik Ny h
   ·rw [← hje];exact (this j i Ny Ik (by omega)).symm
  have who:∀ x∈es.toList.set j { e0 with key := .int .i64 e.k,val:=e.val },x={ e0 with key := .int .i64 e.k,val:=e.val }∨(x∈es.toList∧x.key ≠ .int .i64 e.k):=fun x hx=>by
   obtain ⟨i,hi,ex⟩:=List.getElem_of_mem hx;rw [aAj] at ex
   split at ex
   ·exact .inl ex.symm
   ·rename_i hne
    have Ct:i<es.toList.length:=by simpa using hi
    exact .inr ⟨ex ▸ fP Ct,hother i x (by rw [Ay Ct,ex]) (fun e=>hne e.symm)⟩
  refine ⟨es.modify j (fun e'=>{ e' with key := .int .i64 e.k,val:=e.val }),cl,?_,⟨fun x hx => ?_,fun x hx => ?_,?_,hok,hkeys,hblks,?_⟩,fun hbn x hx => ?_⟩
  ·simp [Instr.mapUpdate,run_underlying ht,MapKept.run_getObj_map hb,K.check w false hkey,h1,hj,h3,K.stays w hkey,MapKept.run_setObj_map _ hb,Result.andThen,setBlock]
  ·rw [hlist] at hx
   rcases who x hx with rfl | ⟨q1,q2⟩
   ·exact ⟨e,iS.2 (.inr rfl),rfl,rfl⟩
   ·obtain ⟨y,hy,r1,r2⟩:=hM.e1 x q1
    exact ⟨y,iS.2 (.inl ⟨hy,fun hk=>q2 (by rw [r1,hk])⟩),r1,r2⟩
  ·rw [hlist]
   rcases iS.1 hx with ⟨q1,q2⟩ | rfl
   ·obtain ⟨y,hy,r1,r2⟩:=hM.e2 x q1
    obtain ⟨i,hi,rfl⟩:=List.getElem_of_mem hy;have hij:i≠j:=fun hij=>by
     subst hij;rw [Ay hi] at h2;cases h2
     rw [h3] at r1;injection r1 with _ r1;exact q2 r1.symm
    exact ⟨es.toList[i],List.mem_iff_getElem.2 ⟨i,by simpa using hi,by rw [aAj,if_neg (Ne.symm hij)]⟩,r1,r2⟩
   ·exact ⟨_,List.mem_iff_getElem.2 ⟨j,by simpa using hjl,by rw [aAj,if_pos rfl]⟩,rfl,rfl⟩
  ·rw [hlist,List.pairwise_iff_getElem]
   intro i1 i2 Ik Hl hlt;simp only [oP] at Ik Hl
   have h0:=List.pairwise_iff_getElem.1 hM.nd i1 i2 Ik Hl hlt;rw [aAj,aAj]
   split
   ·rename_i e1
    rw [if_neg (by omega)]
    exact (hother i2 _ (Ay Hl) (by omega)).symm
   ·split
    ·exact hother i1 _ (Ay Ik) (by omega)
    ·exact h0
  ·obtain ⟨y,hy,q1,q2⟩:=hM.e1 e0 (Bl h2)
   have hyk:y.k=e.k:=by rw [h3] at q1;injection q1 with _ q1;exact q1.symm
   rw [hlist,uQ hy hyk,wC];apply List.ext_getElem?;intro i;rw [fV,fV,List.getElem?_set];have hoi:(es.toList.map fun x=>(x.key,x.val))[i]? = (L.map fun e=>(Value.int .i64 e.k,e.val))[i]? := by rw [hM.ord]
   rw [fV,fV] at hoi
   by_cases hij:j=i
   ·subst hij
    rw [if_pos rfl,if_pos hjl];rw [h2] at hoi
    cases hL:L[j]? with
    | none=>rw [hL] at hoi;cases hoi
    | some z =>
     rw [hL] at hoi
     have hz:z.k=e.k:=by
      simp at hoi
      rw [h3] at hoi
      have:=hoi.1;injection this with _ h;exact h.symm
     simp [hz]
   ·rw [if_neg hij]
    cases hL:L[i]? with
    | none=>rw [hL] at hoi;rw [hoi];rfl
    | some z =>
     rw [hL] at hoi
     rw [hoi];have hz:z.k≠e.k:=fun hz=>by
      cases he:es.toList[i]? with
      | none=>rw [he] at hoi;cases hoi
      | some x =>
       rw [he] at hoi
       simp at hoi
       exact hother i x he (fun h=>hij h.symm) (by rw [hoi.1,hz])
     simp [hz]
  ·rw [hlist] at hx
   rcases who x hx with rfl | ⟨q1,_⟩
   ·exact hbn e0 (Bl h2)
   ·exact hbn x q1

theorem Ent.owns{e:Ent}(he:e.OK)(h:w.heap[e.b]? = some (.cells e.arr 44 (0,0))):w.ownsRow 0 44 6 e.val e.l.length (e.l.flatten.map (Value.int .i64)) :=
 ⟨by rw [Co,pO he.u],.inr ⟨e.b,e.cap,e.arr,rfl,Nat.zero_le _,h,he.le,he.cap,he.sz,he.at_⟩⟩
theorem bTu:w.ownsRow 0 44 6 (.slice none 0 0) 0 []:=⟨rfl,.inl ⟨rfl,rfl⟩⟩
theorem bTv{v:Value}{l:Lqq}{k:Int}(hk:(Lit.int .i64 k).wf=true)(hl:l≠[])(hu:uni 6 l)(h:w.ownsRow 0 44 6 v l.length (l.flatten.map (Value.int .i64))):∃ e:Ent,e.k=k∧e.l=l∧e.val=v∧e.OK∧w.heap[e.b]? = some (.cells e.arr 44 (0,0)):=by
 rcases h.2 with ⟨_,h0⟩ | ⟨g,cap,cur,rfl,_,h1,h2,h3,h4,h5⟩
 ·exact absurd (aCw h0) hl
 ·exact ⟨⟨k,l,g,cap,cur⟩,rfl,rfl,rfl,⟨hk,h4,h2,h3,h5,hu⟩,h1⟩
end
end
section
variable {P:Program} {C C0:Cx} {M M0:Mem} {w w0:World}

abbrev SR:=St→List (Nat × Obj)→Prop
section
variable {k:Nat} {a b c:Code} {Ψ Ψ1 Ψ':SR} {e:Ex}
end

theorem Sim.slot{st:St}{a:Act}(h:Sim P C0 M0 w0 st a w){i:Nat}{v:Value}(hi:st.t[i]? = some (.p (.v v))):a.tmps.getD i undef=v:=by
 obtain ⟨C,hS,_⟩:=h;have:=hS.at hi
 cases this with
 | p _ _ h=>cases h;rfl
theorem Sim.size{st:St}{a:Act}(h:Sim P C0 M0 w0 st a w):a.tmps.size=st.t.length:=by
 obtain ⟨C,hS,_⟩:=h;exact hS.size
end
section
variable {P:Program} {ops:Array Oper} {md:Region.Mode} {S:World→Prop} {Q:Exit→Act→World→Prop} {L:Nat}

def uO(P:Program)(md:Region.Mode)(ops:Array Oper)(Q:Exit→Act→World→Prop)(S:World→Prop)(L:Nat):Nat→Array Bool→Act→World→Prop
 | 0,listed,a,w=>Region.ready md ops listed=[]∧Q .normal a w
 | fuel+1,listed,a,w=>(Region.ready md ops listed=[]→Q .normal a w) ∧
  ∀ i∈Region.ready md ops listed,wpOp P ops Q i (fun a' w'=>(i≠L→S w')∧uO P md ops Q S L fuel (listed.setIfInBounds i true) a' w') a w

theorem aGv:∀ (fuel:Nat) (listed:Array Bool) (a:Act) (w:World),uO P md ops Q S L fuel listed a w→wpAny P md ops Q fuel listed a w
 | 0,_,_,_,h=>h
 | fuel+1,_,_,_,h=>⟨h.1,fun i hi=>wpOp_mono (fun a' w' h'=>aGv fuel _ a' w' h'.2) (h.2 i hi)⟩

theorem aNt{i:Nat}{oi:Oper}{v:Value}(hi:ops[i]? = some oi)(hsel:∀ (j:Nat) (o:Oper) cs b,ops[j]? = some o→o.op ≠ .select cs b)
  (hQ:∀ c a w,Q (.panic c) (a.put oi.dst v) w→Q (.panic c) a w) (hL:∀ oL,ops[L]? = some oL→∃ e∈oL.after,Region.binds md e=true∧e.on=i) :
  ∀ (fuel:Nat) (listed:Array Bool) (a:Act) (w:World),
   (∀ j oj,ops[j]? = some oj→j≠i→listed.getD j true=false→(∀ e∈oj.after,Region.binds md e=true→e.on≠i)→oi.apart ops oj=true) →
   i∈Region.ready md ops listed→YieldsIf P ops S oi v a→S w →
   uO P md ops Q S L fuel (listed.setIfInBounds i true) (a.put oi.dst v) w→uO P md ops Q S L (fuel+1) listed a w:=by
 intro fuel
 induction fuel with
 | zero =>
  intro listed a w _ hr hy hS H;refine ⟨fun h=>(by rw [h] at hr;cases hr),fun j hj => ?_⟩
  by_cases hji:j=i
  ·subst hji;exact hy.wpOp hi hS ⟨fun _=>hS,H⟩
  ·have:=ready_mono hj hji
   rw [H.1] at this
   cases this
 | succ fuel ih =>
  intro listed a w hfree hr hy hS H;refine ⟨fun h=>(by rw [h] at hr;cases hr),fun j hj => ?_⟩
  by_cases hji:j=i
  ·subst hji;exact hy.wpOp hi hS ⟨fun _=>hS,H⟩
  ·have h1:=H.2 j (ready_mono hj hji)
   obtain ⟨hjun,oj,hoj,hall⟩:=mem_ready.1 hj;have hnot:∀ e∈oj.after,Region.binds md e=true→e.on≠i:=fun e he hb heq=>by
    have h1:=hall e he hb;have h0:=(mem_ready.1 hr).1;rw [heq] at h1
    rcases Nat.lt_or_ge i listed.size with h' | h'
    ·simp [h'] at h0 h1;rw [h0] at h1;cases h1
    ·simp [Array.getElem?_eq_none h'] at h1
   have hjL:j≠L:=fun e=>by
    subst e;obtain ⟨e,he,hb,ho⟩:=hL oj hoj;exact hnot e he hb ho
   have h2:=wpOp_putIf hoj (hfree j oj hoj hji hjun hnot) (fun cs b=>hsel i oi cs b hi) (fun cs b=>hsel j oj cs b hoj) hQ hy h1
   have Nx:∀ k ok,ops[k]? = some ok→k≠i→(listed.setIfInBounds j true).getD k true=false →
     (∀ e∈ok.after,Region.binds md e=true→e.on≠i)→oi.apart ops ok=true:=fun k ok hk hki hun hno=>by
    refine hfree k ok hk hki ?_ hno
    by_cases hjk:j=k
    ·subst hjk;exact hjun
    ·rw [getD_set_ne true hjk] at hun;exact hun
   refine wpOp_mono (fun a' w' h3=>⟨h3.2.1,ih (listed.setIfInBounds j true) a' w' Nx (ready_mono hr (Ne.symm hji)) h3.1 (h3.2.1 hjL) ?_⟩) h2
   rw [Array.setIfInBounds_comm _ _ hji];exact h3.2.2

def aNu(P:Program)(S:World→Prop):List (Oper × Value)→Act→Prop
 | [],_=>True
 | (o,v)::r,a=>(∀ W,S W→(execOp a.eval o).run P W = .ok (.value v) W)∧aNu P S r (a.put o.dst v)
def aCn:List (Oper × Value)→Act→Act
 | [],a=>a
 | (o,v)::r,a=>aCn r (a.put o.dst v)

def aKx(md:Region.Mode)(ops:Array Oper)(L:Nat)(rs:List Nat):List Nat→Array Bool→Bool
 | [],listed=>chain rs listed
 | t::ts,listed=>(match ops[t]? with | some o=>o.guard.isNone | none=>false) && (Region.ready md ops listed).contains t && Region.free md ops listed t &&
   (match ops[L]? with | some oL=>oL.after.any fun e=>Region.binds md e && e.on == t | none=>false) && aKx md ops L rs ts (listed.setIfInBounds t true)
where chain:List Nat→Array Bool→Bool
 | [],listed=>(Region.ready md ops listed).isEmpty
 | r::rs,listed=>(match ops[r]? with | some o=>o.guard.isNone | none=>false) && decide (Region.ready md ops listed=[r]) && chain rs (listed.setIfInBounds r true)

theorem xT{r fuel:Nat}{listed:Array Bool}{o:Oper}{a:Act}{w:World}(hr:Region.ready md ops listed=[r])(ho:ops[r]? = some o)(hg:o.guard=none){v:Value}{w':World}
  (hrun:(execOp a.eval o).run P w = .ok (.value v) w'∨(execOp a.eval o).run P w = .ok .skip w'∧v=undef) (hS:r≠L→S w') (h:uO P md ops Q S L fuel (listed.setIfInBounds r true) (a.put o.dst v) w'):uO P md ops Q S L (fuel+1) listed a w:=by
 refine ⟨fun h0=>(by rw [hr] at h0;cases h0),fun i hi => ?_⟩
 rw [hr] at hi
 obtain rfl:i=r:=by simpa using hi
 unfold wpOp;simp only [ho];have hw:Region.wanted o (yielded ops a.tmps)=true:=by simp [Region.wanted,hg]
 rw [if_pos hw];refine .inl ?_;unfold Oper.wp
 rcases hrun with hrun | ⟨hrun,rfl⟩
 ·rw [hrun];exact ⟨hS,h⟩
 ·rw [hrun];exact ⟨hS,h⟩

theorem aKy(hsel:Region.noSelect ops=true)(hQ:∀ c a w,¬ Q (.panic c) a w)(rs:List Nat){w:World}(hS:S w):∀ (ts:List Nat) (vs:List Value) (listed:Array Bool) (a:Act),vs.length=ts.length→aKx md ops L rs ts listed=true →
  aNu P S ((ts.filterMap fun i=>ops[i]?).zip vs) a→(∀ Ha,aKx.chain md ops rs Ha=true→uO P md ops Q S L rs.length Ha (aCn ((ts.filterMap fun i=>ops[i]?).zip vs) a) w)→uO P md ops Q S L (ts.length+rs.length) listed a w
 | [],vs,listed,a,hl,hB,hy,h=>by
  have:vs=[]:=by simpa using hl
  subst this;simp only [List.length_nil,iC];exact h listed hB
 | t::ts,[],listed,a,hl,hB,hy,h=>by simp at hl
 | t::ts,v::vs,listed,a,hl,hB,hy,h=>by
  simp only [aKx,Ce] at hB
  obtain ⟨⟨⟨⟨hp,hrd⟩,hf⟩,hlast⟩,Sg⟩:=hB;cases ho:ops[t]? with
  | none=>rw [ho] at hp;cases hp
  | some o =>
   rw [ho] at hp
   simp only [Option.isNone_iff_eq_none] at hp
   have e0:(t::ts).filterMap (fun i=>ops[i]?)=o::ts.filterMap (fun i=>ops[i]?):=by simp [ho]
   rw [e0,List.zip_cons_cons] at hy h
   have hw:Region.wanted o (yielded ops a.tmps)=true:=by simp [Region.wanted,hp]
   have e:(t::ts).length+rs.length=(ts.length+rs.length)+1:=by simp;omega
   rw [e];refine aNt ho (Region.noSelect_spec hsel) (fun c a w hq=>absurd hq (hQ _ _ _)) (fun oL hoL => ?_) _ _ _ _ (Region.free_spec ho hf) (by simpa using hrd) (.inl ⟨hw,hy.1⟩) hS ?_
   ·rw [hoL] at hlast
    obtain ⟨e,he,hb⟩:=Array.any_eq_true'.1 hlast;simp only [Ce,beq_iff_eq] at hb
    exact ⟨e,he,hb.1,hb.2⟩
   ·exact aKy hsel hQ rs hS ts vs _ _ (by simpa using hl) Sg hy.2 h

def aNv(l:List Oper)(ts:List Nat)(r1 r2 r3:Nat):Bool :=
 Region.noSelect l.toArray && aKx .any l.toArray r3 [r1,r2,r3] ts (Array.replicate l.toArray.size false) && decide (ts.length+3=l.toArray.size) && decide (r1≠r3∧r2≠r3)

theorem bS{a:Act}{i:Nat}{v:Value}(h:i<a.tmps.size):(a.put (some i) v).eval (.tmp i)=v:=by
 simp [Act.eval,Act.put,h]
theorem bZ{a:Act}{i j:Nat}{v:Value}(h:(i == j)=false):(a.put (some i) v).eval (.tmp j)=a.eval (.tmp j):=by
 have:i≠j:=by simpa using h
 simp [Act.eval,Act.put,this]
theorem dS{a:Act}{i:Nat}{v:Value}:(a.put (some i) v).tmps.size=a.tmps.size:=by simp [Act.put]
end
section
open Go.Maps Go.MapKept
open Go.ChangeMaps (setBlock)
variable {P:Program} {C C0:Cx} {M M0:Mem} {w w0:World}

section
variable {o:Oper} {a:Act} {W W':World}
theorem sL{t:TypeId}{x:Operand}{v r:Value}(ho:o.op = .load t x)(hx:a.eval x=v)(hr:(Instr.loadAt t v).run P W = .ok r W):(execOp a.eval o).run P W = .ok (.value r) W:=by
 unfold execOp;rw [ho];simp [hx,hr,Result.andThen]
theorem bLu{t:TypeId}{x k:Operand}{v u r:Value}(ho:o.op = .lookup t x k false)(hx:a.eval x=v)(hk:a.eval k=u)(hr:(Instr.lookup t v u false).run P W = .ok r W):(execOp a.eval o).run P W = .ok (.value r) W:=by
 unfold execOp;rw [ho];simp [hx,hk,hr,Result.andThen]
theorem bLv{t:TypeId}{x:Operand}{v r:Value}(ho:o.op = .buildSlice t 1 #[(0,x)])(hx:a.eval x=v)(hr:(Instr.buildSlice t 1 #[(0,v)]).run P W = .ok r W'):(execOp a.eval o).run P W = .ok (.value r) W':=by
 unfold execOp;rw [ho];simp [hx,hr,Result.andThen]
theorem bLw{t:TypeId}{s x:Operand}{v u r:Value}(ho:o.op = .call { callee := .builtin .append,args := #[s,x],argTypes := #[t,t] })(hs:a.eval s=v)(hx:a.eval x=u)(hr:(Builtin.append_ #[t,t] o.type #[v,u]).run P W = .ok r W') :
  (execOp a.eval o).run P W = .ok (.value r) W':=by
 unfold execOp;simp only [ho,resolve,invoke,builtin,Sem.run_bind,Sem.run_pure,Result.andThen_ok,List.map_toArray,iB,List.map_nil,hs,hx,hr]
theorem bLx{t:TypeId}{m k x:Operand}{v u y:Value}(ho:o.op = .mapUpdate t m k x)(hm:a.eval m=v)(hk:a.eval k=u)(hx:a.eval x=y)(hr:(Instr.mapUpdate t v u y).run P W = .ok () W'):(execOp a.eval o).run P W = .ok .skip W':=by
 unfold execOp;rw [ho];simp [hm,hk,hx,hr,Result.andThen]
end

theorem aBb{t:Nat}{i:TI}(hi:cQ P t=some i)(ha:i.agg=false){b o:Nat}{v:Value}(h:w.cell? ⟨b,o,none⟩=some v):(Instr.loadAt t (.pointer (some ⟨b,o,none⟩))).run P w = .ok v w:=by
 unfold Instr.loadAt Instr.sureAddr;simpa using mW hi ha h

def jE(mb:Nat)(es:Array MapEntry)(cl:Nat)(L:List Ent):List (Nat × Obj):=(mb,.map es cl)::L.map Ent.blk
theorem dH{mb:Nat}{es:Array MapEntry}{cl:Nat}{L:List Ent}{p:Nat × Obj}:p∈jE mb es cl L↔p=(mb,.map es cl)∨∃ e∈L,e.blk=p:=by simp [jE]
def rE(L:List Ent)(k:Int):Lqq:=match uP L k with
 | some e=>e.l
 | none=>[]
theorem zK{α β:Type}(f:α→β){x y:α}:∀ (L:List α),(L.map f).Nodup→x∈L→y∈L→f x=f y→x=y
 | [],_,h,_,_=>by simp at h
 | a::r,hn,hx,hy,he=>by
  rw [iB,List.nodup_cons] at hn
  rcases fW.1 hx with e1 | h1
  ·rcases fW.1 hy with e2 | h2
   ·rw [e1,e2]
   ·exact absurd (B3.2 ⟨y,h2,by rw [← he,e1]⟩) hn.1
  ·rcases fW.1 hy with e2 | h2
   ·exact absurd (B3.2 ⟨x,h1,by rw [he,e2]⟩) hn.1
   ·exact zK f r hn.2 h1 h2 he
theorem nM.b_inj{mb:Nat}{es:Array MapEntry}{L:List Ent}(h:nM mb es L){e e':Ent}(he:e∈L)(Sf:e'∈L)(hb:e.b=e'.b):e=e':=zK (·.b) L (List.nodup_cons.1 h.blks).2 he Sf hb
theorem nM.b_mb{mb:Nat}{es:Array MapEntry}{L:List Ent}(h:nM mb es L){e:Ent}(he:e∈L):e.b≠mb:=fun hb=>(List.nodup_cons.1 h.blks).1 (B3.2 ⟨e,he,hb⟩)

abbrev J8:Value := .agg #[.int .i64 0,.int .i64 0,.int .i64 0,.int .i64 0,.int .i64 0,.int .i64 0]
def vsL(x:List Int):List Value:=x.map (Value.int .i64)
theorem bLy(w:World)(x:List Int):∀ j u,(vsL x)[j]? = some u→(w.alloc (.cells (vsL x).toArray 44)).cell? ((⟨w.heap.size,0,none⟩:Addr).add j)=some u:=fun j u h=>by
 have hj:j<(vsL x).length:=(Ca.1 h).1;have e:(⟨w.heap.size,0,none⟩:Addr).add j=⟨w.heap.size,j,none⟩:=by unfold Addr.add;split <;> simp_all
 rw [e];unfold World.cell? World.alloc;simp [h]
theorem cAd{t kt S22 ty:TypeId}{st:St}{a:Act}{mb cl:Nat}{es:Array MapEntry}{L:List Ent}{k:Int}{x:List Int}(Ms:x.length=6)(ht:P.underlying t=some (.map kt S22))(hkt:P.underlying kt=some (.int .i64))(O9:P.underlying S22=some (.slice 44))
  (Lr:(P.info? 44).map (fun i=>(i.zero,i.size,i.bytes))=some (some J8,6,48))
  (hs:Sim P (C0.with (jE mb es cl L++C0.R)) M0 w0 st a w) (hd:∀ p∈jE mb es cl L,∀ q∈C0.R,p.1≠q.1) (hM:nM mb es L) (hk:(Lit.int .i64 k).wf=true) (hl:∀ e∈L,e.l.length≤1000) :
  ∃ v2 w2 Cw Ef e,(Builtin.append_ #[S22,S22] ty #[sW L k,.slice (some ⟨w.heap.size,0,none⟩) 1 1]).run P (w.alloc (.cells (vsL x).toArray 44)) = .ok v2 w2 ∧
   (∀ b,b<w.heap.size→(∀ q∈jE mb es cl L,q.1≠b)→w2.heap[b]? = w.heap[b]?)∧w2.heap[mb]? = w.heap[mb]? ∧
   (w.heap.size≤w2.heap.size∧((∀ x∈es.toList,x.born<cl)→∀ x∈Cw.toList,x.born<Ef)∧∀ p∈jE mb Cw Ef (rG L e),(∃ p0∈jE mb es cl L,p0.1=p.1)∨w.heap.size≤p.1) ∧
   (Instr.mapUpdate t (.map (some mb)) (.int .i64 k) v2).run P w2 = .ok () (setBlock w2 mb (.map Cw Ef))∧nM mb Cw (rG L e)∧e.k=k∧e.l=rE L k++[x] ∧
   (∀ p∈jE mb Cw Ef (rG L e),∀ q∈C0.R,p.1≠q.1)∧Sim P (C0.with (jE mb Cw Ef (rG L e)++C0.R)) M0 w0 st a (setBlock w2 mb (.map Cw Ef)):=by
 obtain ⟨i,hi,hz,Gd,Oe⟩:=info_parts Lr;have hhas:=hs.has;have hmb:w.heap[mb]? = some (.map es cl):=hhas (mb,.map es cl) (by simp [jE])
 have hmlt:=cH hmb;have hblkh:∀ e∈L,w.heap[e.b]? = some (.cells e.arr 44 (0,0)):=fun e he=>hhas e.blk (by simp [jE];exact .inr (.inl ⟨e,he,rfl⟩))
 obtain ⟨n1,n2,n3⟩:=kJ w (.cells (vsL x).toArray 44);have hown:(w.alloc (.cells (vsL x).toArray 44)).ownsRow 0 44 6 (sW L k) (rE L k).length ((rE L k).flatten.map (Value.int .i64))∧((sW L k).ownBlock=none∨∃ e0∈L,e0.k=k∧(sW L k).ownBlock=some e0.b)∧(rE L k).length≤1000:=by
  unfold sW rE;cases h:uP L k with
  | none=>exact ⟨bTu,.inl rfl,by simp⟩
  | some e0 =>
   obtain ⟨q1,q2⟩:=xU h;exact ⟨Ent.owns (hM.ok e0 q1) ((n3 _ (cH (hblkh e0 q1))).trans (hblkh e0 q1)),.inr ⟨e0,q1,q2,rfl⟩,hl e0 q1⟩
 obtain ⟨ho,hbk,hlen⟩:=hown;have Ya:uni 6 (rE L k++[x]):=by
  intro y hy
  rcases jK.1 hy with h | h
  ·unfold rE at h
   cases hq:uP L k with
   | none=>rw [hq] at h;cases h
   | some e0=>rw [hq] at h;exact (hM.ok e0 (xU hq).1).u y h
  ·simp at h;rw [h];exact Ms
 obtain ⟨v2,w2,hrun,Kn,Jl,hnil,hat⟩:=run_append_own_at (P:=P) (w:=w.alloc (.cells (vsL x).toArray 44)) 0 S22 ty 44 i J8 6 48 O9 hi hz Gd Oe rfl (by decide) (sW L k) (rE L k).length _ ho
  ⟨w.heap.size,0,none⟩ 1 1 (vsL x) (by simp [vsL,Ms]) (bLy w x) (fun u hu=>by obtain ⟨z,_,rfl⟩:=B3.1 hu;rfl) (by unfold maxLen;omega) (by omega) (Nat.zero_le _)
 have Uc:w2.ownsRow 0 44 6 v2 (rE L k++[x]).length ((rE L k++[x]).flatten.map (Value.int .i64)):=by
  rw [iJ,aQx,iA,List.flatten_singleton];exact Kn
 obtain ⟨e,rfl,hel,rfl,heo,heh⟩:=bTv hk (by simp) Ya Uc
 have hvb:e.val.ownBlock=some e.b:=rfl;have hwhere:(∃ e0∈L,e0.k=e.k∧e0.b=e.b)∨e.b=w.heap.size+1:=by
  rcases hat with h | h
  ·rcases hbk with h0 | ⟨e0,q1,q2,q3⟩
   ·rw [h0,hvb] at h;cases h
   ·rw [q3,hvb] at h;exact .inl ⟨e0,q1,q2,(Option.some.inj h).symm⟩
  ·rw [hvb] at h
   right
   have:=Option.some.inj h;rw [this];simp
 have hrow:∀ b,b<w.heap.size→(∀ e0∈L,e0.k=e.k→e0.b≠b)→w2.heap[b]? = w.heap[b]? := fun b hb hno=>by
  refine (Jl.block b (by omega) (fun he => ?_)).trans (n3 b hb)
  rcases hbk with h0 | ⟨e0,q1,q2,q3⟩
  ·rw [h0] at he;cases he
  ·rw [q3] at he;exact hno e0 q1 q2 (Option.some.inj he).symm
 have hblk:e.b≠mb∧∀ y∈L,y.k≠e.k→y.b≠e.b:=by
  rcases hwhere with ⟨e0,q1,q2,q3⟩ | h
  ·refine ⟨q3 ▸ hM.b_mb q1,fun y hy hyk hb=>hyk ?_⟩
   have:=hM.b_inj hy q1 (hb.trans q3.symm);rw [this];exact q2
  ·refine ⟨by omega,fun y hy _ hb => ?_⟩
   have:=cH (hblkh y hy);omega
 have Kb:w2.heap[mb]? = w.heap[mb]? := hrow mb hmlt fun e0 Ql _=>hM.b_mb Ql
 obtain ⟨Cw,Ef,hup,Hh,hbn⟩:=cAe (P:=P) (w:=w2) ht hkt (Kb.trans hmb) hM e heo hblk;refine ⟨e.val,w2,Cw,Ef,e,hrun,fun b hb hno=>hrow b hb fun e0 Ql _=>hno e0.blk (by simp [jE];exact .inr ⟨e0,Ql,rfl⟩),Kb,⟨by have:=Jl.size;omega,hbn,fun p hp => ?_⟩,hup,Hh,rfl,hel,?_,?_⟩
 ·rcases dH.1 hp with rfl | ⟨y,hy,rfl⟩
  ·exact .inl ⟨_,dH.2 (.inl rfl),rfl⟩
  ·rcases iS.1 hy with ⟨q1,_⟩ | rfl
   ·exact .inl ⟨_,dH.2 (.inr ⟨y,q1,rfl⟩),rfl⟩
   ·rcases hwhere with ⟨e0,r1,_,r3⟩ | h
    ·exact .inl ⟨_,dH.2 (.inr ⟨e0,r1,rfl⟩),r3⟩
    ·exact .inr (by show w.heap.size≤y.b;omega)
 ·intro p hp q hq
  rcases dH.1 hp with rfl | ⟨y,hy,rfl⟩
  ·exact hd (mb,.map es cl) (by simp [jE]) q hq
  ·rcases iS.1 hy with ⟨q1,q2⟩ | rfl
   ·exact hd y.blk (dH.2 (.inr ⟨y,q1,rfl⟩)) q hq
   ·rcases hwhere with ⟨e0,q1,q2,q3⟩ | h
    ·exact fun hpq=>hd e0.blk (dH.2 (.inr ⟨e0,q1,rfl⟩)) q hq (by rw [← hpq];exact q3)
    ·have:=cH (hhas q (aCy _ hq))
     intro hpq;change y.b=q.1 at hpq
     omega
 ·have hne:∀ p∈C0.R,p.1≠mb∧∀ e0∈L,p.1≠e0.b:=fun p hp=>⟨fun h=>hd (mb,.map es cl) (by simp [jE]) p hp h.symm,fun e0 Ql h=>hd e0.blk (dH.2 (.inr ⟨e0,Ql,rfl⟩)) p hp h.symm⟩
  have hset:∀ b,b≠mb→(setBlock w2 mb (.map Cw Ef)).heap[b]? = w2.heap[b]? := fun b hb=>by
   unfold setBlock;simp only [Array.getElem?_setIfInBounds];rw [if_neg (Ne.symm hb)]
  have hsetm:(setBlock w2 mb (.map Cw Ef)).heap[mb]? = some (.map Cw Ef):=by
   unfold setBlock;have:mb<w2.heap.size:=cH (Kb.trans hmb);simp [this]
  refine hs.beside (fun b=>b=mb∨∃ e0∈L,e0.k=e.k∧e0.b=b) (fun b hb => ?_) Jl.os Jl.tape Jl.output (by have:=Jl.size;unfold setBlock;simp only [Array.size_setIfInBounds];omega) (fun b hb hX => ?_) (fun p hp => ?_)
  ·rcases hb with rfl | ⟨e0,q1,q2,rfl⟩
   ·exact ⟨_,pN _ (dH.2 (.inl rfl))⟩
   ·exact ⟨_,pN _ (dH.2 (.inr ⟨e0,q1,rfl⟩))⟩
  ·rw [hset b (fun h=>hX (.inl h))]
   exact hrow b hb fun e0 q1 q2 q3=>hX (.inr ⟨e0,q1,q2,q3⟩)
  ·rcases jK.1 hp with hp | hp
   ·rcases dH.1 hp with rfl | ⟨y,hy,rfl⟩
    ·exact .inr ⟨hsetm,(fun h=>by cases h),.inr ⟨_,pN _ (dH.2 (.inl rfl))⟩⟩
    ·rcases iS.1 hy with ⟨q1,q2⟩ | rfl
     ·refine .inl ⟨pN _ (dH.2 (.inr ⟨y,q1,rfl⟩)),fun hX => ?_⟩
      rcases hX with hX | ⟨e0,r1,r2,r3⟩
      ·exact hM.b_mb q1 hX
      ·have:=hM.b_inj q1 r1 r3.symm
       exact q2 (this ▸ r2)
     ·refine .inr ⟨(hset _ hblk.1).trans heh,(fun h=>by cases h),?_⟩
      rcases hwhere with ⟨e0,r1,r2,r3⟩ | h
      ·exact .inr ⟨.cells e0.arr 44 (0,0),pN _ (dH.2 (.inr ⟨e0,r1,by unfold Ent.blk;rw [r3]⟩))⟩
      ·exact .inl (by show w.heap.size≤y.b;omega)
   ·refine .inl ⟨aCy _ hp,fun hX => ?_⟩
    rcases hX with hX | ⟨e0,r1,r2,r3⟩
    ·exact (hne p hp).1 hX
    ·exact (hne p hp).2 e0 r1 r3.symm
end
section
open Go.ChangeMaps (setBlock)
variable {P:Program} {C:Cx} {M:Mem} {w:World}

def aIj(P:Program)(C:Cx)(M:Mem)(w:World)(C':Cx)(M':Mem)(W:World):Prop:=(∀ b,C'.F b↔C.F b)∧aU P C' M' W∧Fr C M w C' M' W
def aNs(M M':Mem):Prop:=(∀ (i:Nat) (es:List (Value × PV)) (cl:Nat),M'[i]? = some (some (.mp es cl))→∃ o,M[i]? = some (some o)∧o.live=true)∧aUe M'

theorem aIj.same{M':Mem}{W W':World}{C':Cx}(hn:aNs M M')(Dk:aU P C M w)(h:aIj P C M w C' M' W)(hsz:W.heap.size≤W'.heap.size)(ho:W'.os=W.os)(ht:W'.tape=W.tape)(hu:W'.output=W.output)
  (hs:∀ b,b<W.heap.size→(b<w.heap.size∧(∀ (id:Nat) (o:AO),M[id]? = some (some o)→o.live=true→C.ι id=some b→∃ o',M'[id]? = some (some o')∧o'.live=true))∨(nK W b∧∃ (id:Nat) (o:AO),M'[id]? = some (some o)∧o.live=true∧C'.ι id=some b)→W'.heap[b]? = W.heap[b]?):aIj P C M w C' M' W':=by
 obtain ⟨hF,hM,f⟩:=h;have old:∀ (i:Nat) (o:AO),M[i]? = some (some o)→C'.ι i=C.ι i:=fun i o h=>(f.ids i o h).2.1
 have hFz:∀ b,C'.F b→W'.heap[b]? = W.heap[b]? := fun b hb=>hs b (hM.Fs b hb) (.inl ⟨Dk.Fs b ((hF b).1 hb),fun id o ho hl he=>absurd ((hF b).1 hb) (Dk.nF id o b ho hl he)⟩)
 have hL:Le C' C' M' M' W W':=⟨fun _ o h=>⟨o,h⟩,fun _ _ _ _ _ cs h=>⟨cs,h⟩,fun _ o h o' h' hl=>by rw [h] at h';cases h';exact ⟨hl,rfl,rfl⟩,fun _ h=>h,hFz⟩
 refine ⟨hF,⟨fun i ty n cs hm => ?_,fun i ty cs hm => ?_,fun i es cl hm => ?_,hM.inj,hM.nF,fun b hb=>gF (hM.Fs b hb) hsz,fun i o b ho hl hb=>gF (hM.lt i o b ho hl hb) hsz⟩,
  ⟨ho.trans f.os,ht.trans f.tape,hu.trans f.out,fL f.size hsz,fun b hb hno=>(hs b (gF hb f.size) (.inl ⟨hb,fun id o ho hl he=>absurd he (hno id o ho hl)⟩)).trans (f.keep b hb hno),f.ids,f.row,f.liv,f.new,f.F1,f.F2⟩⟩
 ·rcases hM.row _ _ _ _ hm with h4 | ⟨b,arr,inf,q0,q1,q2,q3,q4,q5,q6,q7,q8⟩
  ·exact .inl h4
  ·exact .inr ⟨b,arr,inf,q0,(hs b (cH q1) (.inr ⟨gD q1,i,_,hm,rfl,q0⟩)).trans q1,q2,q3,q4,q5,q6,fun j hj=>(q7 j hj).mono hL.F hL.fz,q8⟩
 ·obtain ⟨b,arr,q0,q1,q2,q3,q4⟩:=hM.box _ _ _ hm
  exact ⟨b,arr,q0,(hs b (cH q1) (.inr ⟨gD q1,i,_,hm,rfl,q0⟩)).trans q1,q2,fun j hj=>(q3 j hj).mono hL,q4⟩
 ·obtain ⟨b,arr,q0,q1,q2,q3⟩:=hM.mp _ _ _ hm
  obtain ⟨o,D7,hl⟩:=hn.1 _ _ _ hm;have hb:C.ι i=some b:=by rw [← old i o D7];exact q0
  refine ⟨b,arr,q0,(hs b (cH q1) (.inl ⟨Dk.lt i o b D7 hl hb,fun id o2 Kn C6 he => ?_⟩)).trans q1,q2,fun j hj => ?_⟩
  ·obtain rfl:=Dk.inj id i o2 o b Kn C6 D7 hl he hb
   exact ⟨_,hm,rfl⟩
  ·obtain ⟨en,r1,r2,r3,r4⟩:=q3 j hj
   exact ⟨en,r1,r2,r3,r4.mono hL.F hL.fz⟩

theorem aIj.own{M':Mem}{W W':World}{C':Cx}{row:Option Nat}(hn:aNs M M')(Dk:aU P C M w)(h:aIj P C M w C' M' W)(hg:W.grownBy W' row)
  (hr:∀ r,row=some r→w.heap.size≤r∧∃ o:Obj,W.heap[r]? = some o∧o.isCells=false):aIj P C M w C' M' W' :=
 h.same hn Dk hg.size hg.os hg.tape hg.output fun b hb hd=>hg.block b hb fun e=>by
  obtain ⟨q1,o,q2,q3⟩:=hr b e.symm
  rcases hd with ⟨hd,_⟩ | ⟨hd,_⟩
  ·omega
  ·exact kL q2 q3 hd
end
end KV
end Go.Proofs
section
namespace Go.Proofs
open Go.RowKit Go.Lib
namespace KV
open Tryz
attribute [local go_sem] Oper.semAt_some

def bk(n i:Nat):List Nat:=((List.range n).drop i).reverse
theorem cAb{n i:Nat}(h:i<n):bk n i=bk n (i+1)++[i]:=by
 unfold bk;rw [aMo (by simpa using h),List.reverse_cons]
 simp
theorem cKb(n:Nat):bk n n=[]:=by unfold bk;rw [List.drop_eq_nil_of_le (by simp)];rfl
theorem cAc(n:Nat):bk n 0=(List.range n).reverse:=rfl
theorem aYe{n i:Nat}:(bk n i).length=n-i:=by simp [bk]
theorem bLt{n i:Nat}(h:i≤n):bk n i <+: bk n 0:=by
 unfold bk;rw [List.drop_zero];refine ⟨((List.range n).take i).reverse,?_⟩;rw [← List.reverse_append,aQw]
theorem cNz{n i:Nat}(h:i<n):(bk n (i+1)).length<(bk n 0).length:=by rw [aYe,aYe];omega
end KV
end Go.Proofs
end
section
namespace Go.Proofs
open Go.RowKit Go.Lib Go.Shelf
namespace KV
open Tryz
attribute [local go_sem] Oper.semAt_some
def Hid(p:Prop):Prop:=p
theorem hid{p:Prop}(h:p):Hid p:=h
theorem Hid.out{p:Prop}(h:Hid p):p:=h
def Dq(x:List Int):Array Value:=(x.map (Value.int .i64)).toArray
set_option maxRecDepth 1000000 in
set_option maxHeartbeats 2000000 in
theorem aYc(dc:Lqq)(hl:dc.length≤1000)(F0:Nat→Prop)(n l b1 o1 b2 o2 cap:Nat)(hn:1≤n)(J Jx:List Nat→World→Prop)
  (hY:∀ pre (k:Nat) (a b c d e f:Int) W,dc[k]? = some [a,b,c,d,e,f]→J pre W→pre.length<(bk dc.length 0).length→YieldAt Fence.wide (n-1) Tp l #[.int .i64 k,.agg #[.int .i64 a,.int .i64 b,.int .i64 c,.int .i64 d,.int .i64 e,.int .i64 f]] W fun e W' =>
   (e = .returned (.bool true)∧J (pre++[k]) W'∧KpG F0 W W')∨(e = .returned (.bool false)∧Jx (pre++[k]) W'))
  (W:World) (hJ:AbidesFrom W.heap.size J) (hF:∀ b,F0 b→b<W.heap.size)
  (hc:∀ W',KpG F0 W W'→∀ k:Nat,k<dc.length→∃ a b c d e f,dc[k]? = some [a,b,c,d,e,f]∧W'.cell? ⟨b2,o2+k*6,none⟩=some (.int .i64 a)∧W'.cell? ⟨b2,o2+k*6+1,none⟩=some (.int .i64 b)∧W'.cell? ⟨b2,o2+k*6+2,none⟩=some (.int .i64 c)∧W'.cell? ⟨b2,o2+k*6+3,none⟩=some (.int .i64 d)∧W'.cell? ⟨b2,o2+k*6+4,none⟩=some (.int .i64 e)∧W'.cell? ⟨b2,o2+k*6+5,none⟩=some (.int .i64 f))
  (hk:∀ W',KpG F0 W W'→W'.cell? ⟨b1,o1,none⟩=some (.slice (some ⟨b2,o2,none⟩) dc.length cap)) (h0:J [] W) :
  CallsIn Fence.wide n Tp 187 #[.func (.yield l) #[] #[],.pointer (some ⟨b1,o1,none⟩)] W fun e W'=>(∃ v,e = .returned v) ∧
   ((∃ ys,ys=bk dc.length 0∧J ys W')∨(∃ pre,pre <+: bk dc.length 0∧Jx pre W')):=by
 have HJ:=hid hJ;have HY:=hid hY;have HC:=hid hc;have HKC:=hid hk;have HF0:=hid hF;have HJ0:=hid h0;have k0:=hk W (KpG.refl _ _);clear hJ hY hc h0 hk hF;refine callsIn_of_wp func187 rfl trivial ?_ rfl;simp only [Tryz.ntmps187,List.size_toArray,oE,List.length_nil,Nat.reduceAdd,Nat.reduceSub,Array.replicate_succ,Array.replicate_zero,List.push_toArray,List.append_toArray,List.nil_append,List.cons_append]
 gi_wp2
 clear k0
 gi_loopw [3] (fun i wr=>∃ k:Nat,k≤dc.length∧i = .int .i64 ((k:Int)-1)∧J (bk dc.length k) wr∧KpG F0 W wr)
  (fun i _=>(intOf i+1).toNat)
 case atStart=>exact ⟨dc.length,dF _,by go_num,by rw [cKb];exact HJ0.out,KpG.refl _ _⟩
 case round =>
  obtain ⟨k,hk,rfl,hJk,hK⟩:=hrel;have HJK:=hid hJk;have HK:=hid hK;have k0:=HKC.out wr hK;have HFR:=hid (fun b (hb:F0 b)=>gF (HF0.out b hb) HK.out.size)
  clear hJk hK
  rcases Nat.eq_zero_or_pos k with rfl | hpos
  ·gi_wp2
   go_end0
   exact ⟨⟨_,rfl⟩,.inl ⟨_,rfl,HJK.out⟩⟩
  ·obtain ⟨k,rfl⟩:∃ j,k=j+1:=⟨k-1,by omega⟩
   have e1:((k+1:Nat):Int)-1=(k:Int):=by omega
   have hlt:(k:Int)<(dc.length:Int):=by omega
   have X9:(dc.length:Int)≤1000:=by omega
   rw [e1];obtain ⟨a,b,c,d,e,f,Qk,c0,c1,c2,c3,c4,c5⟩:=HC.out wr HK.out k (by omega)
   have HL:=hid (cNz (n:=dc.length) (i:=k) (by omega))
   have HB:=hid (cAb (n:=dc.length) (i:=k) (by omega))
   have HP:=hid (bLt (n:=dc.length) (i:=k) (by omega))
   have hge:(k:Int) ≥ 0:=by omega
   obtain ⟨fn,tmps,assign,body,hy,hR⟩:=HY.out _ k a b c d e f wr Qk HJK.out HL.out;clear Qk
   gi_wp2_with (refine hR.mono ?_;clear hR;rintro e w3 (⟨rfl,Ub,Qj⟩ | ⟨rfl,hx⟩))
   ·go_roundw
    case rel=>exact ⟨k,by omega,by go_num,by rw [HB.out];exact Ub,HK.out.trans Qj⟩
    case measure=>simp [intOf]
   ·refine bodyPost_ret (results_none rfl _ _ _) rfl ?_
    exact ⟨⟨_,rfl⟩,.inr ⟨bk dc.length (k+1)++[k],HB.out ▸ HP.out,hx⟩⟩
set_option maxRecDepth 1000000 in
set_option maxHeartbeats 2000000 in
theorem aYd(n l b1 o1 cap:Nat)(p:Option Addr)(hn:1≤n)(J:World→Prop)(W:World)(hk:W.cell? ⟨b1,o1,none⟩=some (.slice p 0 cap))(h0:J W) :
  CallsIn Fence.wide n Tp 187 #[.func (.yield l) #[] #[],.pointer (some ⟨b1,o1,none⟩)] W fun e W'=>(∃ v,e = .returned v)∧J W':=by
 have HJ0:=hid h0;have k0:=hk;clear h0 hk;refine callsIn_of_wp func187 rfl trivial ?_ rfl;simp only [Tryz.ntmps187,List.size_toArray,oE,List.length_nil,Nat.reduceAdd,Nat.reduceSub,Array.replicate_succ,Array.replicate_zero,List.push_toArray,List.append_toArray,List.nil_append,List.cons_append]
 gi_wp2
 clear k0
 gi_loopw [3] (fun i wr=>i = .int .i64 (-1)∧J wr) (fun i _=>(intOf i+1).toNat)
 case atStart=>exact ⟨by go_num,HJ0.out⟩
 case round =>
  obtain ⟨rfl,hJk⟩:=hrel;have HJK:=hid hJk;clear hJk
  gi_wp2
  go_end0
  exact ⟨⟨_,rfl⟩,HJK.out⟩
end KV
end Go.Proofs
end
namespace Go.Proofs
namespace KV
open Tryz
section
variable {P:Program} {ops:Array Oper} {md:Region.Mode} {Q:Exit→Act→World→Prop} {F:Fence} {n:Nat}

def VS(P:Program)(m:Sem Next):Prop:=∀ w,(∃ v w',m.run P w = .ok (.value v) w')∨(∃ w',m.run P w = .ok .skip w')∨∃ x w',m.run P w = .halt x w'
theorem VS.val(m:Sem Value):VS P (do pure (.value (← m))):=fun w=>by
 cases h:m.run P w with
 | ok v w'=>exact .inl ⟨v,w',by simp [h,Result.andThen]⟩
 | halt x w'=>exact .inr (.inr ⟨x,w',by simp [h,Result.andThen]⟩)
theorem VS.unit(m:Sem Unit):VS P (do m;pure .skip):=fun w=>by
 cases h:m.run P w with
 | ok v w'=>exact .inr (.inl ⟨w',by simp [h,Result.andThen]⟩)
 | halt x w'=>exact .inr (.inr ⟨x,w',by simp [h,Result.andThen]⟩)
theorem VS.bind{α:Type}(m:Sem α)(f:α→Sem Next)(h:∀ x,VS P (f x)):VS P (m >>= f):=fun w=>by
 cases e:m.run P w with
 | ok v w' =>
  rcases h v w' with ⟨u,w2,q⟩ | ⟨w2,q⟩ | ⟨x,w2,q⟩
  ·exact .inl ⟨u,w2,by simp [e,Result.andThen,q]⟩
  ·exact .inr (.inl ⟨w2,by simp [e,Result.andThen,q]⟩)
  ·exact .inr (.inr ⟨x,w2,by simp [e,Result.andThen,q]⟩)
 | halt x w'=>exact .inr (.inr ⟨x,w',by simp [e,Result.andThen]⟩)
theorem VS.pure(v:Value):VS P (Pure.pure (.value v):Sem Next):=fun w => .inl ⟨v,w,rfl⟩
def aCm(o:Oper):Bool:=match o.op with
 | .move _=>true
 | .assign _=>true
 | .indexAddr _ _ _=>true
 | .fieldAddr _ _ _=>true
 | .field _ _ _=>true
 | .load _ _=>true
 | .store _ _ _=>true
 | .lookup _ _ _ _=>true
 | .buildSlice _ _ _=>true
 | .mapUpdate _ _ _ _=>true
 | .nilCheck _=>true
 | .call c=>match c.callee with
  | .builtin .append=>true
  | _=>false
 | _=>false
theorem cAa{o:Oper}(h:aCm o=true)(ρ:Operand→Value):VS P (execOp ρ o):=by
 unfold aCm at h
 unfold execOp;cases ho:o.op <;> rw [ho] at h <;> first | exact absurd h Bool.false_ne_true | exact VS.val _ | exact VS.unit _ | skip
 case move x=>exact fun w => .inl ⟨_,w,rfl⟩
 case assign x=>exact fun w => .inl ⟨_,w,rfl⟩
 case nilCheck x =>
  dsimp only
  split
  ·exact fun w => .inr (.inr ⟨_,_,rfl⟩)
  ·exact fun w => .inr (.inr ⟨_,_,rfl⟩)
  ·exact fun w => .inr (.inr ⟨_,_,rfl⟩)
  ·split
   ·exact fun w => .inr (.inr ⟨_,_,rfl⟩)
   ·refine VS.bind _ _ fun p=>VS.bind _ _ fun q => ?_
    split
    ·exact VS.bind _ _ fun _=>VS.pure _
    ·exact VS.pure _
   ·exact VS.pure _
  ·exact VS.pure _
 case call c =>
  dsimp only at h
  show VS P (resolve ρ c o.type >>= fun d=>invoke d.target d.args)
  split at h
  ·rename_i hc
   unfold resolve;rw [hc];exact VS.val _
  ·cases h
theorem aYb{o:Oper}(h:aCm o=true):∀ c,o.op ≠ .defer c:=fun c hc=>by unfold aCm at h;rw [hc] at h;cases h

theorem aSd(hall:∀ f,F.fn f){i:Nat}{K:Act→World→Prop}{a:Act}{w:World}(hL:¬ LetsOut Q)(hc:∀ o,ops[i]? = some o→aCm o=true)(h:wpOp P ops Q i K a w):wpOpIn F n P ops Q i K a w:=by
 unfold wpOp at h
 unfold wpOpIn;cases ho:ops[i]? with
 | none=>rw [ho] at h;exact h
 | some o =>
  rw [ho] at h
  dsimp only at h ⊢
  split
  ·rename_i hw
   rw [if_pos hw] at h
   rcases h with h | h
   ·unfold Oper.wp at h
    unfold Oper.wpIn;refine ⟨fun f _=>hall f,?_⟩
    rw [Oper.semAt_plain _ _ _ (aYb (hc o ho))]
    rcases cAa (P:=P) (hc o ho) a.eval w with ⟨v,w',e⟩ | ⟨w',e⟩ | ⟨x,w',e⟩
    ·rw [e] at h ⊢;exact h
    ·rw [e] at h ⊢;exact h
    ·rw [e] at h ⊢
     cases x <;> first | exact h | exact h.elim
   ·exact absurd h.2 hL
  ·rename_i hw
   rw [if_neg hw] at h
   exact ⟨fun f _=>hall f,h⟩
theorem zJ(hall:∀ f,F.fn f)(hL:¬ LetsOut Q)(hc:∀ (i:Nat) (o:Oper),ops[i]? = some o→aCm o=true):∀ (fuel:Nat) (listed:Array Bool) (a:Act) (w:World),wpAny P md ops Q fuel listed a w→wpAnyIn F n P md ops Q fuel listed a w
 | 0,_,_,_,h=>h
 | fuel+1,listed,a,w,h=>⟨h.1,fun i hi=>wpOpIn_mono (fun a' w' h'=>zJ hall hL hc fuel _ a' w' h') (aSd hall hL (hc i) (h.2 i hi))⟩

theorem bLs{S:World→Prop}{id:Nat}{l:List Oper}{a:Act}{w:World}{o1 o2 o3:Oper}(hall:∀ f,F.fn f)(hL:¬ LetsOut Q)(hcalm:l.all aCm=true)(ts:List Nat)(r1 r2 r3:Nat)(hm:P.follows .mixedOrders=true)(hB:aNv l ts r1 r2 r3=true)(h1:l[r1]? = some o1)(h2:l[r2]? = some o2)(h3:l[r3]? = some o3)
  (hQ:∀ c a w,¬ Q (.panic c) a w) (hS:S { w with drawn:=w.drawn+1 }) (vs:List Value) (hl:vs.length=ts.length) (hy:aNu P S ((ts.filterMap fun i=>l[i]?).zip vs) a)
  (h:∀ a',a'=aCn ((ts.filterMap fun i=>l[i]?).zip vs) a→∃ v1 w1 v2 w2 w3,(execOp a'.eval o1).run P { w with drawn:=w.drawn+1 } = .ok (.value v1) w1∧S w1∧(execOp (a'.put o1.dst v1).eval o2).run P w1 = .ok (.value v2) w2∧S w2 ∧
   (execOp ((a'.put o1.dst v1).put o2.dst v2).eval o3).run P w2 = .ok .skip w3∧Q .normal (((a'.put o1.dst v1).put o2.dst v2).put o3.dst undef) w3):(Code.region id l.toArray true).wpIn F n P Q a w:=by
 unfold aNv at hB
 simp only [Ce,decide_eq_true_eq] at hB
 obtain ⟨⟨⟨hsel,ht⟩,hsz⟩,hne⟩:=hB;refine wpIn_region_any hm (zJ hall hL (fun i o ho=>gB.1 hcalm o (Bl (by simpa using ho))) _ _ _ _ (aGv (S:=S) (L:=r3) _ _ _ _ ?_))
 rw [← hsz];refine aKy (rs:=[r1,r2,r3]) hsel hQ hS ts vs _ a hl (by rw [hsz];exact ht) (by simpa using hy) (fun Ha hc => ?_)
 obtain ⟨v1,w1,v2,w2,w3,e1,s1,e2,s2,e3,hq⟩:=h _ rfl;simp only [aKx.chain,Ce,decide_eq_true_eq] at hc
 obtain ⟨⟨g1,c1⟩,⟨g2,c2⟩,⟨g3,c3⟩,c4⟩:=hc;have k1:l.toArray[r1]? = some o1:=by simpa using h1
 have k2:l.toArray[r2]? = some o2:=by simpa using h2
 have k3:l.toArray[r3]? = some o3:=by simpa using h3
 rw [k1] at g1;rw [k2] at g2;rw [k3] at g3
 simp only [Option.isNone_iff_eq_none] at g1 g2 g3
 have Lq:((ts.filterMap fun i=>l.toArray[i]?))=(ts.filterMap fun i=>l[i]?):=by simp
 rw [Lq];refine xT c1 k1 g1 (.inl e1) (fun _=>s1) ?_
 refine xT c2 k2 g2 (.inl e2) (fun _=>s2) ?_
 refine xT c3 k3 g3 (.inr ⟨e3,rfl⟩) (fun h=>absurd rfl h) ?_
 exact ⟨by simpa using c4,hq⟩
end
section
open Go.ChangeMaps (setBlock)
variable {P:Program} {C:Cx} {M:Mem} {w:World}

theorem bZz{M':Mem}(hM:aU P C M w)(h1:∀ (i:Nat) (o:AO),M'[i]? = some (some o)→M[i]? = some (some o))
  (h2:∀ (i ty:Nat) (cs:List AV),M'[i]? = some (some (.box ty cs))→∀ x∈cs,∀ u,Rep C M w x u→Rep C M' w x u):aU P C M' w:=by
 refine ⟨fun i ty n cs hm=>hM.row _ _ _ _ (h1 _ _ hm),fun i ty cs hm => ?_,fun i es cl hm=>hM.mp _ _ _ (h1 _ _ hm),fun i i' o o' b q1 q2 q3 q4=>hM.inj i i' o o' b (h1 _ _ q1) q2 (h1 _ _ q3) q4,fun i o b q1=>hM.nF i o b (h1 _ _ q1),hM.Fs,fun i o b q1=>hM.lt i o b (h1 _ _ q1)⟩
 obtain ⟨b,arr,q0,q1,q2,q3,q4⟩:=hM.box _ _ _ (h1 _ _ hm);exact ⟨b,arr,q0,q1,q2,fun j hj=>h2 _ _ _ hm _ (fP hj) _ (q3 j hj),q4⟩
theorem aSb{M':Mem}{i off:Nat}{u:Value}(hi:M'[i]? = M[i]?)(h:Rep C M w (.ptr i off) u):Rep C M' w (.ptr i off) u:=by
 cases h with
 | ptr _ _ _ h0 ha h hp=>exact .ptr i off u h0 (by rw [hi];exact ha) (by rw [hi];exact h) hp
theorem aYa{M':Mem}{i:Nat}{u:Value}(hi:M'[i]? = M[i]?)(h:Rep C M w (.mp i) u):Rep C M' w (.mp i) u:=by
 cases h with
 | mp _ _ h0 ha h=>exact .mp i u h0 (by rw [hi];exact ha) (by rw [hi];exact h)
theorem vV{M':Mem}{x:PV}{u:Value}(h:Rep C M w (.p x) u):Rep C M' w (.p x) u:=by
 cases h with
 | p _ _ h=>exact .p _ _ h

theorem aSc{b ty k:Nat}{cs:List PV}{arr:Array Value}(hM:aU P C M w)(hf:aCv M k)(hh:w.heap[b]? = some (.cells arr ty (0,0)))(hnF:¬ C.F b)(hnl:∀ (id:Nat) (o:AO),M[id]? = some (some o)→o.live=true→C.ι id≠some b)
  (hs:arr.size=cs.length) (hrep:∀ j (h:j<cs.length),cM C.F w cs[j] (arr.getD j undef)) (h1:∀ j,j<cs.length→(arr.getD j undef).oneCell'=true) :
  aU P (C.grow k b 1) (bB M k (some (.box ty (cs.map .p)))) w∧Le C (C.grow k b 1) M (bB M k (some (.box ty (cs.map .p)))) w w:=by
 have hne:∀ (j:Nat) (o':AO),M[j]? = some (some o')→j≠k:=fun j o' h e=>hf o' (e ▸ h)
 have hold:∀ (j:Nat) (o':AO),j≠k→(bB M k (some (.box ty (cs.map .p))))[j]? = some (some o')→M[j]? = some (some o'):=fun j o' h=>(aT M k j _ o' (fun e=>h e.symm)).1
 have hfw:∀ (j:Nat) (o':AO),M[j]? = some (some o')→(bB M k (some (.box ty (cs.map .p))))[j]? = some (some o'):=fun j o' h=>(aT M k j _ o' (fun e=>hne j o' h e.symm)).2 h
 have hι:∀ j,j≠k→(C.grow k b 1).ι j=C.ι j:=fun j h=>by simp [Cx.grow,h]
 have hκ:∀ j,j≠k→(C.grow k b 1).κ j=C.κ j:=fun j h=>by simp [Cx.grow,h]
 have hιs:(C.grow k b 1).ι k=some b:=by simp [Cx.grow]
 have hle:Le C (C.grow k b 1) M (bB M k (some (.box ty (cs.map .p)))) w w:=by
  refine ⟨fun j o h=>⟨o,hfw j o h⟩,fun j o h Du n' Bz hm=>⟨Bz,hold j _ (hne j o h) hm⟩,fun j o h o' hm hl => ?_,fun _ h=>h,fun _ _=>rfl⟩
  have:=hold j _ (hne j o h) hm;rw [h] at this;cases this
  exact ⟨hl,hι j (hne j o h),hκ j (hne j o h)⟩
 have hnew:∀ (o':AO),(bB M k (some (.box ty (cs.map .p))))[k]? = some (some o')→o' = .box ty (cs.map .p):=fun o' h=>by rw [aY] at h;cases h;rfl
 refine ⟨⟨fun j Du n' Bz hm => ?_,fun j Du Bz hm => ?_,fun j es cl hm => ?_,fun j j' o1 o2 b' hm hl D3 Ed Dm Fw => ?_,fun j o' b' hm hl A4 => ?_,hM.Fs,fun j o' b' hm hl A4 => ?_⟩,hle⟩
 ·by_cases e:j=k
  ·subst e;cases hnew _ hm
  ·rw [hι j e,hκ j e]
   rcases hM.row _ _ _ _ (hold j _ e hm) with h4 | ⟨b,arr,inf,q0,q1,q2,q3,q4,q5,q6,q7,q8⟩
   ·exact .inl h4
   ·exact .inr ⟨b,arr,inf,q0,q1,q2,q3,q4,q5,q6,fun j hj=>(q7 j hj).mono hle.F hle.fz,q8⟩
 ·by_cases e:j=k
  ·subst e
   cases hnew _ hm;refine ⟨b,arr,hιs,hh,by simpa using hs,fun i hi => ?_,fun i hi=>h1 i (by simpa using hi)⟩
   rw [oF];exact .p _ _ (hrep i (by simpa using hi))
  ·rw [hι j e]
   obtain ⟨b,arr,q0,q1,q2,q3,q4⟩:=hM.box _ _ _ (hold j _ e hm);exact ⟨b,arr,q0,q1,q2,fun j hj=>(q3 j hj).mono hle,q4⟩
 ·by_cases e:j=k
  ·subst e;cases hnew _ hm
  ·rw [hι j e]
   obtain ⟨b,arr,q0,q1,q2,q3⟩:=hM.mp _ _ _ (hold j _ e hm);refine ⟨b,arr,q0,q1,q2,fun j hj => ?_⟩
   obtain ⟨en,r1,r2,r3,r4⟩:=q3 j hj;exact ⟨en,r1,r2,r3,r4.mono hle.F hle.fz⟩
 ·by_cases e:j=k
  ·by_cases e':j'=k
   ·rw [e,e']
   ·subst e
    rw [hιs] at Dm;cases Dm
    rw [hι j' e'] at Fw
    exact absurd Fw (hnl _ _ (hold j' _ e' D3) Ed)
  ·by_cases e':j'=k
   ·subst e'
    rw [hιs] at Fw;cases Fw
    rw [hι j e] at Dm
    exact absurd Dm (hnl _ _ (hold j _ e hm) hl)
   ·rw [hι j e] at Dm;rw [hι j' e'] at Fw
    exact hM.inj _ _ _ _ _ (hold j _ e hm) hl (hold j' _ e' D3) Ed Dm Fw
 ·by_cases e:j=k
  ·subst e
   rw [hιs] at A4;cases A4
   exact hnF
  ·rw [hι j e] at A4
   exact hM.nF _ _ _ (hold j _ e hm) hl A4
 ·by_cases e:j=k
  ·subst e
   rw [hιs] at A4;cases A4
   exact cH hh
  ·rw [hι j e] at A4
   exact hM.lt _ _ _ (hold j _ e hm) hl A4
end
end KV
end Go.Proofs
section
namespace Go.Proofs
open Go.RowKit Go.Lib Go.Shelf
namespace KV
open Tryz
abbrev Bk(dc:Lqq):={ k:Nat // k<dc.length }
def oJ(dc:Lqq)(k:Nat):List Int:=dc.getD k []
abbrev aSa(dc:Lqq):AV := .fn 187 [] [(.rp [(.sl dc.length (dc.flatten.map aB))] 0)]
theorem cNx{F:Nat→Prop}{w:World}{n:Int}{u:Value}(h:cM F w (aB n) u):u = .int .i64 n:=by unfold aB at h;cases h;rfl
theorem bZy{dc:Lqq}(hu:uni 6 dc){k j:Nat}{x:List Int}(hx:dc[k]? = some x)(hj:j<6):dc.flatten[k*6+j]? = some (x.getD j 0):=by
 have hk:k<dc.length:=(Ca.1 hx).1
 induction dc generalizing k with
 | nil=>simp at hk
 | cons y r ih =>
  have hy:y.length=6:=hu y (gA ..);rw [tX];cases k with
  | zero =>
   simp at hx;subst hx
   rw [Nat.zero_mul,iC,aAh (by omega),B5,Ay (by omega)];rfl
  | succ k =>
   rw [xJ (by omega),hy,show (k+1)*6+j-6=k*6+j by omega]
   exact ih (fun z hz=>hu z (Ch _ hz)) (by simpa using hx) (by simpa using hk)
theorem cKa{F:Nat→Prop}{w:World}{n:Nat}{cs:List PV}{v:Value}(h:cM F w (.sl n cs) v):∃ (p:Option Addr) (cap:Nat) (us:Nat→Value),v = .slice p n cap∧(∀ i,i<cs.length→∃ b o,p=some ⟨b,o,none⟩∧F b∧w.cell? ⟨b,o+i,none⟩=some (us i))∧∀ i (h:i<cs.length),cM F w cs[i] (us i):=by
 cases h with
 | sl _ _ p cap us g1 g2 g3 g4 g5=>exact ⟨p,cap,us,rfl,g3,g4⟩
theorem bLr(dc:Lqq)(hu:uni 6 dc)(hl:dc.length≤1000):cIh Tp (aSa dc) (fun x:Bk dc => #[Value.int .i64 (x.1:Nat),.agg (Dq (oJ dc x.1))]) 187 dc.length (fun ys=>ys.map (fun x=>x.1)=bk dc.length 0):=fun C M w u Px hFs=>by
 cases Px with
 | fn _ _ _ us vs h1 h2 h3 h4 =>
  obtain rfl:us = #[]:=by simpa using h1
  have q0:=h4 0 (by simp)
  simp only [List.getElem_cons_zero] at q0
  obtain ⟨x0,rfl⟩:∃ x0,vs = #[x0]:=by
   have:vs.toList.length=1:=by simpa using h2
   match hv:vs.toList,this with
   | [x0],_=>exact ⟨x0,by rw [← hv]⟩
  change Rep C M w (.rp [.sl dc.length (dc.flatten.map aB)] 0) x0 at q0
  cases q0 with
  | rp _ _ b1 o1 u1 e1 e2 e3 =>
   have r0:=e2 0 (by simp)
   change cM C.F w (.sl dc.length (dc.flatten.map aB)) (u1 0) at r0
   have c0:=e1 0 (by simp)
   obtain ⟨p,cap,us2,hv,g3,g4⟩:=cKa r0;rw [hv] at c0
   clear r0 hv
   ·have hlf:(dc.flatten.map aB).length=dc.length*6:=by rw [Co,pO hu]
    refine ⟨_,fun pre=>True,rfl,fun l J Jx W hW hJ _ hY h0 => ?_⟩
    have hsame:∀ W',KpG C.F W W'→∀ b,C.F b→W'.heap[b]? = w.heap[b]? := fun W' hk b hb=>(hk.same b hb).trans (hW.block b (hFs b hb))
    obtain ⟨b2,o2,hp⟩:∃ b2 o2,dc.length=0∨p=some ⟨b2,o2,none⟩:=by
     by_cases hz:dc.length=0
     ·exact ⟨0,0,.inl hz⟩
     ·obtain ⟨b,o,h,_⟩:=g3 0 (by omega)
      exact ⟨b,o,.inr h⟩
    have hcell:∀ W',KpG C.F W W'→∀ k:Nat,k<dc.length→∃ a b c d e f,dc[k]? = some [a,b,c,d,e,f]∧W'.cell? ⟨b2,o2+k*6,none⟩=some (.int .i64 a)∧W'.cell? ⟨b2,o2+k*6+1,none⟩=some (.int .i64 b)∧W'.cell? ⟨b2,o2+k*6+2,none⟩=some (.int .i64 c)∧W'.cell? ⟨b2,o2+k*6+3,none⟩=some (.int .i64 d)∧W'.cell? ⟨b2,o2+k*6+4,none⟩=some (.int .i64 e)∧W'.cell? ⟨b2,o2+k*6+5,none⟩=some (.int .i64 f):=fun W' hk k hkn=>by
     obtain ⟨a,b,c,d,e,f,hx⟩:=Td hu (i:=k) (by omega)
     have one:∀ j,j<6→W'.cell? ⟨b2,o2+(k*6+j),none⟩=some (.int .i64 ([a,b,c,d,e,f].getD j 0)):=fun j hj=>by
      have hi:k*6+j<(dc.flatten.map aB).length:=by omega
      obtain ⟨b',o',q1,q2,q3⟩:=g3 (k*6+j) hi
      rcases hp with hp | hp
      ·omega
      ·rw [hp] at q1
       cases q1;rw [eV (hsame W' hk b2 q2),q3];have:=g4 (k*6+j) hi;have he:(dc.flatten.map aB)[k*6+j]=aB ([a,b,c,d,e,f].getD j 0):=by
        have h5:=bZy hu hx hj;rw [oF]
        congr 1
        obtain ⟨_,h6⟩:=Ca.1 h5;exact h6
       rw [he] at this
       rw [cNx this]
     exact ⟨a,b,c,d,e,f,hx,one 0 (by omega),one 1 (by omega),one 2 (by omega),one 3 (by omega),one 4 (by omega),one 5 (by omega)⟩
    by_cases hz:dc.length=0
    ·-- nothing to yield: any address will do
     have h2:bk dc.length 0=[]:=by unfold bk;rw [hz];rfl
     rw [hz] at c0
     refine (aYd 2 l b1 o1 cap p (by omega) (J []) W ((eV (hsame W (KpG.refl _ _) b1 c0.1) _).trans c0.2) h0).mono ?_
     rintro e W' ⟨h5,h6⟩;exact ⟨h5,.inl ⟨[],by rw [h2];rfl,h6⟩⟩
    ·have hp:p=some ⟨b2,o2,none⟩:=hp.resolve_left hz
     subst hp;have:=aYc dc hl C.F 2 l b1 o1 b2 o2 cap (by omega) (fun ys W=>∃ zs:List (Bk dc),zs.map (fun x=>x.1)=ys∧J zs W) (fun ys W=>∃ zs:List (Bk dc),zs.map (fun x=>x.1)=ys∧Jx zs W)
      (fun pre k a b c d e f W1 hx hj hlt=>by
       obtain ⟨zs,rfl,hj⟩:=hj;have hk:k<dc.length:=(Ca.1 hx).1;obtain ⟨fn,tmps,assign,body,hy,hR⟩:=hY zs ⟨k,hk⟩ W1 hj (by simpa [aYe] using hlt)
       have ev:Dq (oJ dc k) = #[.int .i64 a,.int .i64 b,.int .i64 c,.int .i64 d,.int .i64 e,.int .i64 f]:=by
        unfold oJ;rw [B5,hx];rfl
       dsimp only at hy
       rw [ev] at hy
       refine ⟨fn,tmps,assign,body,hy,hR.mono ?_⟩;rintro e w3 (⟨rfl,Ub,Qj⟩ | ⟨rfl,X8⟩)
       ·exact .inl ⟨rfl,⟨zs++[⟨k,hk⟩],by rw [iA];rfl,Ub⟩,Qj⟩
       ·exact .inr ⟨rfl,⟨zs++[⟨k,hk⟩],by rw [iA];rfl,X8⟩⟩)
      W (fun ys A B row hs hg hr=>by obtain ⟨zs,h1,h2⟩:=hs;exact ⟨zs,h1,hJ _ _ _ _ h2 hg hr⟩) (fun b hb=>gF (hFs b hb) hW.size)
      hcell
      (fun W' hk=>(eV (hsame W' hk b1 c0.1) _).trans c0.2)
      ⟨[],rfl,h0⟩
     refine this.mono ?_;rintro e W' ⟨h5,h6⟩;refine ⟨h5,?_⟩
     rcases h6 with ⟨ys,rfl,zs,h7,h8⟩ | ⟨pre,_,zs,h7,h8⟩
     ·exact .inl ⟨zs,h7,h8⟩
     ·exact .inr ⟨zs,trivial,h8⟩
end KV
end Go.Proofs
end
section
namespace Go.Proofs
open Go.RowKit
namespace KV
open Tryz
variable {P:Program} {T:TT} {E:Env} {C C0:Cx} {M M0:Mem} {w w0:World}
def fN(P:Program)(k:Nat)(c:Code)(st:St)(e:Ex)(Am:St):Prop:=∀ (C0:Cx) (M0:Mem) (w0:World) (a:Act) (w:World),M0.length≤k→Sim P C0 M0 w0 st a w→∀ (ro:Option Nat) (n:Nat),c.wpIn (Fen ro) n P (fun e' a' w'=>e'=e.toExit∧Sim P C0 M0 w0 Am a' w') a w
theorem fN.cast{k:Nat}{c:Code}{st st1 st2:St}{e:Ex}(h:fN P k c st e st1)(q:st1=st2):fN P k c st e st2:=q ▸ h
theorem bTw(hT:∀ t i,T t=some i→cQ P t=some i)(hE:nG P E)(hm:P.follows .mixedOrders=true){id:Nat}{ops:Array Oper}{d:Bool}{st Am:St}{s s':AS}(h:aPg P T E ops d st s=some (Am,s'))(g:bD s'){k:Nat}:fN P k (.region id ops d) st .normal Am:=by
 intro C0 M0 w0 a w _ hs ro n;cases d with
 | false =>
  refine wpIn_region ?_;have:=wZ hT hE ops.toList 0 (fun j=>by simp) h g C0 M0 w0 a w hs ro n (fun e' a' w'=>e'=Ex.normal.toExit∧Sim P C0 M0 w0 Am a' w') (fun a' w' h'=>⟨rfl,h'⟩)
  simpa using this
 | true =>
  obtain ⟨_,s1,h1,k1⟩:=aE h;obtain ⟨e1,rfl⟩:=aH h1;obtain ⟨r,s2,h2,k2⟩:=aE k1;obtain ⟨_,s3,h3,k3⟩:=aE k2;obtain ⟨e3,rfl⟩:=aH h3;obtain ⟨rfl,rfl⟩:=aL k3;obtain ⟨hB,_⟩:=bY e1;obtain ⟨hA,_⟩:=bY e3;obtain ⟨os,hfts,hlex⟩:=tE ops.toList _ (fts:=r.1) (fin:=r.2) h2 g
  replace hB:=zY hB
  unfold Region.lexB at hB
  rw [Ce] at hB
  have hlen:os.length=ops.toList.length:=by
   have:∀ {l:List Oper} {id:Nat} {st:St} {os:List yG} {fin:St},aPh P T E ops.toList id l st os fin→os.length=l.length:=by
    intro l
    induction l with
    | nil=>intro id st os fin h;cases h;rfl
    | cons o l ih=>intro id st os fin h;cases h with | cons _ _ _ _ q os _ h hr=>simp [ih hr]
   exact this hlex
  have key:qY P T E ops.toList st.m.length (fun k=>os.getD k (.any,[],none)) r.2 ops.toList.length (Array.replicate ops.size false) st:=by
   refine qY.lex ops.toList 0 _ st os (fun j=>by simp) (fun j q hj=>by simp [B5,hj]) (fun j hj=>absurd hj (aVh _)) (fun j oj hj hl => ?_) (fun i j _ hij hj => ?_) (by simpa using hB.2) (by simpa [ido] using hlex)
   ·exfalso
    rcases Nat.lt_or_ge j ops.size with h' | h'
    ·simp [h'] at hl
    ·simp [Nat.not_lt.2 h'] at hl
   have Ee:j<os.length:=by
    rw [hlen];obtain ⟨o,ho⟩:=Option.isSome_iff_exists.1 hj;exact (Ca.1 ho).1
   have:=oV r.1 0 hA i j (aEj os[i]) (aEj os[j]) hij (by rw [hfts,fV,Ay (by omega)];rfl) (by rw [hfts,fV,Ay Ee];rfl)
   rw [iC,iC] at this
   simp only [B5,Ay Ee,Ay (show i<os.length by omega),Option.getD_some,Array.toArray_toList]
   exact this
  refine wpIn_region_any hm ?_;have:=qY.sound hT hE (C0:=C0) (M0:=M0) (w0:=w0) (ro:=ro) (n:=n) (Q:=fun e' a' w'=>e'=Ex.normal.toExit∧Sim P C0 M0 w0 r.2 a' w') (fun a' w' h'=>⟨rfl,h'⟩) _ _ _ a _ key (hs.drawn (w.drawn+1))
  simpa using this


noncomputable def bTx(c:Code)(st:St):Ask (Ex × St):=match c with
 | .region _ ops d=>do
  let Am ← aPg Tp tT EO ops d st
  pure (.normal,Am)
 | _=>fail
theorem fN.fin{k:Nat}{c:Code}{st Am:St}{e:Ex}{g:Gh}{o:List OI}{l:List Prop}(h:aDb k g (bTx c st (asg o))=some (e,Am,l,[]))(gd:bD (out l)):fN Tp k c st e Am:=by
 unfold aDb at h
 split at h
 ·rename_i e1 st1 s hr
  split at h
  ·rename_i st2 hg
   simp only [Option.some.injEq,Prod.mk.injEq] at h
   obtain ⟨rfl,rfl,rfl,hs⟩:=h;unfold bTx at hr
   split at hr
   ·rename_i id ops d
    obtain ⟨Vu,s1,h1,k1⟩:=aE hr;obtain ⟨he,rfl⟩:=aL k1;cases he;intro C0 M0 w0 a w hk hsm ro n;exact wpIn_mono (bTw (k:=k) aJt aJs mixed h1 (fun p hp=>gd p hp) C0 M0 w0 a w hk hsm ro n) (fun _ _ _ hq=>⟨hq.1,eX hk hg hq.2⟩)
   ·exact (aX hr).elim
  ·cases h
 ·cases h
theorem fN.fi{k:Nat}{c:Code}{st Am:St}{e:Ex}(g:Gh)(o:List OI){l:List Prop}(gd:bD (out l))(h:aDb k g (bTx c st (asg o))=some (e,Am,l,[]):=by kernel_rfl):fN Tp k c st e Am:=fN.fin h gd
end KV
end Go.Proofs
end
namespace Go.Proofs
namespace KV
open Tryz
section
variable {dl x0 x1 x2 x3 x4 x5:Int}{cl mb:Nat}

theorem bZv{v1 v2:Value}{es:List (Value × PV)}(h0:cR .i64 es (.int .i64 x0))(h1:(eA es (.int .i64 x0))=true):fN Tp 5 (sub (cd Tryz.f82) cq) ⟨fr 57 [(6,(.ptr 0 0)),(8,(.ptr 4 0))],[some (.box 130 [(.ptr 1 0)]),some (.box 176 [(pI dl),(.p (.v v1)),(.p (.v v2)),(.mp 2),(.p (.v (.map (some mb))))]),some (.mp es cl),some .dead,some (.box 44 [(pI x0),(pI x1),(pI x2),(pI x3),(pI x4),(pI x5)])]⟩ .normal ⟨fr 57 [(6,(.ptr 0 0)),(8,(.ptr 4 0))],[some (.box 130 [(.ptr 1 0)]),some (.box 176 [(pI dl),(.p (.v v1)),(.p (.v v2)),(.mp 2),(.p (.v (.map (some mb))))]),some (.mp (rM es (.int .i64 x0) (dcE x0 x1 x2 x3 x4 x5)) cl),some .dead,some (.box 44 [(pI x0),(pI x1),(pI x2),(pI x3),(pI x4),(pI x5)])]⟩:=fN.fi ⟨aj,[],[],[]⟩ [bT] (gc h1 (gc h0 gn))
theorem bZw{v1 v2:Value}{es:List (Value × PV)}(h0:cR .i64 es (.int .i64 x0))(h1:(eA es (.int .i64 x0))=false):fN Tp 5 (sub (cd Tryz.f82) cq) ⟨fr 57 [(6,(.ptr 0 0)),(8,(.ptr 4 0))],[some (.box 130 [(.ptr 1 0)]),some (.box 176 [(pI dl),(.p (.v v1)),(.p (.v v2)),(.mp 2),(.p (.v (.map (some mb))))]),some (.mp es cl),some .dead,some (.box 44 [(pI x0),(pI x1),(pI x2),(pI x3),(pI x4),(pI x5)])]⟩ .normal ⟨fr 57 [(6,(.ptr 0 0)),(8,(.ptr 4 0))],[some (.box 130 [(.ptr 1 0)]),some (.box 176 [(pI dl),(.p (.v v1)),(.p (.v v2)),(.mp 2),(.p (.v (.map (some mb))))]),some (.mp (es++[((.int .i64 x0),(dcE x0 x1 x2 x3 x4 x5))]) (cl+1)),some .dead,some (.box 44 [(pI x0),(pI x1),(pI x2),(pI x3),(pI x4),(pI x5)])]⟩:=fN.fi ⟨aj,[],[],[]⟩ [bF] (gc h1 (gc h0 gn))
theorem bZx{v1 v2:Value}{es:List (Value × PV)}:fN Tp 5 (sub (cd Tryz.f82) ca) ⟨fr 57 [(6,(.ptr 0 0)),(8,(.ptr 4 0))],[some (.box 130 [(.ptr 1 0)]),some (.box 176 [(pI dl),(.p (.v v1)),(.p (.v v2)),(.mp 2),(.p (.v (.map (some mb))))]),some (.mp es cl),some .dead,some (.box 44 [(pI x0),(pI x1),(pI x2),(pI x3),(pI x4),(pI x5)])]⟩ .normal ⟨fr 57 [(6,(.ptr 0 0)),(8,(.ptr 4 0)),(39,(pB (decide (x5 > 0))))],[some (.box 130 [(.ptr 1 0)]),some (.box 176 [(pI dl),(.p (.v v1)),(.p (.v v2)),(.mp 2),(.p (.v (.map (some mb))))]),some (.mp es cl),some .dead,some (.box 44 [(pI x0),(pI x1),(pI x2),(pI x3),(pI x4),(pI x5)])]⟩:=fN.fi ⟨[0,1,2,3,4,5,7,9,10,11,12,13,14,15,16,17,18,19,20,21,22,23,24,25,26,27,28,29,30,31,32,33,34,35,36,37,38,40,41,42,43,44,45,46,47,48,49,50,51,52,53,54,55,56],[],[],[]⟩ [] gn
end
end KV
end Go.Proofs
section
namespace Go.Proofs
open Go.RowKit
namespace KV
open Tryz
open Go.ChangeMaps (setBlock)
open Go.Maps Go.MapKept

section
variable {P:Program} {o:Oper} {a:Act} {W W':World}
theorem bTs{x:Operand}{p:Addr}(ho:o.op = .nilCheck x)(hv:a.eval x = .pointer (some p)):(execOp a.eval o).run P W = .ok (.value (.pointer (some p))) W:=by
 unfold execOp;rw [ho];simp [hv]
theorem zH{t:TypeId}{x:Operand}{f:Nat}{v r:Value}(ho:o.op = .fieldAddr t x f)(hx:a.eval x=v)(hr:(Instr.fieldAt t v f).run P W = .ok r W):(execOp a.eval o).run P W = .ok (.value r) W:=by
 unfold execOp;rw [ho];simp [hx,hr,Result.andThen]
theorem zI{t:TypeId}{fs:Array Field}{f:Nat}{fl:Field}{j:TI}(hd:P.underlying t=some (.struct fs))(hf:fs[f]? = some fl)(hj:cQ P fl.type=some j)(h0:j.size≠0)(b off:Nat) :
  (Instr.fieldAt t (.pointer (some ⟨b,off,none⟩)) f).run P W = .ok (.pointer (some ⟨b,off+fl.offset,none⟩)) W:=by
 unfold Instr.fieldAt;rw [Sem.run_bind,run_underlying hd,Result.andThen_ok];simp only [hf];rw [Sem.run_bind];show ((pure (⟨b,off,none⟩:Addr):Sem Addr).run P W).andThen _=_;rw [Sem.run_pure,Result.andThen_ok,Sem.run_bind,tR hj h0,Result.andThen_ok];rfl
theorem bLq{t:Nat}{i:TI}(hi:cQ P t=some i)(ha:i.agg=true){b:Nat}{l:List Value}{ty:TypeId}{fr:Nat × Nat}(hl:l.length=i.size)(h:W.heap[b]? = some (.cells l.toArray ty fr)):(Instr.loadAt t (.pointer (some ⟨b,0,none⟩))).run P W = .ok (.agg l.toArray) W:=by
 have:=mV (P:=P) (w:=W) hi ha (b:=b) (o:=0) (f:=fun j=>l.getD j undef) (fun j hj=>by
  rw [iC,cE h (by simpa using (by omega:j<l.length))]
  simp [B5,Ay (show j<l.length by omega),Cb])
 have e:((List.range i.size).map fun j=>l.getD j undef).toArray=l.toArray:=by
  rw [← hl]
  congr 1
  apply List.ext_getElem
  ·simp
  ·intro j h1 h2
   simp [B5,Ay h2]
 rw [e] at this
 unfold Instr.loadAt Instr.sureAddr;simpa using this
end
theorem Qb{x:List Int}(hx:x.length=6):Instr.fill (fun i=>some (i*6,6)) ((Array.range (1*6)).map (J8.cells[· % J8.cells.size]!)) [(0,.agg (vsL x).toArray)]=some (vsL x).toArray:=by
 obtain ⟨a,b,c,d,e,f,rfl⟩:=A7 hx
 kernel_rfl
theorem tiq{P:Program}{t:Nat}{b:Bool}{n:Nat}(h:(cQ P t).map (fun i=>(i.agg,i.size))=some (b,n)):∃ i,cQ P t=some i∧i.agg=b∧i.size=n:=by
 cases h2:cQ P t with
 | none=>rw [h2] at h;simp at h
 | some i=>rw [h2] at h;simp at h;exact ⟨i,rfl,h.1,h.2⟩
theorem Qc:(cQ Tp 130).map (fun i=>(i.agg,i.size))=some (false,1):=by kernel_rfl
theorem Qd:(cQ Tp 174).map (fun i=>(i.agg,i.size))=some (false,1):=by kernel_rfl
theorem Xo:(cQ Tp 3).map (fun i=>(i.agg,i.size))=some (false,1):=by kernel_rfl
theorem Tw:(cQ Tp 44).map (fun i=>(i.agg,i.size))=some (true,6):=by kernel_rfl
theorem G6:(Tryz.prog.info? 44).map (fun i=>(i.zero,i.size,i.bytes))=some (some J8,6,48):=by kernel_rfl

structure bZt (mb:Nat) (es:Array MapEntry) (cl:Nat) (L:List Ent) (k:Int) (x:List Int) (W W':World) (Cw:Array MapEntry) (Ef:Nat) (e:Ent):Prop where
 ok:nM mb Cw (rG L e)
 ky:e.k=k
 li:e.l=rE L k++[x]
 born:(∀ y∈es.toList,y.born<cl)→∀ y∈Cw.toList,y.born<Ef
 has:∀ p∈jE mb Cw Ef (rG L e),W'.heap[p.1]? = some p.2∧((∃ p0∈jE mb es cl L,p0.1=p.1)∨W.heap.size≤p.1)
 size:W.heap.size≤W'.heap.size
 os:W'.os=W.os
 tape:W'.tape=W.tape
 out:W'.output=W.output
 keep:∀ b,b<W.heap.size→(∀ q∈jE mb es cl L,q.1≠b)→W'.heap[b]? = W.heap[b]?

theorem bZu:∃ l:List Oper,sub (cd Tryz.f82) bv = .region 9 l.toArray true∧aNv l [0,1,2,3,4,5,6,7,8,9,10,11,12,13] 14 15 16=true∧l.all aCm=true∧l.map (fun o=>(o.op,o.dst))=[(.load 130 (.tmp 6),some 40),(.nilCheck (.tmp 40),some 41),(.fieldAddr 176 (.tmp 41) 2,some 42),(.load 174 (.tmp 42),some 43),(.fieldAddr 44 (.tmp 8) 5,some 44),(.load 3 (.tmp 44),some 45),(.load 130 (.tmp 6),some 46),(.nilCheck (.tmp 46),some 47),(.fieldAddr 176 (.tmp 47) 2,some 48),(.load 174 (.tmp 48),some 49),(.fieldAddr 44 (.tmp 8) 5,some 50),(.load 3 (.tmp 50),some 51),(.lookup 174 (.tmp 49) (.tmp 51) false,some 52),(.load 44 (.tmp 8),some 53),(.buildSlice 24 1 #[(0,.tmp 53)],some 54),(.call { callee := .builtin .append,args := #[.tmp 52,.tmp 54],argTypes := #[24,24] },some 55),(.mapUpdate 174 (.tmp 43) (.tmp 45) (.tmp 55),none)] :=
 ⟨match sub (cd Tryz.f82) bv with | .region _ ops _=>ops.toList | _=>[],by kernel_rfl,by kernel_rfl,by kernel_rfl,by kernel_rfl⟩
set_option maxHeartbeats 4000000 in
theorem Tt{F:Fence}{n:Nat}(hall:∀ f,F.fn f){a:Act}{W:World}{b6 bd b8 mb cl:Nat}{es:Array MapEntry}{L:List Ent}{x:List Int}(Ms:x.length=6){a6 ad:Array Value}{t6 td:TypeId}
  (hsz:a.tmps.size=57) (v6:a.tmps.getD 6 undef = .pointer (some ⟨b6,0,none⟩)) (v8:a.tmps.getD 8 undef = .pointer (some ⟨b8,0,none⟩))
  (h6:W.heap[b6]? = some (.cells a6 t6 (0,0))) (q6:0<a6.size∧a6.getD 0 undef = .pointer (some ⟨bd,0,none⟩)) (hd:W.heap[bd]? = some (.cells ad td (0,0))) (qd:4<ad.size∧ad.getD 4 undef = .map (some mb)) (h8:W.heap[b8]? = some (.cells (vsL x).toArray 44 (0,0)))
  (hM:nM mb es L) (hR:∀ p∈jE mb es cl L,W.heap[p.1]? = some p.2) (hl:∀ e∈L,e.l.length≤1000) (hne:∀ p∈jE mb es cl L,p.1≠b6∧p.1≠bd∧p.1≠b8) (hk:(Lit.int .i64 (dAb x)).wf=true) :
  (sub (cd Tryz.f82) bv).wpIn F n Tp (fun e a' W'=>e = .normal∧∃ Cw Ef e,bZt mb es cl L (dAb x) x W W' Cw Ef e) a W:=by
 obtain ⟨l,hc,hB,hcalm,hops⟩:=bZu;rw [hc];obtain ⟨o0,l0,rfl,h0,hops⟩:=tW.1 hops;obtain ⟨o1,l1,rfl,h1,hops⟩:=tW.1 hops;obtain ⟨o2,l2,rfl,h2,hops⟩:=tW.1 hops;obtain ⟨o3,l3,rfl,h3,hops⟩:=tW.1 hops;obtain ⟨o4,l4,rfl,h4,hops⟩:=tW.1 hops;obtain ⟨o5,l5,rfl,h5,hops⟩:=tW.1 hops;obtain ⟨o6,l6,rfl,Rq,hops⟩:=tW.1 hops;obtain ⟨o7,l7,rfl,h7,hops⟩:=tW.1 hops;obtain ⟨o8,l8,rfl,Rr,hops⟩:=tW.1 hops;obtain ⟨o9,l9,rfl,h9,hops⟩:=tW.1 hops;obtain ⟨o10,l10,rfl,A8,hops⟩:=tW.1 hops;obtain ⟨o11,l11,rfl,Be,hops⟩:=tW.1 hops;obtain ⟨o12,l12,rfl,Bo,hops⟩:=tW.1 hops;obtain ⟨o13,l13,rfl,Cl,hops⟩:=tW.1 hops;obtain ⟨Xp,l14,rfl,Ec,hops⟩:=tW.1 hops;obtain ⟨Vs,l15,rfl,Gx,hops⟩:=tW.1 hops;obtain ⟨Xq,l16,rfl,G4,hops⟩:=tW.1 hops;obtain rfl:=List.map_eq_nil_iff.1 hops;obtain ⟨q0,d0⟩:=Prod.mk.inj h0;obtain ⟨q1,d1⟩:=Prod.mk.inj h1;obtain ⟨q2,d2⟩:=Prod.mk.inj h2;obtain ⟨q3,d3⟩:=Prod.mk.inj h3;obtain ⟨q4,d4⟩:=Prod.mk.inj h4;obtain ⟨q5,d5⟩:=Prod.mk.inj h5;obtain ⟨Xr,d6⟩:=Prod.mk.inj Rq;obtain ⟨q7,d7⟩:=Prod.mk.inj h7;obtain ⟨q8,d8⟩:=Prod.mk.inj Rr;obtain ⟨q9,d9⟩:=Prod.mk.inj h9;obtain ⟨Xs,G7⟩:=Prod.mk.inj A8;obtain ⟨Xt,G8⟩:=Prod.mk.inj Be;obtain ⟨Xu,G9⟩:=Prod.mk.inj Bo;obtain ⟨Xv,Qe⟩:=Prod.mk.inj Cl;obtain ⟨Xw,Qg⟩:=Prod.mk.inj Ec;obtain ⟨Xx,Tx⟩:=Prod.mk.inj Gx;obtain ⟨Xy,d16⟩:=Prod.mk.inj G4;clear h0 h1 h2 h3 h4 h5 Rq h7 Rr h9 A8 Be Bo Cl Ec Gx G4;have V6:a.eval (.tmp 6) = .pointer (some ⟨b6,0,none⟩):=v6;have V8:a.eval (.tmp 8) = .pointer (some ⟨b8,0,none⟩):=v8;obtain ⟨Xz,Ty,Tz,_⟩:=tiq Qc;obtain ⟨X0,Qh,T0,T6⟩:=tiq Qd;obtain ⟨i3,t3,a3,s3⟩:=tiq Xo;obtain ⟨Xi,X1,X2,X3⟩:=tiq Tw;have fd:∀ U:World,(Instr.fieldAt 176 (.pointer (some ⟨bd,0,none⟩)) 2).run Tp U = .ok (.pointer (some ⟨bd,4,none⟩)) U:=fun U =>
  (zI (P:=Tp) (W:=U) Tryz.underlying176 (f:=2) rfl (by exact Qh) (by rw [T6];decide) bd 0)
 have f8:∀ U:World,(Instr.fieldAt 44 (.pointer (some ⟨b8,0,none⟩)) 5).run Tp U = .ok (.pointer (some ⟨b8,5,none⟩)) U:=fun U =>
  (zI (P:=Tp) (W:=U) Tryz.underlying44 (f:=5) rfl (by exact t3) (by rw [s3];decide) b8 0)
 obtain ⟨S,hSdef⟩:∃ S:World→Prop,S=fun U=>U.heap[b6]? = W.heap[b6]? ∧ U.heap[bd]? = W.heap[bd]? ∧ U.heap[b8]? = W.heap[b8]? ∧ U.heap[mb]? = W.heap[mb]? := ⟨_,rfl⟩
 have hmb:W.heap[mb]? = some (.map es cl):=hR (mb,.map es cl) (by simp [jE])
 have r6:∀ U,S U→(Instr.loadAt 130 (.pointer (some ⟨b6,0,none⟩))).run Tp U = .ok (.pointer (some ⟨bd,0,none⟩)) U:=fun U hU=>by
  rw [hSdef] at hU
  refine aBb Ty Tz ?_;rw [eV hU.1,cE h6 q6.1];have:=q6.2;simp only [Cb,rY q6.1,Option.getD_some] at this ⊢
  rw [this]
 have rd:∀ U,S U→(Instr.loadAt 174 (.pointer (some ⟨bd,4,none⟩))).run Tp U = .ok (.map (some mb)) U:=fun U hU=>by
  rw [hSdef] at hU
  refine aBb Qh T0 ?_;rw [eV hU.2.1,cE hd qd.1];have:=qd.2;simp only [Cb,rY qd.1,Option.getD_some] at this ⊢
  rw [this]
 have x5:(vsL x)[5]? = some (.int .i64 (dAb x)):=by
  unfold vsL;rw [fV,Ay (by omega)]
  simp [dAb,B5,Ay (show 5<x.length by omega)]
 have r5:∀ U,S U→(Instr.loadAt 3 (.pointer (some ⟨b8,5,none⟩))).run Tp U = .ok (.int .i64 (dAb x)) U:=fun U hU=>by
  rw [hSdef] at hU
  refine aBb t3 a3 ?_;have T8:5<(vsL x).length:=by simp [vsL,Ms]
  rw [eV hU.2.2.1,cE h8 (j:=5) (by simpa using T8)]
  simp only [Ay T8,Option.some.injEq] at x5
  simp [Cb,Ay T8,x5]
 have r8:∀ U,S U→(Instr.loadAt 44 (.pointer (some ⟨b8,0,none⟩))).run Tp U = .ok (.agg (vsL x).toArray) U:=fun U hU=>by
  rw [hSdef] at hU
  exact bLq X1 X2 (by simp [vsL,Ms,X3]) (hU.2.2.1.trans h8)
 have rz:∀ U:World,(zeroValue 24).run Tp U = .ok (.slice none 0 0) U:=fun U=>rfl
 have rl:∀ U,S U→(Instr.lookup 174 (.map (some mb)) (.int .i64 (dAb x)) false).run Tp U = .ok (sW L (dAb x)) U:=fun U hU=>by
  rw [hSdef] at hU
  exact bTt Tryz.underlying174 Tryz.underlying3 (rz U) (hU.2.2.2.trans hmb) hM hk
 obtain ⟨W1,Jp⟩:∃ W1:World,W1={ W with drawn:=W.drawn+1 }:=⟨_,rfl⟩
 have Ka:W1.heap=W.heap:=by rw [Jp]
 have hs:Sim Tp ((⟨fun _=>none,fun _=>0,fun _=>False,[]⟩:Cx).with (jE mb es cl L++[])) [] { W1 with heap := #[] } ⟨List.replicate 57 .any,[]⟩ { tmps:=a.tmps,defers:=[] } W1:=by
  refine ⟨⟨fun _=>none,fun _=>0,fun _=>False,[]⟩,⟨by simpa using hsz,fun j hj=>by rw [List.getElem_replicate];exact .any _⟩,⟨fun _ _ _ _ h=>by simp at h,fun _ _ _ h=>by simp at h,fun _ _ _ h=>by simp at h,fun _ _ _ _ _ h=>by simp at h,fun _ _ _ h=>by simp at h,fun _ h=>h.elim,fun _ _ _ h=>by simp at h⟩,
   ⟨rfl,rfl,rfl,Nat.zero_le _,fun b hb=>by simp at hb,fun _ _ h=>by simp at h,fun _ _ h=>by simp at h,fun _ _ h=>by simp at h,fun _ _ _ h=>by simp at h,fun _ h=>h,fun _ h=>h.elim⟩,?_⟩
  refine ⟨⟨[],rfl,.nil,fun D h=>by cases h⟩,fun p hp => ?_,.no (fun _ _ h=>by simp at h)⟩
  have I1:p∈jE mb es cl L:=by have h2:p∈jE mb es cl L++[]:=hp;rwa [List.append_nil] at h2
  refine ⟨by rw [Ka];exact hR p I1,Nat.zero_le _,?_,fun h=>h,fun _ _ h=>by simp at h⟩
  rcases dH.1 I1 with rfl | ⟨y,_,rfl⟩ <;> (intro h;cases h)
 obtain ⟨v2,w2,Cw,Ef,e,hrun,hkeep,Kb,⟨hsize,hborn,hold⟩,hup,Hh,hek,hel,_,hsim⟩:=cAd (P:=Tp) (C0:=⟨fun _=>none,fun _=>0,fun _=>False,[]⟩) (kt:=3) (S22:=24) (ty:=Vs.type) (k:=dAb x) (x:=x) Ms Tryz.underlying174 Tryz.underlying3 Tryz.underlying24 G6 hs (fun p _ q hq=>by cases hq) hM hk hl
 have Gm:S w2:=by
  rw [hSdef];have hlt:∀ b o,W.heap[b]? = some o→b<W1.heap.size:=fun b o h=>by rw [Ka];exact cH h
  refine ⟨(hkeep b6 (hlt _ _ h6) fun q hq=>(hne q hq).1).trans (by rw [Ka]),(hkeep bd (hlt _ _ hd) fun q hq=>(hne q hq).2.1).trans (by rw [Ka]),(hkeep b8 (hlt _ _ h8) fun q hq=>(hne q hq).2.2).trans (by rw [Ka]),Kb.trans (by rw [Ka])⟩
 have Kc:S { W with drawn:=W.drawn+1 }:=by rw [hSdef];exact ⟨rfl,rfl,rfl,rfl⟩
 refine bLs (P:=Tp) (o1:=Xp) (o2:=Vs) (o3:=Xq) (S:=S) hall (fun ⟨_,_,h,_⟩=>by cases h) hcalm [0,1,2,3,4,5,6,7,8,9,10,11,12,13] 14 15 16 mixed hB rfl rfl rfl (fun c a w h=>by cases h.1) Kc
  [.pointer (some ⟨bd,0,none⟩),.pointer (some ⟨bd,0,none⟩),.pointer (some ⟨bd,4,none⟩),.map (some mb),.pointer (some ⟨b8,5,none⟩),.int .i64 (dAb x),.pointer (some ⟨bd,0,none⟩),.pointer (some ⟨bd,0,none⟩),.pointer (some ⟨bd,4,none⟩),.map (some mb),.pointer (some ⟨b8,5,none⟩),.int .i64 (dAb x),sW L (dAb x),.agg (vsL x).toArray] rfl ?_ ?_
 ·refine ⟨fun U hU=>sL q0 V6 (r6 U hU),fun U hU=>bTs q1 (by simp [bZ,bS,dS,hsz,V6,V8,d0,d1,d2,d3,d4,d5,d6,d7,d8,d9,G7,G8,G9]),fun U hU=>zH q2 (by simp [bZ,bS,dS,hsz,V6,V8,d0,d1,d2,d3,d4,d5,d6,d7,d8,d9,G7,G8,G9]) (fd U),
   fun U hU=>sL q3 (by simp [bZ,bS,dS,hsz,V6,V8,d0,d1,d2,d3,d4,d5,d6,d7,d8,d9,G7,G8,G9]) (rd U hU),fun U hU=>zH q4 (by simp [bZ,bS,dS,hsz,V6,V8,d0,d1,d2,d3,d4,d5,d6,d7,d8,d9,G7,G8,G9]) (f8 U),fun U hU=>sL q5 (by simp [bZ,bS,dS,hsz,V6,V8,d0,d1,d2,d3,d4,d5,d6,d7,d8,d9,G7,G8,G9]) (r5 U hU),
   fun U hU=>sL Xr (by simp [bZ,bS,dS,hsz,V6,V8,d0,d1,d2,d3,d4,d5,d6,d7,d8,d9,G7,G8,G9]) (r6 U hU),fun U hU=>bTs q7 (by simp [bZ,bS,dS,hsz,V6,V8,d0,d1,d2,d3,d4,d5,d6,d7,d8,d9,G7,G8,G9]),fun U hU=>zH q8 (by simp [bZ,bS,dS,hsz,V6,V8,d0,d1,d2,d3,d4,d5,d6,d7,d8,d9,G7,G8,G9]) (fd U),
   fun U hU=>sL q9 (by simp [bZ,bS,dS,hsz,V6,V8,d0,d1,d2,d3,d4,d5,d6,d7,d8,d9,G7,G8,G9]) (rd U hU),fun U hU=>zH Xs (by simp [bZ,bS,dS,hsz,V6,V8,d0,d1,d2,d3,d4,d5,d6,d7,d8,d9,G7,G8,G9]) (f8 U),fun U hU=>sL Xt (by simp [bZ,bS,dS,hsz,V6,V8,d0,d1,d2,d3,d4,d5,d6,d7,d8,d9,G7,G8,G9]) (r5 U hU),
   fun U hU=>bLu Xu (by simp [bZ,bS,dS,hsz,V6,V8,d0,d1,d2,d3,d4,d5,d6,d7,d8,d9,G7,G8,G9]) (by simp [bZ,bS,dS,hsz,V6,V8,d0,d1,d2,d3,d4,d5,d6,d7,d8,d9,G7,G8,G9]) (rl U hU),
   fun U hU=>sL Xv (by simp [bZ,bS,dS,hsz,V6,V8,d0,d1,d2,d3,d4,d5,d6,d7,d8,d9,G7,G8,G9]) (r8 U hU),trivial⟩
 ·intro a' Mr
  have X4:a'.eval (.tmp 43) = .map (some mb):=by rw [Mr];simp [aCn,bZ,bS,dS,hsz,V6,V8,d0,d1,d2,d3,d4,d5,d6,d7,d8,d9,G7,G8,G9,Qe]
  have Qi:a'.eval (.tmp 45) = .int .i64 (dAb x):=by rw [Mr];simp [aCn,bZ,bS,dS,hsz,V6,V8,d0,d1,d2,d3,d4,d5,d6,d7,d8,d9,G7,G8,G9,Qe]
  have X5:a'.eval (.tmp 52)=sW L (dAb x):=by rw [Mr];simp [aCn,bZ,bS,dS,hsz,V6,V8,d0,d1,d2,d3,d4,d5,d6,d7,d8,d9,G7,G8,G9,Qe]
  have X6:a'.eval (.tmp 53) = .agg (vsL x).toArray:=by rw [Mr];simp [aCn,bZ,bS,dS,hsz,V6,V8,d0,d1,d2,d3,d4,d5,d6,d7,d8,d9,G7,G8,G9,Qe]
  have X7:a'.tmps.size=57:=by rw [Mr];simp [aCn,dS,hsz,d0,d1,d2,d3,d4,d5,d6,d7,d8,d9,G7,G8,G9,Qe]
  obtain ⟨inf,hi,hz,Gd,Oe⟩:=info_parts G6;have hvl:(vsL x).length=6:=by simp [vsL,Ms]
  have hbld:∀ U:World,(Instr.buildSlice 24 1 #[(0,.agg (vsL x).toArray)]).run Tp U = .ok (.slice (some ⟨U.heap.size,0,none⟩) 1 1) (U.alloc (.cells (vsL x).toArray 44)):=fun U =>
   aFj (P:=Tp) 24 44 inf 1 #[(0,.agg (vsL x).toArray)] (vsL x).toArray J8 Tryz.underlying24 hi hz (by rw [Gd];decide) (by rw [Gd];exact Qb Ms)
  have Ua:({ W with drawn:=W.drawn+1 }:World)=W1:=Jp.symm
  rw [Ua] at Kc ⊢
  refine ⟨_,_,v2,w2,setBlock w2 mb (.map Cw Ef),bLv Xw X6 (hbld _),?_,bLw Xx (by rw [Qg,bZ rfl];exact X5) (by rw [Qg,bS (by omega)]) hrun,Gm,bLx Xy (by rw [Qg,Tx,bZ rfl,bZ rfl];exact X4) (by rw [Qg,Tx,bZ rfl,bZ rfl];exact Qi) (by rw [Qg,Tx,bS (by rw [dS];omega)]) hup,?_⟩
  ·obtain ⟨n1,n2,n3⟩:=kJ W1 (.cells (vsL x).toArray 44)
   rw [hSdef] at Kc ⊢
   have hlt:∀ b o,W.heap[b]? = some o→b<W1.heap.size:=fun b o h=>by rw [Ka];exact cH h
   exact ⟨(n3 b6 (hlt _ _ h6)).trans Kc.1,(n3 bd (hlt _ _ hd)).trans Kc.2.1,(n3 b8 (hlt _ _ h8)).trans Kc.2.2.1,(n3 mb (hlt _ _ hmb)).trans Kc.2.2.2⟩
  ·refine ⟨rfl,Cw,Ef,e,⟨Hh,hek,hel,hborn,fun p hp => ?_,?_,?_,?_,?_,fun b hb hno => ?_⟩⟩
   ·refine ⟨hsim.has p (pN _ hp),?_⟩
    rcases hold p hp with h | h
    ·exact .inl h
    ·right;rw [Ka] at h;exact h
   ·unfold setBlock;simp only [Array.size_setIfInBounds];rw [Ka] at hsize;exact hsize
   ·obtain ⟨C,_,_,hF,_⟩:=hsim
    exact hF.os.trans (by rw [Jp])
   ·obtain ⟨C,_,_,hF,_⟩:=hsim
    exact hF.tape.trans (by rw [Jp])
   ·obtain ⟨C,_,_,hF,_⟩:=hsim
    exact hF.out.trans (by rw [Jp])
   ·have hbm:b≠mb:=fun h=>hno (mb,.map es cl) (by simp [jE]) h.symm
    have:(setBlock w2 mb (.map Cw Ef)).heap[b]? = w2.heap[b]? := by
     unfold setBlock;simp only [Array.getElem?_setIfInBounds];rw [if_neg (Ne.symm hbm)]
    rw [this,hkeep b (by rw [Ka];exact hb) hno,Ka]
end KV
end Go.Proofs
end
section
namespace Go.Proofs
open Go.RowKit
namespace KV
open Tryz
open Go.ChangeMaps (setBlock)

mutual
def ffP:PV→Bool
 | .v _=>true
 | .agg cs=>bLp cs
 | _=>false
def bLp:List PV→Bool
 | []=>true
 | x::r=>ffP x && bLp r
end
theorem bCa:∀ {l:List PV},bLp l=true→∀ (i:Nat) (h:i<l.length),ffP l[i]=true
 | [],_,i,h=>by simp at h
 | x::r,hl,i,h=>by
  rw [bLp,Ce] at hl
  cases i with
  | zero=>exact hl.1
  | succ i=>exact bCa hl.2 i (by simpa using h)
theorem aRx{α:Type}(g:α→PV)(h:∀ x,ffP (g x)=true):∀ l:List α,bLp (l.map g)=true
 | []=>rfl
 | x::r=>by rw [iB,bLp,h,aRx g h r];rfl
theorem cM.anyF{F F':Nat→Prop}{w w':World}{x:PV}{u:Value}(h:cM F w x u)(hm:ffP x=true):cM F' w' x u:=by
 induction h with
 | v x=>exact .v x
 | agg cs vs h0 h1 _ ih =>
  rw [ffP] at hm
  exact .agg cs vs h0 h1 fun i hi=>ih i hi (bCa hm i hi)
 | sl=>simp [ffP] at hm
 | mp=>simp [ffP] at hm
 | rp=>simp [ffP] at hm

def wH(x:List Int):PV := .agg (x.map aB)
def lZ(es:List (Value × PV))(x:List Int):List (Value × PV):=if eA es (.int .i64 (dN x)) then rM es (.int .i64 (dN x)) (wH x) else es++[(.int .i64 (dN x),wH x)]
def atF(q:Lqq):List (Value × PV):=q.foldl lZ []
theorem aRy(q:Lqq)(x:List Int):atF (q++[x])=lZ (atF q) x:=by unfold atF;rw [aDa];rfl
structure aAz (es:List (Value × PV)):Prop where
 ky:∀ e∈es,aQf .i64 e.1=true
 nd:(es.map fun e=>jU e.1).Nodup
 nm:∀ e∈es,ffP e.2=true
theorem aGt{kv:Value}{x:PV}:∀ (es:List (Value × PV)),((rM es kv x).map fun e=>jU e.1)=es.map fun e=>jU e.1
 | []=>rfl
 | e::r=>by
  unfold rM
  split
  ·rename_i h
   rw [iB,iB,h]
  ·rw [iB,iB,aGt r]
theorem aGu{kv:Value}{x:PV}{e:Value × PV}:∀ {es:List (Value × PV)},e∈rM es kv x→e∈es∨e=(kv,x)
 | [],h=>by unfold rM at h;cases h
 | a::r,h=>by
  unfold rM at h
  split at h
  ·rcases fW.1 h with h | h
   ·exact .inr h
   ·exact .inl (Ch _ h)
  ·rcases fW.1 h with h | h
   ·exact .inl (h ▸ gA ..)
   ·rcases aGu h with h | h
    ·exact .inl (Ch _ h)
    ·exact .inr h
theorem bCb(x:List Int):ffP (wH x)=true:=by unfold wH;rw [ffP];exact aRx _ (fun _=>rfl) _
theorem aAz.step{es:List (Value × PV)}(h:aAz es){x:List Int}(hx : -1000000≤dN x∧dN x≤1000000):aAz (lZ es x):=by
 unfold lZ;cases hb:eA es (.int .i64 (dN x)) with
 | true =>
  rw [if_pos rfl];refine ⟨fun e he => ?_,by rw [aGt];exact h.nd,fun e he => ?_⟩
  ·rcases aGu he with h1 | rfl
   ·exact h.ky e h1
   ·exact pX hx
  ·rcases aGu he with h1 | rfl
   ·exact h.nm e h1
   ·exact bCb x
 | false =>
  rw [if_neg (by simp)]
  refine ⟨fun e he => ?_,?_,fun e he => ?_⟩
  ·rcases jK.1 he with h1 | h1
   ·exact h.ky e h1
   ·rw [List.mem_singleton.1 h1];exact pX hx
  ·rw [iA,List.nodup_append]
   refine ⟨h.nd,by simp,fun a ha b A4 hab => ?_⟩
   simp at A4
   subst A4;obtain ⟨e,he,rfl⟩:=B3.1 ha;have:=(List.any_eq_false.1 (show es.any _=false from hb)) e he
   exact this (decide_eq_true hab)
  ·rcases jK.1 he with h1 | h1
   ·exact h.nm e h1
   ·rw [List.mem_singleton.1 h1];exact bCb x
theorem bTp{q:Lqq}(hq:∀ x∈q,-1000000≤dN x∧dN x≤1000000):aAz (atF q):=by
 have key:∀ (q:Lqq) (es:List (Value × PV)),(∀ x∈q,-1000000≤dN x∧dN x≤1000000)→aAz es→aAz (q.foldl lZ es):=by
  intro q
  induction q with
  | nil=>intro es _ h;exact h
  | cons x q ih=>intro es hq h;exact ih _ (fun y hy=>hq y (Ch _ hy)) (h.step (hq x (gA ..)))
 exact key q [] hq ⟨fun e h=>(by cases h),by simp,fun e h=>(by cases h)⟩
theorem aAz.keys{es:List (Value × PV)}(h:aAz es){k:Int}(hk : -1000000≤k∧k≤1000000):cR .i64 es (.int .i64 k):=⟨h.ky,pX hk,h.nd⟩
theorem bTq{kv:Value}{x:PV}(es:List (Value × PV)):(rM es kv x).length=es.length:=by
 have:=congrArg List.length (aGt (kv:=kv) (x:=x) es);simpa using this

abbrev dkB(dl:Int)(s1 s2:PV)(a b:AV):AO := .box 176 [.p (aB dl),.p s1,.p s2,a,b]
abbrev nL(dl:Int)(sk dc:Lqq):Mem:=[some (.box 130 [.ptr 1 0]),some (dkB dl (.sl sk.length (sk.flatten.map aB)) (.sl dc.length (dc.flatten.map aB)) (.mp 2) (.mp 3)),some (.mp [] 0),some (.mp [] 0)]
abbrev aBa(dl:Int)(v1 v2:Value)(mb:Nat)(es:List (Value × PV)):Mem:=[some (.box 130 [.ptr 1 0]),some (dkB dl (.v v1) (.v v2) (.mp 2) (.p (.v (.map (some mb))))),some (.mp es es.length),some .dead]
abbrev iR(dl:Int)(v1 v2:Value)(mb:Nat)(es:List (Value × PV))(x:List Int):Mem:=[some (.box 130 [.ptr 1 0]),some (dkB dl (.v v1) (.v v2) (.mp 2) (.p (.v (.map (some mb))))),some (.mp es es.length),some .dead,some (.box 44 ((x.map aB).map .p))]
theorem at4{α:Type}{a b c d x:α}{i:Nat}(h:[a,b,c,d][i]? = some x):(i=0∧x=a)∨(i=1∧x=b)∨(i=2∧x=c)∨(i=3∧x=d):=by
 match i with
 | 0=>simp at h;exact .inl ⟨rfl,h.symm⟩
 | 1=>simp at h;exact .inr (.inl ⟨rfl,h.symm⟩)
 | 2=>simp at h;exact .inr (.inr (.inl ⟨rfl,h.symm⟩))
 | 3=>simp at h;exact .inr (.inr (.inr ⟨rfl,h.symm⟩))
 | i+4=>simp at h
theorem Nw{α:Type}{a b c d e x:α}{i:Nat}(h:[a,b,c,d,e][i]? = some x):(i=0∧x=a)∨(i=1∧x=b)∨(i=2∧x=c)∨(i=3∧x=d)∨(i=4∧x=e):=by
 match i with
 | 0=>simp at h;exact .inl ⟨rfl,h.symm⟩
 | 1=>simp at h;exact .inr (.inl ⟨rfl,h.symm⟩)
 | 2=>simp at h;exact .inr (.inr (.inl ⟨rfl,h.symm⟩))
 | 3=>simp at h;exact .inr (.inr (.inr (.inl ⟨rfl,h.symm⟩)))
 | 4=>simp at h;exact .inr (.inr (.inr (.inr ⟨rfl,h.symm⟩)))
 | i+5=>simp at h
section
variable {dl:Int} {sk dc:Lqq} {v1 v2:Value} {mb:Nat} {es:List (Value × PV)} {x:List Int} {C C' C3:Cx} {w W W3 W4:World}

theorem vT{i:Nat}{o:AO}(h:(aBa dl v1 v2 mb es)[i]? = some (some o))(hl:o.live=true):i=0∨i=1∨i=2:=by
 rcases at4 h with ⟨rfl,_⟩ | ⟨rfl,_⟩ | ⟨rfl,_⟩ | ⟨rfl,e⟩
 ·exact .inl rfl
 ·exact .inr (.inl rfl)
 ·exact .inr (.inr rfl)
 ·cases e;cases hl
theorem fB(i:Nat)(h:i<4):∃ o,(nL dl sk dc)[i]? = some (some o)∧o.live=true:=by
 match i,h with
 | 0,_=>exact ⟨_,rfl,rfl⟩
 | 1,_=>exact ⟨_,rfl,rfl⟩
 | 2,_=>exact ⟨_,rfl,rfl⟩
 | 3,_=>exact ⟨_,rfl,rfl⟩
theorem bTr:aNs (nL dl sk dc) (aBa dl v1 v2 mb es):=⟨fun i es cl h=>(by
 rcases at4 h with ⟨rfl,e⟩ | ⟨rfl,e⟩ | ⟨rfl,e⟩ | ⟨rfl,e⟩
 ·cases e
 ·cases e
 ·exact ⟨_,rfl,rfl⟩
 ·cases e),fun i o h=>by
 rcases at4 h with ⟨rfl,e⟩ | ⟨rfl,e⟩ | ⟨rfl,e⟩ | ⟨rfl,e⟩ <;> cases e <;> rfl⟩

structure aRz (dl:Int) (sk dc:Lqq) (v1 v2:Value) (C:Cx) (w:World) (mb:Nat) (q:Lqq) (W:World) (C':Cx) (es:Array MapEntry) (cl:Nat) (L:List Ent):Prop where
 inv:aIj Tp C (nL dl sk dc) w C' (aBa dl v1 v2 mb (atF q)) W
 ok:nM mb es L
 ls:L.map (fun e=>(e.k,e.l))=q.foldl kD []
 born:∀ y∈es.toList,y.born<cl
 has:∀ p∈jE mb es cl L,W.heap[p.1]? = some p.2∧¬ C'.F p.1∧(p.1=mb∨w.heap.size≤p.1)

theorem aRz.own{q:Lqq}{W':World}{ea:Array MapEntry}{cl:Nat}{L:List Ent}{row:Option Nat}(Dk:aU Tp C (nL dl sk dc) w)(hmb:C.ι 3=some mb)(h:aRz dl sk dc v1 v2 C w mb q W C' ea cl L)(hg:W.grownBy W' row)
  (hr:∀ r,row=some r→w.heap.size≤r∧∃ o:Obj,W.heap[r]? = some o∧o.isCells=false):aRz dl sk dc v1 v2 C w mb q W' C' ea cl L:=by
 refine ⟨aIj.own bTr Dk h.inv hg hr,h.ok,h.ls,h.born,fun p hp => ?_⟩
 obtain ⟨h1,h2,h3⟩:=h.has p hp;refine ⟨(hg.block p.1 (cH h1) fun e => ?_).trans h1,h2,h3⟩
 obtain ⟨q1,o,q2,q3⟩:=hr _ e.symm
 rcases dH.1 hp with rfl | ⟨y,_,rfl⟩
 ·have:=Dk.lt 3 _ mb rfl rfl hmb
  dsimp only at q1
  omega
 ·rw [q2] at h1
  cases h1;cases q3

theorem bCc{b:Nat}{X:Nat→Prop}{Cw:List (Value × PV)}(Dk:aU Tp C (nL dl sk dc) w)(hmb:C.ι 3=some mb)(hI:aIj Tp C (nL dl sk dc) w C' (aBa dl v1 v2 mb es) W)(hb:w.heap.size≤b)(hbs:nK W b)(hes:aAz Cw)
  (Iu:aU Tp C3 (iR dl v1 v2 mb Cw x) W3) (f:Fr ((C'.grow 4 b 1).with []) (iR dl v1 v2 mb es x) W C3 (iR dl v1 v2 mb Cw x) W3)
  (hsz:W3.heap.size≤W4.heap.size) (ho:W4.os=W3.os) (ht:W4.tape=W3.tape) (hu:W4.output=W3.output)
  (hX:∀ c,X c→¬ C.F c∧(c=mb∨w.heap.size≤c)∧c<W.heap.size∧c≠b∧(nK W c∨c<w.heap.size)) (hk:∀ c,c<W3.heap.size→¬ X c→W4.heap[c]? = W3.heap[c]?) :
  ∃ C4,aIj Tp C (nL dl sk dc) w C4 (aBa dl v1 v2 mb Cw) W4∧KeepsFrom w.heap.size W W4∧KpG C.F W W4:=by
 obtain ⟨hFI,hM,fI⟩:=hI;have gι:∀ i,i<4→(C'.grow 4 b 1).ι i=C'.ι i:=fun i hi=>by
  have:i≠4:=by omega
  simp [Cx.grow,this]
 have ιC:∀ i,i<4→C'.ι i=C.ι i:=fun i hi=>by
  obtain ⟨o,h1,_⟩:=fB (dl:=dl) (sk:=sk) (dc:=dc) i hi;exact (fI.ids i o h1).2.1
 have κC:∀ i,i<4→C'.κ i=C.κ i:=fun i hi=>by
  obtain ⟨o,h1,_⟩:=fB (dl:=dl) (sk:=sk) (dc:=dc) i hi;exact (fI.ids i o h1).2.2
 have ι3:∀ i,i<5→C3.ι i=(C'.grow 4 b 1).ι i∧C3.κ i=(C'.grow 4 b 1).κ i:=fun i hi=>by
  have:∃ o,(iR dl v1 v2 mb es x)[i]? = some (some o):=by
   match i,hi with
   | 0,_=>exact ⟨_,rfl⟩
   | 1,_=>exact ⟨_,rfl⟩
   | 2,_=>exact ⟨_,rfl⟩
   | 3,_=>exact ⟨_,rfl⟩
   | 4,_=>exact ⟨_,rfl⟩
  obtain ⟨o,h⟩:=this;exact ⟨(f.ids i o h).2.1,(f.ids i o h).2.2⟩
 have ι4:(C'.grow 4 b 1).ι 4=some b:=by simp [Cx.grow]
 have J9:∀ (i:Nat) (o:AO) (c:Nat) (Rs:List (Value × PV)),(iR dl v1 v2 mb Rs x)[i]? = some (some o)→o.live=true→(C'.grow 4 b 1).ι i=some c→(∃ i,i<3∧C.ι i=some c)∨c=b:=fun i o c Rs h hl he=>by
  rcases Nw h with ⟨rfl,_⟩ | ⟨rfl,_⟩ | ⟨rfl,_⟩ | ⟨rfl,e⟩ | ⟨rfl,_⟩
  ·rw [gι 0 (by omega),ιC 0 (by omega)] at he;exact .inl ⟨0,by omega,he⟩
  ·rw [gι 1 (by omega),ιC 1 (by omega)] at he;exact .inl ⟨1,by omega,he⟩
  ·rw [gι 2 (by omega),ιC 2 (by omega)] at he;exact .inl ⟨2,by omega,he⟩
  ·cases e;cases hl
  ·rw [ι4] at he;exact .inr (Option.some.inj he).symm
 have Ns:∀ i c,i<3→C.ι i=some c→c<w.heap.size∧c≠mb:=fun i c hi hc=>by
  obtain ⟨o,h1,h2⟩:=fB (dl:=dl) (sk:=sk) (dc:=dc) i (by omega)
  refine ⟨Dk.lt i o c h1 h2 hc,fun e => ?_⟩
  subst e;have:=Dk.inj i 3 o _ c h1 h2 rfl rfl hc hmb;omega
 have Xn3:∀ c,X c→∀ i,i<3→C.ι i≠some c:=fun c hc i hi he=>by
  obtain ⟨h1,h2⟩:=Ns i c hi he
  rcases (hX c hc).2.1 with h3 | h3
  ·exact h2 h3
  ·omega
 have far:∀ c,c<W.heap.size→c≠b→(∀ i,i<3→C.ι i≠some c)→¬ X c→W4.heap[c]? = W.heap[c]? := fun c hc hcb hn hx=>by
  refine (hk c (gF hc f.size) hx).trans (f.keep c hc fun i o h hl he => ?_)
  rcases J9 i o c _ h hl he with ⟨j,hj,h2⟩ | h2
  ·exact hn j hj h2
  ·exact hcb h2
 have XF3:∀ c,X c→¬ C3.F c:=fun c hc hf=>by
  obtain ⟨h1,h2,h3,h4,_⟩:=hX c hc
  rcases f.F2 c hf with h | h | ⟨i,o,q1,q2,q3⟩
  ·exact h1 ((hFI c).1 h)
  ·omega
  ·rcases J9 i o c _ q1 q2 q3 with ⟨j,hj,h5⟩ | h5
   ·exact Xn3 c hc j hj h5
   ·exact h4 h5
 obtain ⟨Qa,_⟩:=aGw Iu hsz (fun c hc=>hk c (Iu.Fs c hc) fun hx=>XF3 c hx hc) (fun i o c h hl hc=>hk c (Iu.lt i o c h hl hc) fun hx=>by
  have Xl:i<5:=(Ca.1 h).1;rw [(ι3 i Xl).1] at hc
  rcases J9 i o c _ h hl hc with ⟨j,hj,h5⟩ | h5
  ·exact Xn3 c hx j hj h5
  ·exact (hX c hx).2.2.2.1 h5)
 have Lo:aU Tp C3 (aBa dl v1 v2 mb Cw) W4:=bZz Qa (fun i o h=>by
   have hi:i<4:=(Ca.1 h).1
   match i,hi with
   | 0,_=>exact h
   | 1,_=>exact h
   | 2,_=>exact h
   | 3,_=>exact h) (fun i ty cs h y hy u hu=>by
   rcases at4 h with ⟨rfl,e⟩ | ⟨rfl,e⟩ | ⟨rfl,e⟩ | ⟨rfl,e⟩
   ·cases e
    rw [List.mem_singleton.1 hy] at hu ⊢
    exact aSb (M:=iR dl v1 v2 mb Cw x) rfl hu
   ·cases e
    simp only [fW,List.not_mem_nil,or_false] at hy
    rcases hy with rfl | rfl | rfl | rfl | rfl
    ·exact vV hu
    ·exact vV hu
    ·exact vV hu
    ·exact aYa (M:=iR dl v1 v2 mb Cw x) rfl hu
    ·exact vV hu
   ·cases e
   ·cases e)
 have Xm:∀ i (c:Nat),i<4→C3.ι i=some c→C.ι i=some c:=fun i c hi hc=>by rw [(ι3 i (by omega)).1,gι i hi,ιC i hi] at hc;exact hc
 have Xn:aU Tp ⟨C3.ι,C3.κ,C.F,[]⟩ (aBa dl v1 v2 mb Cw) W4:=by
  refine ⟨fun i ty n cs h => ?_,fun i ty cs h => ?_,fun i Rs cl h => ?_,Lo.inj,fun i o c h hl hc => ?_,fun c hc=>gF (Dk.Fs c hc) (fL fI.size (fL f.size hsz)),Lo.lt⟩
  ·rcases at4 h with ⟨rfl,e⟩ | ⟨rfl,e⟩ | ⟨rfl,e⟩ | ⟨rfl,e⟩ <;> cases e
  ·obtain ⟨b',arr,q0,q1,q2,q3,q4⟩:=Lo.box _ _ _ h
   refine ⟨b',arr,q0,q1,q2,fun j hj => ?_,q4⟩
   have hq:=q3 j hj;have hp:∀ (y:PV) (u:Value),ffP y=true→Rep C3 (aBa dl v1 v2 mb Cw) W4 (.p y) u→Rep ⟨C3.ι,C3.κ,C.F,[]⟩ (aBa dl v1 v2 mb Cw) W4 (.p y) u:=fun y u hy hu=>by
    cases hu with
    | p _ _ h=>exact .p _ _ (h.anyF hy)
   rcases at4 h with ⟨rfl,e⟩ | ⟨rfl,e⟩ | ⟨rfl,e⟩ | ⟨rfl,e⟩
   ·cases e
    have:j=0:=by simp at hj;exact hj
    subst this;simp only [List.getElem_cons_zero] at hq ⊢
    cases hq with
    | ptr _ _ _ h0 ha h hp=>exact .ptr _ _ _ h0 ha h hp
   ·cases e
    match j,hj with
    | 0,_=>exact hp _ _ rfl hq
    | 1,_=>exact hp _ _ rfl hq
    | 2,_=>exact hp _ _ rfl hq
    | 3,_ =>
     simp only [List.getElem_cons_succ,List.getElem_cons_zero] at hq ⊢
     cases hq with
     | mp _ _ h0 ha h=>exact .mp _ _ h0 ha h
    | 4,_=>exact hp _ _ rfl hq
   ·cases e
   ·cases e
  ·obtain ⟨b',arr,q0,q1,q2,q3⟩:=Lo.mp _ _ _ h
   refine ⟨b',arr,q0,q1,q2,fun j hj => ?_⟩
   obtain ⟨en,r1,r2,r3,r4⟩:=q3 j hj;have hff:ffP Rs[j].2=true:=by
    rcases at4 h with ⟨rfl,e⟩ | ⟨rfl,e⟩ | ⟨rfl,e⟩ | ⟨rfl,e⟩
    ·cases e
    ·cases e
    ·cases e;exact hes.nm _ (fP hj)
    ·cases e
   exact ⟨en,r1,r2,r3,r4.anyF hff⟩
  ·have hi:=vT h hl
   obtain ⟨o2,h1,h2⟩:=fB (dl:=dl) (sk:=sk) (dc:=dc) i (by omega)
   exact Dk.nF i o2 c h1 h2 (Xm i c (by omega) hc)
 refine ⟨⟨C3.ι,C3.κ,C.F,[]⟩,⟨fun c=>Iff.rfl,Xn,⟨ho.trans (f.os.trans fI.os),ht.trans (f.tape.trans fI.tape),hu.trans (f.out.trans fI.out),fL fI.size (fL f.size hsz),fun c hc hno => ?_,fun i o h => ?_,fun i o h ty n cs hm => ?_,fun i o h o' hm hl => ?_,fun i o c hm hl hc => ?_,fun c hc=>hc,fun c hc => .inl hc⟩⟩,⟨fL f.size hsz,fun c o hc P3 hnc => ?_⟩,⟨fL f.size hsz,fun c hc => ?_⟩⟩
 ·have Of:∀ i,i<3→C.ι i≠some c:=fun i hi=>by
   obtain ⟨o,h1,h2⟩:=fB (dl:=dl) (sk:=sk) (dc:=dc) i (by omega)
   exact hno i o h1 h2
  have hcm:c≠mb:=fun e=>hno 3 _ rfl rfl (e ▸ hmb)
  refine (far c (gF hc fI.size) (by omega) Of fun hx => ?_).trans (fI.keep c hc hno)
  rcases (hX c hx).2.1 with h | h
  ·exact hcm h
  ·omega
 ·have hi:i<4:=(Ca.1 h).1
  refine ⟨?_,by show C3.ι i=C.ι i;rw [(ι3 i (by omega)).1,gι i hi,ιC i hi],by
   show C3.κ i=C.κ i;rw [(ι3 i (by omega)).2,← κC i hi]
   have:i≠4:=by omega
   simp [Cx.grow,this]⟩
  match i,hi with
  | 0,_=>exact ⟨_,rfl⟩
  | 1,_=>exact ⟨_,rfl⟩
  | 2,_=>exact ⟨_,rfl⟩
  | 3,_=>exact ⟨_,rfl⟩
 ·rcases at4 hm with ⟨rfl,e⟩ | ⟨rfl,e⟩ | ⟨rfl,e⟩ | ⟨rfl,e⟩ <;> cases e
 ·have hi:i<4:=(Ca.1 h).1
  obtain ⟨o2,h1,h2⟩:=fB (dl:=dl) (sk:=sk) (dc:=dc) i hi;rw [h] at h1;cases h1;exact h2
 ·have hi:=vT hm hl
  have Tv:i<4:=by omega
  obtain ⟨o2,h1,h2⟩:=fB (dl:=dl) (sk:=sk) (dc:=dc) i Tv;exact .inr ⟨i,o2,h1,h2,by rw [← ιC i Tv,← gι i Tv,← (ι3 i (by omega)).1];exact hc⟩
 ·refine (far c (cH P3) (fun e => ?_) (fun i hi he => ?_) fun hx => ?_).trans P3
  ·subst e
   obtain ⟨o2,e1,e2⟩:=hbs;rw [P3] at e1;cases e1;rw [hnc] at e2;cases e2
  ·have:=(Ns i c hi he).1
   omega
  ·rcases (hX c hx).2.2.2.2 with ⟨o2,h1,h2⟩ | h
   ·rw [P3] at h1;cases h1;rw [hnc] at h2;cases h2
   ·omega
 ·refine far c (gF (Dk.Fs c hc) fI.size) (fun e => ?_) (fun i hi he => ?_) fun hx=>(hX c hx).1 hc
  ·have:=Dk.Fs c hc;omega
  ·obtain ⟨o,h1,h2⟩:=fB (dl:=dl) (sk:=sk) (dc:=dc) i (by omega)
   exact Dk.nF i o c h1 h2 he hc
end
end KV
end Go.Proofs
end
section
namespace Go.Proofs
open Go.RowKit
namespace KV
open Tryz
open Go.ChangeMaps (setBlock)

def wG(e:Ent):Int × Lqq:=(e.k,e.l)
theorem cJy(L:List Ent)(e:Ent):(rG L e).map wG=aIh (L.map wG) e.k e.l:=by
 by_cases h:∃ y∈L,y.k=e.k
 ·obtain ⟨y,hy,he⟩:=h
  rw [uQ hy he];unfold aIh;rw [if_pos (List.any_eq_true.2 ⟨wG y,B3.2 ⟨y,hy,rfl⟩,by simpa [wG] using he⟩),wC,wC]
  refine aAi fun z _ => ?_
  by_cases hk:z.k=e.k
  ·simp [wG,hk]
  ·simp [wG,hk]
 ·have h':∀ y∈L,y.k≠e.k:=fun y hy he=>h ⟨y,hy,he⟩
  rw [zL h'];unfold aIh;rw [if_neg (fun ha=>by
   obtain ⟨z,hz,he⟩:=List.any_eq_true.1 ha;obtain ⟨y,hy,rfl⟩:=B3.1 hz;exact h' y hy (by simpa [wG] using he))]
  simp [wG]
theorem bZs(L:List Ent)(k:Int):rE L k=aCk (L.map wG) k:=by
 unfold rE uP aCk
 induction L with
 | nil=>rfl
 | cons y r ih =>
  rw [iB,List.find?_cons,List.find?_cons]
  by_cases hk:y.k=k
  ·simp [wG,hk]
  ·have h1:(y.k == k)=false:=by simpa using hk
   have h2:((wG y).1 == k)=false:=h1;rw [h1,h2];exact ih

structure bTn (x:List Int):Prop where
 len:x.length=6
 n:1≤dN x∧dN x≤9999
 ab:0≤dAb x∧dAb x≤9998
theorem cJz{q:Lqq}(hq:∀ y∈q,bTn y):∀ e∈q.foldl kD [],e.2.length≤q.length:=fun e he=>by
 have:=aAt q [] [] ⟨by simp,fun e h=>(by cases h),fun x h=>(by cases h)⟩ (fun x hx=>(hq x hx).ab.1)
 rw [List.nil_append] at this
 rw [(this.mem e he).2.2];exact rZ _ _

theorem P5{dl:Int}{v1 v2:Value}{mb:Nat}{es:List (Value × PV)}{x:List Int}(hx:bTn x)(hes:aAz es):fN Tp 5 (sub (cd Tryz.f82) cq) ⟨fr 57 [(6,(.ptr 0 0)),(8,(.ptr 4 0))],iR dl v1 v2 mb es x⟩ .normal ⟨fr 57 [(6,(.ptr 0 0)),(8,(.ptr 4 0))],iR dl v1 v2 mb (lZ es x) x⟩:=by
 obtain ⟨a,b,c,d,e,f,rfl⟩:=A7 hx.len;have hk : -1000000≤dN [a,b,c,d,e,f]∧dN [a,b,c,d,e,f]≤1000000:=by have:=hx.n;omega
 have hK:=hes.keys hk;unfold lZ;cases hb:eA es (.int .i64 (dN [a,b,c,d,e,f])) with
 | true =>
  rw [if_pos rfl];exact (bZv hK hb).cast (by unfold iR;rw [bTq];rfl)
 | false =>
  rw [if_neg (by simp)]
  exact (bZw hK hb).cast (by unfold iR;rw [iJ];rfl)
theorem P6{dl:Int}{v1 v2:Value}{mb:Nat}{es:List (Value × PV)}{x:List Int}(hx:x.length=6):fN Tp 5 (sub (cd Tryz.f82) ca) ⟨fr 57 [(6,(.ptr 0 0)),(8,(.ptr 4 0))],iR dl v1 v2 mb es x⟩ .normal ⟨fr 57 [(6,(.ptr 0 0)),(8,(.ptr 4 0)),(39,(.p (blP (decide (dAb x > (0:Int))))))],iR dl v1 v2 mb es x⟩:=by
 obtain ⟨a,b,c,d,e,f,rfl⟩:=A7 hx;exact bZx
theorem bLo:sub (cd Tryz.f82) [1,1,1,1,0,1,0,1] = .block 1 (.seq (sub (cd Tryz.f82) cq) (.seq (sub (cd Tryz.f82) ca) (.cond (.tmp 39) (sub (cd Tryz.f82) bv) .skip))):=by kernel_rfl

section
variable {dl:Int} {sk dc:Lqq} {v1 v2:Value} {mb:Nat} {C C':Cx} {w W:World}
set_option maxHeartbeats 1000000 in
theorem bTo{l n b:Nat}{q:Lqq}{x:List Int}{ea:Array MapEntry}{cl:Nat}{L:List Ent}{a:Act}(hx:bTn x)(hq:∀ y∈q,bTn y)(hql:q.length≤1000)(Dk:aU Tp C (nL dl sk dc) w)(hmb:C.ι 3=some mb)(hI:aRz dl sk dc v1 v2 C w mb q W C' ea cl L)
  (hsz:a.tmps.size=57) (hdf:a.defers=[]) (h6:Rep C (nL dl sk dc) w (.ptr 0 0) (a.tmps.getD 6 undef)) (h8:a.tmps.getD 8 undef = .pointer (some ⟨b,0,none⟩)) (hbw:w.heap.size≤b) (hbx:W.heap[b]? = some (.cells (vsL x).toArray 44 (0,0)))
  (hbn:∀ es cl,W.heap[mb]? = some (.map es cl)→∀ y∈es.toList,y.val.ownBlock≠some b) :
  (sub (cd Tryz.f82) [1,1,1,1,0,1,0,1]).wpIn (Fen (some l)) n Tp (fun e _ W4=>e = .normal∧KeepsFrom w.heap.size W W4∧KpG C.F W W4∧∃ C4 Pw Ef L',aRz dl sk dc v1 v2 C w mb (q++[x]) W4 C4 Pw Ef L') a W:=by
 obtain ⟨inv,hok,hls,hborn,hhas⟩:=hI;obtain ⟨hFI,hM,fI⟩:=inv;have hAt:aAz (atF q):=bTp fun y hy=>by have:=(hq y hy).n;omega
 have hmbh:=(hhas (mb,.map ea cl) (by simp [jE])).1
 have hmblt:mb<w.heap.size:=Dk.lt 3 _ mb rfl rfl hmb;have ιC:∀ i,i<4→C'.ι i=C.ι i:=fun i hi=>by
  obtain ⟨o,h1,_⟩:=fB (dl:=dl) (sk:=sk) (dc:=dc) i hi;exact (fI.ids i o h1).2.1
 have Ns:∀ i c,i<3→C.ι i=some c→c<w.heap.size∧c≠mb:=fun i c hi hc=>by
  obtain ⟨o,h1,h2⟩:=fB (dl:=dl) (sk:=sk) (dc:=dc) i (by omega)
  refine ⟨Dk.lt i o c h1 h2 hc,fun e => ?_⟩
  subst e;have:=Dk.inj i 3 o _ c h1 h2 rfl rfl hc hmb;omega
 have hbF:¬ C'.F b:=fun h=>by have:=Dk.Fs b ((hFI b).1 h);omega
 obtain ⟨Lo,Vq⟩:=aSc (b:=b) (ty:=44) (k:=4) (cs:=x.map aB) (arr:=(vsL x).toArray) hM (fun o h=>by have:=(Ca.1 h).1;simp at this) hbx hbF (fun i o h hl he=>by
   have hi:=vT h hl;rw [ιC i (by omega)] at he
   have:=(Ns i b (by omega) he).1
   omega) (by simp [vsL]) (fun j hj=>by
   have C7:j<x.length:=by simpa using hj
   rw [oF];have:(vsL x).toArray.getD j undef = .int .i64 x[j]:=by simp [vsL,Cb,C7]
   rw [this];exact .v _) (fun j hj=>by
   have C7:j<x.length:=by simpa using hj
   have:(vsL x).toArray.getD j undef = .int .i64 x[j]:=by simp [vsL,Cb,C7]
   rw [this];rfl)
 have hset:bB (aBa dl v1 v2 mb (atF q)) 4 (some (.box 44 ((x.map aB).map .p)))=iR dl v1 v2 mb (atF q) x:=rfl;rw [hset] at Lo Vq
 have Rq:Rep (C'.grow 4 b 1) (iR dl v1 v2 mb (atF q) x) W (.ptr 0 0) (a.tmps.getD 6 undef):=(h6.mono (Dk.le fI)).mono Vq;have hSl:eN (C'.grow 4 b 1) (iR dl v1 v2 mb (atF q) x) W (fr 57 [(6,(.ptr 0 0)),(8,(.ptr 4 0))]) a.tmps:=by
  have s0:eN (C'.grow 4 b 1) (iR dl v1 v2 mb (atF q) x) W (List.replicate 57 .any) a.tmps:=⟨by simpa using hsz,fun j hj=>by rw [List.getElem_replicate];exact .any _⟩
  have set1:∀ (t:List AV) (i:Nat) (y:AV),eN (C'.grow 4 b 1) (iR dl v1 v2 mb (atF q) x) W t a.tmps→Rep (C'.grow 4 b 1) (iR dl v1 v2 mb (atF q) x) W y (a.tmps.getD i undef)→eN (C'.grow 4 b 1) (iR dl v1 v2 mb (atF q) x) W (t.set i y) a.tmps:=fun t i y ht hy=>by
   refine ⟨by simpa using ht.size,fun j hj => ?_⟩
   rw [aAj]
   split
   ·rename_i e;subst e;exact hy
   ·exact ht.rep j (by simpa using hj)
  have Rr:Rep (C'.grow 4 b 1) (iR dl v1 v2 mb (atF q) x) W (.ptr 4 0) (a.tmps.getD 8 undef):=by
   rw [h8];exact .ptr 4 0 _ rfl ⟨_,rfl⟩ (fun o ho hl=>⟨b,rfl,by simp [Cx.grow]⟩) ⟨b,rfl⟩
  exact set1 _ 8 _ (set1 _ 6 _ s0 Rq) Rr
 have hs:Sim Tp ((C'.grow 4 b 1).with []) (iR dl v1 v2 mb (atF q) x) W ⟨fr 57 [(6,(.ptr 0 0)),(8,(.ptr 4 0))],iR dl v1 v2 mb (atF q) x⟩ a W :=
  ⟨C'.grow 4 b 1,hSl,Lo,(Fr.refl _ _ _).based [],by rw [hdf];exact .nil rfl (fun i o h=>by rcases Nw h with ⟨rfl,e⟩ | ⟨rfl,e⟩ | ⟨rfl,e⟩ | ⟨rfl,e⟩ | ⟨rfl,e⟩ <;> cases e <;> rfl)⟩
 rw [bLo];refine wpIn_block (wpIn_seq (wpIn_mono (P5 (dl:=dl) (v1:=v1) (v2:=v2) (mb:=mb) hx hAt _ _ _ _ _ (by simp) hs (some l) n) ?_))
 rintro e a7 W7 ⟨rfl,Tn⟩;refine wpIn_seq (wpIn_mono (P6 (dl:=dl) (v1:=v1) (v2:=v2) (mb:=mb) hx.len _ _ _ _ _ (by simp) Tn (some l) n) ?_)
 rintro e a8 W3 ⟨rfl,To⟩;have v39:a8.eval (.tmp 39) = .bool (decide (dAb x > 0)):=To.slot rfl;have Tq:a8.tmps.size=57:=To.size;obtain ⟨C3,Ku,Iu,f3,_⟩:=To;have hblkL:∀ p∈jE mb ea cl L,p.1≠b∧p.1<W.heap.size∧(∀ i,i<3→C.ι i≠some p.1):=fun p hp=>by
  obtain ⟨q1,q2,q3⟩:=hhas p hp;refine ⟨?_,cH q1,fun i hi he => ?_⟩
  ·rcases dH.1 hp with rfl | ⟨y,hy,rfl⟩
   ·intro e;simp only at e;omega
   ·intro e
    obtain ⟨z,hz,_,z2⟩:=hok.e2 y hy;exact hbn ea cl hmbh z hz (by rw [z2,← e];rfl)
  ·obtain ⟨h1,h2⟩:=Ns i _ hi he
   rcases q3 with h | h
   ·exact h2 h
   ·omega
 have gι:∀ i,i<4→(C'.grow 4 b 1).ι i=C'.ι i:=fun i hi=>by
  have:i≠4:=by omega
  simp [Cx.grow,this]
 have Vr:∀ p∈jE mb ea cl L,W3.heap[p.1]? = some p.2:=fun p hp=>by
  obtain ⟨h1,h2,h3⟩:=hblkL p hp;refine (f3.keep p.1 h2 fun i o h hl he => ?_).trans (hhas p hp).1
  change (C'.grow 4 b 1).ι i=some p.1 at he
  rcases Nw h with ⟨rfl,_⟩ | ⟨rfl,_⟩ | ⟨rfl,_⟩ | ⟨rfl,e⟩ | ⟨rfl,_⟩
  ·rw [gι 0 (by omega),ιC 0 (by omega)] at he;exact h3 0 (by omega) he
  ·rw [gι 1 (by omega),ιC 1 (by omega)] at he;exact h3 1 (by omega) he
  ·rw [gι 2 (by omega),ιC 2 (by omega)] at he;exact h3 2 (by omega) he
  ·cases e;cases hl
  ·simp [Cx.grow] at he;exact h1 he.symm
 have P7:aAz (lZ (atF q) x):=hAt.step (by have:=hx.n;omega)
 have hSol:nK W b:=gD hbx;refine wpIn_cond_split v39 (fun ht => ?_) fun hf => ?_
 ·-- it is about another one
  have hpos:0<dAb x:=of_decide_eq_true ht;obtain ⟨b6,a6,r0,r1,r2,r3,_⟩:=Iu.box 0 _ _ rfl;have r3:=r3 0 (by simp)
  simp only [List.getElem_cons_zero] at r3
  have u6:∃ bd,a6.getD 0 undef = .pointer (some ⟨bd,0,none⟩)∧C3.ι 1=some bd:=by
   generalize a6.getD 0 undef=u at r3
   cases r3 with
   | ptr _ _ _ h0 ha h hp=>exact h _ rfl rfl
  obtain ⟨bd,ud,ιd⟩:=u6;obtain ⟨bd',ad,s0,s1,s2,s3,_⟩:=Iu.box 1 _ _ rfl;rw [ιd] at s0;cases s0
  have s3:=s3 4 (by simp)
  simp only [List.getElem_cons_succ,List.getElem_cons_zero] at s3
  have udm:ad.getD 4 undef = .map (some mb):=by
   generalize ad.getD 4 undef=u at s3
   cases s3 with
   | p _ _ h=>cases h;rfl
  obtain ⟨b8,Ts,t0,t1,t2,t3,_⟩:=Iu.box 4 _ _ rfl;have ι4:C3.ι 4=some b:=by rw [(f3.ids 4 _ rfl).2.1];simp [Cx.with,Cx.grow]
  rw [ι4] at t0;cases t0
  have Xk:Ts=(vsL x).toArray:=by
   apply Array.ext
   ·rw [t2];simp [vsL]
   ·intro j h1 h2
    have hj:j<x.length:=by rw [t2] at h1;simpa using h1
    have:=t3 j (by simpa using hj)
    rw [oF,oF] at this
    have hu:Ts.getD j undef = .int .i64 x[j]:=by
     generalize Ts.getD j undef=u at this
     cases this with
     | p _ _ h=>cases h;rfl
    simp only [Cb,rY h1,Option.getD_some] at hu
    rw [hu];simp [vsL]
  subst Xk;have w6:a8.tmps.getD 6 undef = .pointer (some ⟨b6,0,none⟩):=by
   have:=Ku.at (i:=6) (x := .ptr 0 0) rfl
   generalize a8.tmps.getD 6 undef=u at this
   cases this with
   | ptr _ _ _ h0 ha h hp =>
    obtain ⟨b',h1,h2⟩:=h _ rfl rfl;rw [r0] at h2;cases h2
    exact h1
  have w8:a8.tmps.getD 8 undef = .pointer (some ⟨b,0,none⟩):=by
   have:=Ku.at (i:=8) (x := .ptr 4 0) rfl
   generalize a8.tmps.getD 8 undef=u at this
   cases this with
   | ptr _ _ _ h0 ha h hp =>
    obtain ⟨b',h1,h2⟩:=h _ rfl rfl;rw [ι4] at h2;cases h2
    exact h1
  have hLl:∀ e∈L,e.l.length≤1000:=fun e he=>by
   have:wG e∈q.foldl kD []:=by rw [← hls];exact B3.2 ⟨e,he,rfl⟩
   have:=cJz hq _ this;simp only [wG] at this
   omega
  have ι0:C.ι 0=some b6:=by
   have:=(f3.ids 0 _ rfl).2.1;rw [r0] at this
   rw [← ιC 0 (by omega),← gι 0 (by omega)]
   exact this.symm
  have ι1:C.ι 1=some bd:=by
   have:=(f3.ids 1 _ rfl).2.1;rw [ιd] at this
   rw [← ιC 1 (by omega),← gι 1 (by omega)]
   exact this.symm
  refine wpIn_mono (Tt (F:=Fen (some l)) (n:=n) (fun _=>trivial) hx.len Tq w6 w8 r1 ⟨by rw [r2];simp,ud⟩ s1 ⟨by rw [s2];simp,udm⟩ t1 hok Vr hLl (fun p hp => ?_) ?_) ?_
  ·obtain ⟨h1,_,h3⟩:=hblkL p hp
   exact ⟨fun e=>h3 0 (by omega) (e ▸ ι0),fun e=>h3 1 (by omega) (e ▸ ι1),h1⟩
  ·have:aQf .i64 (.int .i64 (dAb x))=true:=pX (by have:=hx.ab;omega)
   simp only [aQf,Ce] at this
   exact this.2
  ·rintro e a9 W4 ⟨rfl,Pw,Ef,e,A⟩
   obtain ⟨C4,P8,P9,Tu⟩:=bCc (x:=x) (X:=fun c=>∃ p∈jE mb ea cl L,p.1=c) (Cw:=lZ (atF q) x) Dk hmb ⟨hFI,hM,fI⟩ hbw hSol P7 Iu f3 A.size A.os A.tape A.out (fun c hc=>by
    obtain ⟨p,hp,rfl⟩:=hc;obtain ⟨h1,h2,h3⟩:=hblkL p hp;obtain ⟨g1,g2,g3⟩:=hhas p hp;refine ⟨fun h=>g2 ((hFI _).2 h),g3,h2,h1,?_⟩
    rcases dH.1 hp with rfl | ⟨y,_,rfl⟩
    ·exact .inr hmblt
    ·exact .inl (gD g1)) (fun c hc hn=>A.keep c hc fun p hp e=>hn ⟨p,hp,e⟩)
   refine ⟨rfl,P9,Tu,C4,Pw,Ef,rG L e,by rw [aRy];exact P8,A.ok,?_,A.born hborn,fun p hp => ?_⟩
   ·show (rG L e).map wG=_
    rw [cJy,A.ky,A.li,bZs,aDa];change aIh (L.map wG) _ _=kD (q.foldl kD []) x;have:L.map wG=q.foldl kD []:=hls;rw [this];unfold kD;rw [if_pos hpos]
   ·obtain ⟨h1,h2⟩:=A.has p hp
    refine ⟨h1,fun h => ?_,?_⟩
    ·have hF:=(P8.1 _).1 h
     rcases h2 with ⟨p0,Jo,h3⟩ | h3
     ·rw [← h3] at hF
      exact (hhas p0 Jo).2.1 ((hFI _).2 hF)
     ·have:=Dk.Fs _ hF
      have:=fI.size;have:=f3.size;omega
    ·rcases h2 with ⟨p0,Jo,h3⟩ | h3
     ·rw [← h3];exact (hhas p0 Jo).2.2
     ·right
      have:=fI.size;have:=f3.size;omega
 ·-- it is about none
  have hpos:¬ 0<dAb x:=of_decide_eq_false hf;obtain ⟨C4,P8,P9,Tu⟩:=bCc (x:=x) (X:=fun _=>False) (W4:=W3) (Cw:=lZ (atF q) x) Dk hmb ⟨hFI,hM,fI⟩ hbw hSol P7 Iu f3 (dF _) rfl rfl rfl (fun c hc=>hc.elim) (fun c _ _=>rfl)
  refine wpIn_skip ⟨rfl,P9,Tu,C4,ea,cl,L,by rw [aRy];exact P8,hok,?_,hborn,fun p hp=>⟨Vr p hp,fun h=>(hhas p hp).2.1 ((hFI _).2 ((P8.1 _).1 h)),(hhas p hp).2.2⟩⟩
  rw [aDa,hls];change _=kD (q.foldl kD []) x;unfold kD;rw [if_neg hpos]
end
end KV
end Go.Proofs
end
section
namespace Go.Proofs
open Go.RowKit
namespace KV
open Tryz
open Go.ChangeMaps (setBlock)

def abE(dc:Lqq):List (Value × PV):=(abM dc).map fun e=>(.int .i64 e.1,.sl e.2.length (e.2.flatten.map aB))
abbrev aCl(dl:Int)(sk dc:Lqq):Mem:=[some (.box 130 [.ptr 1 0]),some (dkB dl (.sl sk.length (sk.flatten.map aB)) (.sl dc.length (dc.flatten.map aB)) (.mp 2) (.p (.mp (abE dc)))),some (.mp (atF dc.reverse) (atF dc.reverse).length),some .dead]
theorem bBz : sub (cd Tryz.f82) [1, 1, 1, 1, 0, 1, 0] = .rangeFunc (.tmp 27) #[28, 29] (.region 6 #[{ dst := some 8, op := .alloc 44, type := 0, pos := "jury.go:198", after := #[], guard := none }, { dst := none, op := .store 44 (.tmp 8) (.tmp 29), type := 0, pos := "jury.go:198", after := #[{ on := 0, ground := .data }, { on := 0, ground := .phase }], guard := none }] false) (sub (cd Tryz.f82) [1, 1, 1, 1, 0, 1, 0, 1]) := by kernel_rfl
theorem aXy{dc:Lqq}(h:bP dc):∀ x∈dc,bTn x:=fun x hx=>⟨h.ud x hx,(iH.1 (h.rng x hx)).1,nY h x hx⟩
theorem aGs{dc:Lqq}(x:Bk dc):oJ dc x.1∈dc:=by
 unfold oJ;rw [B5,Ay x.2];exact fP x.2
theorem bTm{dc:Lqq}{xs:List (Bk dc)}(h:xs.map (fun x=>x.1)=bk dc.length 0):xs.map (fun x=>oJ dc x.1)=dc.reverse:=by
 have:xs.map (fun x=>oJ dc x.1)=(xs.map (fun x=>x.1)).map (oJ dc):=by rw [wC];rfl
 rw [this,h,cAc,List.map_reverse]
 congr 1
 apply List.ext_getElem
 ·simp
 ·intro i h1 h2
  simp [oJ,B5,Ay h2]

theorem aXz{F:Nat→Prop}{W:World}{mb cl:Nat}{ea:Array MapEntry}{L:List Ent}{dc:Lqq}(hok:nM mb ea L)(hls:L.map (fun e=>(e.k,e.l))=abM dc)(hborn:∀ y∈ea.toList,y.born<cl)
  (hhas:∀ p∈jE mb ea cl L,W.heap[p.1]? = some p.2∧F p.1):cM F W (.mp (abE dc)) (.map (some mb)):=by
 have hlen:ea.size=L.length:=by
  have:=congrArg List.length hok.ord;simpa using this
 have habE:abE dc=L.map fun e=>(.int .i64 e.k,.sl e.l.length (e.l.flatten.map aB)):=by
  unfold abE;rw [← hls,wC];rfl
 obtain ⟨h0,Nr⟩:=hhas (mb,.map ea cl) (by simp [jE])
 refine cM.mp (abE dc) mb cl ea (fun j=>(L.map Ent.val).getD j undef) Nr h0 (by rw [habE];simpa using hlen) (fun j hj => ?_) (fun j hj => ?_)
 ·have hjL:j<L.length:=by rw [habE] at hj;simpa using hj
  have hje:j<ea.size:=by omega
  have ho:(ea.toList.map fun x=>(x.key,x.val))[j]? = (L.map fun e=>(Value.int .i64 e.k,e.val))[j]? := by rw [hok.ord]
  rw [fV,fV,Ay hjL,Ay (by simpa using hje)] at ho
  simp only [Option.map_some,Option.some.injEq,Prod.mk.injEq] at ho
  refine ⟨ea[j],rY hje,?_,hborn _ (by simp),?_⟩
  ·simp only [habE,oF]
   simpa using ho.1
  ·rw [B5,fV,Ay hjL]
   simpa using ho.2
 ·have hjL:j<L.length:=by rw [habE] at hj;simpa using hj
  have hm:L[j]∈L:=fP hjL;have e1:(abE dc)[j].2 = .sl L[j].l.length (L[j].l.flatten.map aB):=by simp only [habE,oF]
  have e2:(L.map Ent.val).getD j undef=L[j].val:=by rw [B5,fV,Ay hjL];rfl
  rw [e1,e2];generalize L[j]=e at hm
  have he:=hok.ok e hm;obtain ⟨g1,g2⟩:=hhas e.blk (dH.2 (.inr ⟨e,hm,rfl⟩));change W.heap[e.b]? = some (.cells e.arr 44 (0,0)) at g1
  have hfl:(e.l.flatten.map aB).length=e.l.length*6:=by rw [Co,pO he.u]
  have hcell:∀ i,i<(e.l.flatten.map aB).length→∃ z,e.l.flatten[i]? = some z∧e.arr[i]? = some (.int .i64 z):=fun i hi=>by
   have Ct:i<e.l.flatten.length:=by rw [Co] at hi;exact hi
   refine ⟨e.l.flatten[i],Ay Ct,?_⟩;have h1:(e.arr.toList.take (e.l.length*6))[i]? = (e.l.flatten.map (Value.int .i64))[i]? := by rw [he.at_]
   rw [bWy (by omega),fV,Ay Ct] at h1
   simpa using h1
  refine .sl _ _ _ _ (fun i=>e.arr.getD i undef) he.le he.cap (fun i hi => ?_) (fun i hi => ?_) (fun i hi => ?_)
  ·obtain ⟨z,_,h2⟩:=hcell i hi
   refine ⟨e.b,0,rfl,g2,?_⟩;obtain ⟨h3,h4⟩:=nR.1 h2;rw [iC,cE g1 h3]
  ·obtain ⟨z,h1,h2⟩:=hcell i hi
   have:e.arr.getD i undef = .int .i64 z:=by rw [Cb,h2];rfl
   rw [this,oF];obtain ⟨h3,h4⟩:=Ca.1 h1;rw [h4];exact .v _
  ·obtain ⟨z,h1,h2⟩:=hcell i hi
   have:e.arr.getD i undef = .int .i64 z:=by rw [Cb,h2];rfl
   rw [this];rfl
end KV
end Go.Proofs
end
section
namespace Go.Proofs
open Go.RowKit
namespace KV
open Tryz
open Go.ChangeMaps (setBlock)
section
variable {dl:Int} {sk dc:Lqq} {v1 v2:Value} {mb:Nat} {C C':Cx} {w W:World}

theorem bLm{Nq:Array MapEntry}(hM:aU Tp C (nL dl sk dc) w)(hmb:C.ι 3=some mb)(hmh:w.heap[mb]? = some (.map #[] 0))
  {bd:Nat} {ad:Array Value} {td:TypeId} (i1:C.ι 1=some bd) (hd:w.heap[bd]? = some (.cells ad td (0,0))) (q1:ad.getD 1 undef=v1) (q2:ad.getD 2 undef=v2):aRz dl sk dc v1 v2 C w mb [] w C #[] 0 []:=by
 have Nr:∀ (i:Nat) (o:AO),(aBa dl v1 v2 mb [])[i]? = some (some o)→o.live=true→∃ o',(nL dl sk dc)[i]? = some (some o')∧o'.live=true:=fun i o h hl=>by
  have hi:=vT h hl;exact fB i (by omega)
 refine ⟨⟨fun _=>Iff.rfl,⟨fun i ty n cs h => ?_,fun i ty cs h => ?_,fun i es cl h => ?_,fun i i' o o' b h1 l1 h2 l2 e1 e2 => ?_,fun i o b h hl hb => ?_,hM.Fs,fun i o b h hl hb => ?_⟩,
  ⟨rfl,rfl,rfl,dF _,fun _ _ _=>rfl,fun i o h=>⟨?_,rfl,rfl⟩,fun i o h ty n cs hx => ?_,fun i o h o' hx hl => ?_,fun i o b h hl hb => ?_,fun _ h=>h,fun _ h => .inl h⟩⟩,nM.nil mb,rfl,fun y h=>by simp at h,fun p hp => ?_⟩
 ·rcases at4 h with ⟨rfl,e⟩ | ⟨rfl,e⟩ | ⟨rfl,e⟩ | ⟨rfl,e⟩ <;> cases e
 ·rcases at4 h with ⟨rfl,e⟩ | ⟨rfl,e⟩ | ⟨rfl,e⟩ | ⟨rfl,e⟩
  ·cases e
   obtain ⟨b,arr,r0,r1,r2,r3,r4⟩:=hM.box 0 _ _ rfl;refine ⟨b,arr,r0,r1,r2,fun j hj => ?_,r4⟩
   have:=r3 j hj;have Tk:j=0:=by simp at hj;exact hj
   subst Tk;simp only [List.getElem_cons_zero] at this ⊢
   cases this with
   | ptr _ _ _ h0 ha h hp =>
    refine .ptr _ _ _ h0 ⟨_,rfl⟩ (fun o ho hl => ?_) hp
    exact h _ rfl rfl
  ·cases e
   obtain ⟨b,arr,r0,r1,r2,r3,r4⟩:=hM.box 1 _ _ rfl;rw [i1] at r0;cases r0
   rw [hd] at r1;cases r1
   refine ⟨bd,ad,i1,hd,r2,fun j hj => ?_,r4⟩
   match j,hj with
   | 0,_ =>
    have:=r3 0 (by simp)
    cases this with
    | p _ _ h=>exact .p _ _ h
   | 1,_=>exact .p _ _ (by rw [q1];exact .v _)
   | 2,_=>exact .p _ _ (by rw [q2];exact .v _)
   | 3,_ =>
    have:=r3 3 (by simp)
    simp only [List.getElem_cons_succ,List.getElem_cons_zero] at this ⊢
    cases this with
    | mp _ _ h0 ha h =>
     refine .mp _ _ h0 ⟨_,rfl⟩ fun o ho hl => ?_
     exact h _ rfl rfl
   | 4,_ =>
    have:=r3 4 (by simp)
    simp only [List.getElem_cons_succ,List.getElem_cons_zero] at this ⊢
    generalize ad.getD 4 undef=u at this
    cases this with
    | mp _ _ h0 ha h =>
     obtain ⟨b,h1,h2⟩:=h _ rfl rfl;rw [hmb] at h2;cases h2
     rw [h1];exact .p _ _ (.v _)
  ·cases e
  ·cases e
 ·rcases at4 h with ⟨rfl,e⟩ | ⟨rfl,e⟩ | ⟨rfl,e⟩ | ⟨rfl,e⟩
  ·cases e
  ·cases e
  ·cases e;exact hM.mp 2 _ _ rfl
  ·cases e
 ·obtain ⟨p,q1,q2⟩:=Nr _ _ h1 l1
  obtain ⟨p',Ky,Kz⟩:=Nr _ _ h2 l2;exact hM.inj i i' p p' b q1 q2 Ky Kz e1 e2
 ·obtain ⟨p,q1,q2⟩:=Nr _ _ h hl
  exact hM.nF i p b q1 q2 hb
 ·obtain ⟨p,q1,q2⟩:=Nr _ _ h hl
  exact hM.lt i p b q1 q2 hb
 ·have hi:i<4:=(Ca.1 h).1
  match i,hi with
  | 0,_=>exact ⟨_,rfl⟩
  | 1,_=>exact ⟨_,rfl⟩
  | 2,_=>exact ⟨_,rfl⟩
  | 3,_=>exact ⟨_,rfl⟩
 ·rcases at4 hx with ⟨rfl,e⟩ | ⟨rfl,e⟩ | ⟨rfl,e⟩ | ⟨rfl,e⟩ <;> cases e
 ·have hi:i<4:=(Ca.1 h).1
  obtain ⟨p,q1,q2⟩:=fB (dl:=dl) (sk:=sk) (dc:=dc) i hi;rw [h] at q1;cases q1;exact q2
 ·obtain ⟨p,q1,q2⟩:=Nr _ _ h hl
  exact .inr ⟨i,p,q1,q2,hb⟩
 ·have:p=(mb,.map #[] 0):=by simpa [jE] using hp
  subst this;exact ⟨hmh,fun h=>hM.nF 3 _ mb rfl rfl hmb h,.inl rfl⟩

theorem bLn{ea:Array MapEntry}{cl:Nat}{L:List Ent}(Dk:aU Tp C (nL dl sk dc) w)(hmb:C.ι 3=some mb)(r1:cM C.F w (.sl sk.length (sk.flatten.map aB)) v1)(r2:cM C.F w (.sl dc.length (dc.flatten.map aB)) v2)
  (hI:aRz dl sk dc v1 v2 C w mb dc.reverse W C' ea cl L) :
  ∃ C5,aU Tp C5 (aCl dl sk dc) W∧Fr C (nL dl sk dc) w C5 (aCl dl sk dc) W∧∀ D,W.heap[D]? = some (.deferred (some []))→w.heap.size≤D→¬ C5.F D:=by
 obtain ⟨⟨hFI,hM,fI⟩,hok,hls,hborn,hhas⟩:=hI;obtain ⟨F5,Ll⟩:∃ F5:Nat→Prop,F5=fun c=>C'.F c∨∃ p∈jE mb ea cl L,p.1=c:=⟨_,rfl⟩
 have toF:∀ c,C.F c→F5 c:=fun c hc=>by rw [Ll];exact .inl ((hFI c).2 hc)
 have Tl:∀ c,C'.F c→F5 c:=fun c hc=>by rw [Ll];exact .inl hc
 have same:∀ c,C.F c→W.heap[c]? = w.heap[c]? := fun c hc=>fI.keep c (Dk.Fs c hc) fun i o h hl he=>Dk.nF i o c h hl he hc
 have ιC:∀ i,i<4→C'.ι i=C.ι i:=fun i hi=>by
  obtain ⟨o,h1,_⟩:=fB (dl:=dl) (sk:=sk) (dc:=dc) i hi;exact (fI.ids i o h1).2.1
 have H8:∀ {i:Nat} {o:AO},(aCl dl sk dc)[i]? = some (some o)→o.live=true→(i=0∨i=1∨i=2)∧∃ o',(aBa dl v1 v2 mb (atF dc.reverse))[i]? = some (some o')∧o'.live=true:=fun {i o} h hl=>by
  rcases at4 h with ⟨rfl,e⟩ | ⟨rfl,e⟩ | ⟨rfl,e⟩ | ⟨rfl,e⟩
  ·exact ⟨.inl rfl,_,rfl,rfl⟩
  ·exact ⟨.inr (.inl rfl),_,rfl,rfl⟩
  ·exact ⟨.inr (.inr rfl),_,rfl,rfl⟩
  ·cases e;cases hl
 have Ns:∀ i c,i<3→C.ι i=some c→c<w.heap.size∧c≠mb:=fun i c hi hc=>by
  obtain ⟨o,h1,h2⟩:=fB (dl:=dl) (sk:=sk) (dc:=dc) i (by omega)
  refine ⟨Dk.lt i o c h1 h2 hc,fun e => ?_⟩
  subst e;have:=Dk.inj i 3 o _ c h1 h2 rfl rfl hc hmb;omega
 refine ⟨⟨C'.ι,C'.κ,F5,[]⟩,⟨fun i ty n cs h => ?_,fun i ty cs h => ?_,fun i es cl h => ?_,fun i i' o o' b h1 l1 h2 l2 e1 e2 => ?_,fun i o b h hl hb hf => ?_,fun c hc => ?_,fun i o b h hl hb => ?_⟩,
  ⟨fI.os,fI.tape,fI.out,fI.size,fI.keep,fun i o h=>⟨?_,(fI.ids i o h).2⟩,fun i o h ty n cs hx => ?_,fun i o h o' hx hl => ?_,fun i o b h hl hb => ?_,toF,fun c hc => ?_⟩,fun D hD hDs hf => ?_⟩
 ·rcases at4 h with ⟨rfl,e⟩ | ⟨rfl,e⟩ | ⟨rfl,e⟩ | ⟨rfl,e⟩ <;> cases e
 ·rcases at4 h with ⟨rfl,e⟩ | ⟨rfl,e⟩ | ⟨rfl,e⟩ | ⟨rfl,e⟩
  ·cases e
   obtain ⟨b,arr,r0,r1,r2,r3,r4⟩:=hM.box 0 _ _ rfl;refine ⟨b,arr,r0,r1,r2,fun j hj => ?_,r4⟩
   have:=r3 j hj;have Tk:j=0:=by simp at hj;exact hj
   subst Tk;simp only [List.getElem_cons_zero] at this ⊢
   cases this with
   | ptr _ _ _ h0 ha h hp =>
    refine .ptr _ _ _ h0 ⟨_,rfl⟩ (fun o ho hl => ?_) hp
    exact h _ rfl rfl
  ·cases e
   obtain ⟨b,arr,s0,s1,s2,s3,s4⟩:=hM.box 1 _ _ rfl;have opq:∀ (j:Nat) (v:Value),Rep C' (aBa dl v1 v2 mb (atF dc.reverse)) W (.p (.v v)) (arr.getD j undef)→arr.getD j undef=v:=fun j v h=>by
    generalize arr.getD j undef=u at h
    cases h with
    | p _ _ h=>cases h;rfl
   refine ⟨b,arr,s0,s1,s2,fun j hj => ?_,s4⟩
   match j,hj with
   | 0,_ =>
    have:=s3 0 (by simp)
    cases this with
    | p _ _ h=>exact .p _ _ (h.anyF rfl)
   | 1,_ =>
    show Rep _ _ W (.p (.sl sk.length (sk.flatten.map aB))) (arr.getD 1 undef);rw [opq 1 v1 (s3 1 (by simp))]
    exact .p _ _ (r1.mono toF same)
   | 2,_ =>
    show Rep _ _ W (.p (.sl dc.length (dc.flatten.map aB))) (arr.getD 2 undef);rw [opq 2 v2 (s3 2 (by simp))]
    exact .p _ _ (r2.mono toF same)
   | 3,_ =>
    have:=s3 3 (by simp)
    simp only [List.getElem_cons_succ,List.getElem_cons_zero] at this ⊢
    cases this with
    | mp _ _ h0 ha h =>
     refine .mp _ _ h0 ⟨_,rfl⟩ fun o ho hl => ?_
     exact h _ rfl rfl
   | 4,_ =>
    show Rep _ _ W (.p (.mp (abE dc))) (arr.getD 4 undef);rw [opq 4 (.map (some mb)) (s3 4 (by simp))]
    exact .p _ _ (aXz hok hls hborn fun p hp=>⟨(hhas p hp).1,by rw [Ll];exact .inr ⟨p,hp,rfl⟩⟩)
  ·cases e
  ·cases e
 ·rcases at4 h with ⟨rfl,e⟩ | ⟨rfl,e⟩ | ⟨rfl,e⟩ | ⟨rfl,e⟩
  ·cases e
  ·cases e
  ·cases e
   obtain ⟨b,arr,s0,s1,s2,s3⟩:=hM.mp 2 _ _ rfl;refine ⟨b,arr,s0,s1,s2,fun j hj => ?_⟩
   obtain ⟨en,t1,t2,t3,t4⟩:=s3 j hj;exact ⟨en,t1,t2,t3,t4.mono Tl (fun _ _=>rfl)⟩
  ·cases e
 ·obtain ⟨_,p,q1,q2⟩:=H8 h1 l1
  obtain ⟨_,p',Ky,Kz⟩:=H8 h2 l2;exact hM.inj i i' p p' b q1 q2 Ky Kz e1 e2
 ·obtain ⟨hi,p,q1,q2⟩:=H8 h hl
  rw [Ll] at hf
  rcases hf with hf | ⟨p0,Jo,hpb⟩
  ·exact hM.nF i p b q1 q2 hb hf
  ·have A4:C.ι i=some b:=by rw [← ιC i (by omega)];exact hb
   obtain ⟨g1,g2⟩:=Ns i b (by omega) A4
   rcases (hhas p0 Jo).2.2 with h5 | h5 <;> omega
 ·rw [Ll] at hc
  rcases hc with hc | ⟨p0,Jo,rfl⟩
  ·exact hM.Fs c hc
  ·exact cH (hhas p0 Jo).1
 ·obtain ⟨_,p,q1,q2⟩:=H8 h hl
  exact hM.lt i p b q1 q2 hb
 ·have hi:i<4:=(Ca.1 h).1
  match i,hi with
  | 0,_=>exact ⟨_,rfl⟩
  | 1,_=>exact ⟨_,rfl⟩
  | 2,_=>exact ⟨_,rfl⟩
  | 3,_=>exact ⟨_,rfl⟩
 ·rcases at4 hx with ⟨rfl,e⟩ | ⟨rfl,e⟩ | ⟨rfl,e⟩ | ⟨rfl,e⟩ <;> cases e
 ·have hi:i<4:=(Ca.1 h).1
  obtain ⟨p,q1,q2⟩:=fB (dl:=dl) (sk:=sk) (dc:=dc) i hi;rw [h] at q1;cases q1;exact q2
 ·obtain ⟨_,p,q1,q2⟩:=H8 h hl
  exact fI.new i p b q1 q2 hb
 ·rw [Ll] at hc
  rcases hc with hc | ⟨p0,Jo,rfl⟩
  ·exact .inl ((hFI c).1 hc)
  ·rcases (hhas p0 Jo).2.2 with h5 | h5
   ·exact .inr (.inr ⟨3,_,rfl,rfl,by rw [h5];exact hmb⟩)
   ·exact .inr (.inl h5)
 ·rw [Ll] at hf
  rcases hf with hf | ⟨p0,Jo,rfl⟩
  ·have:=Dk.Fs D ((hFI D).1 hf);omega
  ·have h6:=(hhas p0 Jo).1
   rw [hD] at h6
   rcases dH.1 Jo with rfl | ⟨y,_,rfl⟩ <;> cases h6
end
theorem Lm:∃ i,Tryz.prog.info? 44=some i∧i.zero=some J8∧i.size=6:=by
 obtain ⟨i,h1,h2,h3,_⟩:=info_parts G6;exact ⟨i,h1,h2,h3⟩
theorem aRw(W:World):(Instr.alloc 44 true (.tuple #[])).run Tp W = .ok (.pointer (some ⟨W.heap.size,0,none⟩)) (W.alloc (.cells J8.cells 44)):=rfl
set_option maxHeartbeats 1000000 in
theorem bTl(dl:Int)(sk dc:Lqq)(hd:bP dc):aC Tp 0 (sub (cd Tryz.f82) [1,1,1,1,0,1,0]) ⟨fr 57 [(6,(.ptr 0 0)),(27,aSa dc)],nL dl sk dc⟩ .normal ⟨fr 57 [(6,(.ptr 0 0))],aCl dl sk dc⟩:=by
 intro C0 M0 w0 a w hk hs ro hro n;have Nt:ro=none:=hro.resolve_right (by rw [bBz];simp [nrf])
 subst Nt;rw [bBz];refine aGk (n:=3) ?_;obtain ⟨C,hSl,hM,hF,hD⟩:=hs;obtain ⟨mb,Nq,hmb,hmh,hz,_⟩:=hM.mp 3 _ _ rfl;obtain rfl:Nq = #[]:=Array.eq_empty_of_size_eq_zero (by simpa using hz)
 obtain ⟨bd,ad,i1,hdh,Io,Iy,P3⟩:=hM.box 1 _ _ rfl;have r1:cM C.F w (.sl sk.length (sk.flatten.map aB)) (ad.getD 1 undef):=by
  have:=Iy 1 (by simp)
  cases this with
  | p _ _ h=>exact h
 have r2:cM C.F w (.sl dc.length (dc.flatten.map aB)) (ad.getD 2 undef):=by
  have:=Iy 2 (by simp)
  cases this with
  | p _ _ h=>exact h
 have hmblt:mb<w.heap.size:=hM.lt 3 _ mb rfl rfl hmb;have hsz:a.tmps.size=57:=hSl.size;have h6:=hSl.at (i:=6) (x := .ptr 0 0) rfl
 obtain ⟨lb,Sp,hu,hseq⟩:=bLr dc hd.ud hd.len C (nL dl sk dc) w _ (hSl.at (i:=27) (x:=aSa dc) rfl) hM.Fs
 have actT:∀ (x:Bk dc) (b:Nat),((({ tmps:=(a.tmps.setIfInBounds 28 (.int .i64 (x.1:Nat))).setIfInBounds 29 (.agg (Dq (oJ dc x.1))),defers:=[] }:Act).put (some 8) (.pointer (some ⟨b,0,none⟩))).tmps.size=57) ∧
   (({ tmps:=(a.tmps.setIfInBounds 28 (.int .i64 (x.1:Nat))).setIfInBounds 29 (.agg (Dq (oJ dc x.1))),defers:=[] }:Act).put (some 8) (.pointer (some ⟨b,0,none⟩))).tmps.getD 6 undef=a.tmps.getD 6 undef ∧
   (({ tmps:=(a.tmps.setIfInBounds 28 (.int .i64 (x.1:Nat))).setIfInBounds 29 (.agg (Dq (oJ dc x.1))),defers:=[] }:Act).put (some 8) (.pointer (some ⟨b,0,none⟩))).tmps.getD 8 undef = .pointer (some ⟨b,0,none⟩):=fun x b=>by
  refine ⟨by simp [Act.put,hsz],?_,?_⟩
  ·simp [Act.put,Cb]
  ·simp [Act.put,Cb,hsz]
 refine wpIn_rangeFunc_ownH (F:=Fen none) (n:=3) rfl (by omega) (gf:=187) (lb:=lb) hu trivial (fun args w=>rfl) hseq (fun h k=>h.trans k)
  (fun W l o o' hl h1 h2 h3=>⟨by simp,fun b hb=>(grownBy_putObj' W l o').block b (gF (hM.Fs b hb) (fL hl (Nat.le_of_lt (nR.1 h1).1))) (fun e=>by cases e;have:=hM.Fs _ hb;omega)⟩)
  (Below.refl _ _) (fun _=>rfl)
  (fun pre W=>∃ C' ea cl L,aRz dl sk dc (ad.getD 1 undef) (ad.getD 2 undef) C w mb (pre.map fun x=>oJ dc x.1) W C' ea cl L) (fun _ _ _=>False)
  (fun pre X Y row hs hg hr=>by obtain ⟨C',ea,cl,L,h⟩:=hs;exact ⟨C',ea,cl,L,h.own hM hmb hg hr⟩) (fun _ _ _ _ _ hs _ _=>hs)
  ⟨C,#[],0,[],bLm (Nq := #[]) hM hmb hmh i1 hdh rfl rfl⟩
  (fun x a' W=>∃ b,a'=(({ tmps:=(a.tmps.setIfInBounds 28 (.int .i64 (x.1:Nat))).setIfInBounds 29 (.agg (Dq (oJ dc x.1))),defers:=[] }:Act).put (some 8) (.pointer (some ⟨b,0,none⟩)))∧w.heap.size≤b∧W.heap[b]? = some (.cells (vsL (oJ dc x.1)).toArray 44 (0,0))∧∀ es cl,W.heap[mb]? = some (.map es cl)→∀ y∈es.toList,y.val.ownBlock≠some b)
  (fun x a' _ X Y row hs hg hr => ?hAx) ?assign ?body ?done ?stop
 case hAx =>
  obtain ⟨b,h1,h2,h3,h4⟩:=hs;have hno:∀ c,c<X.heap.size→(c<w.heap.size∨nK X c)→Y.heap[c]? = X.heap[c]? := fun c hc hd=>hg.block c hc (fun e=>by
   obtain ⟨q1,o,q2,q3⟩:=hr c e.symm
   rcases hd with hd | hd
   ·omega
   ·exact kL q2 q3 hd)
  refine ⟨b,h1,h2,(hno b (cH h3) (.inr (gD h3))).trans h3,fun es cl h => ?_⟩
  by_cases hlt:mb<X.heap.size
  ·rw [hno mb hlt (.inl hmblt)] at h
   exact h4 es cl h
  ·exact absurd (gF (cH h3) (dF _)) (by omega)
 case assign =>
  intro l pre x W K hI hK;rw [Pz];obtain ⟨C',ea,cl,L,hI⟩:=hI;have hx:=aXy hd _ (aGs x);have hev:Dq (oJ dc x.1)=(vsL (oJ dc x.1)).toArray:=rfl;refine wpIn_region_lit (wpListIn_plain rfl fun K' Tm => ?_)
  unfold Oper.wpIn;refine ⟨fun f _=>trivial,?_⟩
  rw [Oper.semAt_plain _ _ _ (by intro c Ig;cases Ig)]
  have e1 : ∀ ρ : Operand → Value, (execOp ρ { dst := some 8, op := .alloc 44, type := 0, pos := "jury.go:198", after := #[], guard := none }).run Tp W = .ok (.value (.pointer (some ⟨W.heap.size, 0, none⟩))) (W.alloc (.cells J8.cells 44)) := fun ρ => by
   unfold execOp;dsimp only;rw [Sem.run_bind,aRw,Result.andThen_ok,Sem.run_pure]
  rw [e1];refine Tm _ _ (wpListIn_plain rfl fun K2 P4 => ?_)
  unfold Oper.wpIn;refine ⟨fun f _=>trivial,?_⟩
  rw [Oper.semAt_plain _ _ _ (by intro c Ig;cases Ig)]
  obtain ⟨Xi,hi,O2,Gd⟩:=Lm;have e8:(({ tmps:=(a.tmps.setIfInBounds 28 (.int .i64 (x.1:Nat))).setIfInBounds 29 (.agg (Dq (oJ dc x.1))),defers:=[] }:Act).put (some 8) (.pointer (some ⟨W.heap.size,0,none⟩))).eval (.tmp 8) = .pointer (some ⟨W.heap.size,0,none⟩):=(actT x W.heap.size).2.2;have Xj:(({ tmps:=(a.tmps.setIfInBounds 28 (.int .i64 (x.1:Nat))).setIfInBounds 29 (.agg (Dq (oJ dc x.1))),defers:=[] }:Act).put (some 8) (.pointer (some ⟨W.heap.size,0,none⟩))).eval (.tmp 29) = .agg (Dq (oJ dc x.1)):=by
   simp [Act.eval,Act.put,Cb,hsz]
  have e2:=run_storeAt_new (P:=Tp) W 44 J8.cells (Dq (oJ dc x.1)) (by rw [hi];simp [Gd,hev,vsL,hx.len]) (by simp [hev,vsL,hx.len];rfl) (by
   rw [Array.all_eq_true];intro i h;simp [hev,vsL];rfl)
  have e3 : ∀ ρ : Operand → Value, ρ (.tmp 8) = .pointer (some ⟨W.heap.size, 0, none⟩) → ρ (.tmp 29) = .agg (Dq (oJ dc x.1)) → (execOp ρ { dst := none, op := .store 44 (.tmp 8) (.tmp 29), type := 0, pos := "jury.go:198", after := #[{ on := 0, ground := .data }, { on := 0, ground := .phase }], guard := none }).run Tp (W.alloc (.cells J8.cells 44)) = .ok .skip (W.alloc (.cells (Dq (oJ dc x.1)) 44)) := fun ρ h1 h2 => by
   unfold execOp;dsimp only;rw [h1,h2,Sem.run_bind,e2,Result.andThen_ok,Sem.run_pure]
  rw [e3 _ e8 Xj];refine P4 _ _ (wpListIn_nil (hK _ _ ?_ ?_ ?_ ?_))
  ·exact ⟨by simp,fun k o _ hk _=>((kJ W _).2.2 k (cH hk)).trans hk⟩
  ·exact ⟨by simp,fun b hb=>(kJ W _).2.2 b (gF (hM.Fs b hb) hI.inv.2.2.size)⟩
  ·exact ⟨C',ea,cl,L,hI.own hM hmb (World.grownBy_alloc W _ none) (fun r e=>by cases e)⟩
  ·refine ⟨W.heap.size,rfl,hI.inv.2.2.size,(kJ W _).2.1,fun U3 U4 h y hy hyb => ?_⟩
   have Vp:=(hI.has (mb,.map ea cl) (by simp [jE])).1
   rw [(kJ W _).2.2 mb (cH Vp),Vp] at h
   cases h;obtain ⟨e,he,_,hv⟩:=hI.ok.e1 y hy;rw [hv] at hyb
   have Fw:e.b=W.heap.size:=by
    have:Ent.val e = .slice (some ⟨e.b,0,none⟩) e.l.length e.cap:=rfl;rw [this] at hyb
    exact Option.some.inj hyb
   have:=cH (hI.has e.blk (dH.2 (.inr ⟨e,he,rfl⟩))).1;simp only [Ent.blk] at this
   omega
 case body =>
  rintro l pre x a' W hl _ ⟨C',ea,cl,L,hI⟩ ⟨b,rfl,Dm,Fw,Su⟩ hlt;obtain ⟨t1,t2,t3⟩:=actT x b;refine wpIn_mono (bTo (l:=l) (n:=1) (aXy hd _ (aGs x)) (fun y hy=>by
   obtain ⟨z,_,rfl⟩:=B3.1 hy;exact aXy hd _ (aGs z)) (by rw [Co];have:=hd.len;omega) hM hmb hI t1 rfl (by rw [t2];exact h6) t3 Dm Fw Su) ?_
  rintro e a2 W4 ⟨rfl,hK,hG,h⟩;exact ⟨hK,hG,by simpa [iA] using h⟩
 case done =>
  intro D xs W Kx hSx hI hDm;obtain ⟨C',ea,cl,L,hI⟩:=hI;rw [bTm hSx] at hI
  obtain ⟨C5,Lo,f5,Ll⟩:=bLn hM hmb r1 r2 hI;have hnp:aUe (aCl dl sk dc):=fun i o h=>by rcases at4 h with ⟨rfl,e⟩ | ⟨rfl,e⟩ | ⟨rfl,e⟩ | ⟨rfl,e⟩ <;> cases e <;> rfl
  refine ⟨rfl,C5,?_,Lo,hF.trans f5,?_⟩
  ·have s0:eN C5 (aCl dl sk dc) W (List.replicate 57 .any) a.tmps:=⟨by simpa using hsz,fun j hj=>by rw [List.getElem_replicate];exact .any _⟩
   refine ⟨hsz.trans rfl,fun j hj => ?_⟩
   have hfr:fr 57 [(6,.ptr 0 0)]=(List.replicate 57 AV.any).set 6 (.ptr 0 0):=rfl;simp only [hfr] at hj ⊢
   rw [aAj]
   split
   ·rename_i e;subst e;exact h6.mono (hM.le f5)
   ·exact s0.rep j (by simpa using hj)
  ·obtain ⟨⟨l,e1,e2,e3⟩,hR⟩:=hD.fr hM (fun i to ti sz L h=>by have:=hnp _ _ h;cases this) f5
   obtain ⟨⟨l',Lq,_,Nu⟩,_⟩:=hD;have hll:l=l':=by
    have:=e1.symm.trans Lq;exact (List.map_inj_right (fun x y h=>by simpa [mark] using h)).1 this
   refine ⟨⟨D::l,by rw [e1];rfl,List.nodup_cons.2 ⟨fun hin => ?_,e2⟩,fun D' Nv => ?_⟩,hR⟩
   ·rw [hll] at hin
    have:=(nR.1 (Nu D hin).1).1;omega
   ·rcases fW.1 Nv with rfl | hin
    ·exact ⟨hDm,fL hF.size Kx,Ll _ hDm Kx⟩
    ·exact e3 D' hin
 case stop =>
  intro D c pre W _ _ h _;exact h.elim
end KV
end Go.Proofs
end
namespace Go.Proofs
namespace KV
open Tryz
section
variable {base:Nat}
variable {dl:Int}{sk dc:Lqq}

theorem cNw(dc:Lqq){base:Nat}:FV Tp 147 [.p (fS dc)] base (aSa dc) []:=cNy
theorem dA(h:bO dl sk dc):bP (aA dc):=by
 have hm:∀ x,x∈aA dc↔x∈dc:=fun x=>(dZ dc).mem_iff
 refine ⟨nX h.ud,by rw [dC];have:=h.len2;omega,fun x hx=>h.hdc x ((hm x).1 hx),?_,fun x hx=>h.ord x ((hm x).1 hx)⟩
 have hn:(aP (aA dc) 0).Nodup:=((dZ dc).map _).nodup_iff.2 h.nd;have hs:=iX dc;unfold aP at hn
 rw [List.Nodup,List.pairwise_map] at hn
 exact (hs.and hn).imp fun ⟨h1,h2⟩=>by
  show _<_;unfold dN;omega
theorem bZq(h0:bO dl sk dc)(h1:bP (aA dc)):FV Tp 82 [(.p (.agg (bC dl sk dc)))] base (.tup [(.rp [(aB dl),(.sl ((aA sk).length) ((aA sk).flatten.map aB)),(.sl ((aA dc).length) ((aA dc).flatten.map aB)),(.mp (atF (aA dc).reverse)),(.mp (abE (aA dc)))] 0),(pI 0)]) []:=have k1:=fk 1 (cGh dl sk dc h0) rfl;have k2:=fk 6 (cNw (aA dc)) rfl;FV.fi func82 [k1.o,bF,k2.o,.k 1 (gI [0,6,7,20,28,29] [5,4,2,3]) .normal ⟨fr 57 [(6,(.ptr 0 0))],aCl dl (aA sk) (aA dc)⟩,.g 1 ⟨[],[0],[2,1],[]⟩] (gt (aC Tp 0 (sub (cd Tryz.f82) [1,1,1,1,0,1,0]) ⟨fr 57 [(6,(.ptr 0 0)),(27,aSa (aA dc))],nL dl (aA sk) (aA dc)⟩ .normal ⟨fr 57 [(6,(.ptr 0 0))],aCl dl (aA sk) (aA dc)⟩) (bTl dl (aA sk) (aA dc) h1) (gc k2 (gt (((0:Int) != 0)=false) (by first | decide | simp) (gc k1 gn))))
theorem bZr{r0:Int}(h0:uni 2 sk)(h1:uni 6 dc)(h2:(cY dl sk dc)≠0)(A6:r0=(cY dl sk dc)):FV Tp 82 [(.p (.agg (bC dl sk dc)))] base (.tup [(.p (.v (.pointer none))),(pI r0)]) []:=by
 subst A6;have k1:=fk 1 (bXu dl sk dc h0 h1 h2) rfl;exact FV.fi func82 [k1.o,bT] (gc (fH h2) (gc k1 gn))
abbrev aZ(dl:Int)(sk dc:Lqq):List PV:=[aB dl,.sl sk.length (sk.flatten.map aB),.sl dc.length (dc.flatten.map aB),.mp (atF dc.reverse),.mp (abE dc)]
theorem jD(dl:Int)(sk dc:Lqq)(h:bO dl sk dc){base:Nat}:FV Tp 82 [.p (.agg (bC dl sk dc))] base (.tup [.rp (aZ dl (aA sk) (aA dc)) 0,.p (aB 0)]) []:=bZq h (dA h)
theorem aGr(dl:Int)(sk dc:Lqq)(us:uni 2 sk)(ud:uni 6 dc)(h:cY dl sk dc≠0){base:Nat}:FV Tp 82 [.p (.agg (bC dl sk dc))] base (.tup [.p (.v (.pointer none)),.p (aB (cY dl sk dc))]) []:=bZr us ud h rfl
end
section
section
variable {P:Program} {k:Nat} {b:Code} {β:Type}
theorem aD.ex{e:Ex}(S:Nat→β→St)(R:β→St)(Inv:Nat→β→Prop)(he:e ≠ .normal)(n:Nat)
  (hs:∀ (i:Nat) (acc:β),i<n→Inv i acc→∃ Cf,Inv (i+1) Cf∧aC P k b (S i acc) .normal (S (i+1) Cf))
  (hx:∀ acc,Inv n acc→aC P k b (S n acc) e (R acc)) {acc:β} (h0:Inv 0 acc):∃ Cf,Inv n Cf∧aD P k b (S 0 acc) e (R Cf):=by
 have key:∀ (d i:Nat) (acc:β),i+d=n→Inv i acc→∃ Cf,Inv n Cf∧aD P k b (S i acc) e (R Cf):=by
  intro d
  induction d with
  | zero =>
   intro i acc hi h;obtain rfl:i=n:=by omega
   exact ⟨acc,h,.exit (hx acc h) he⟩
  | succ d ih =>
   intro i acc hi h;obtain ⟨J7,h1,c1⟩:=hs i acc (by omega) h
   obtain ⟨Tj,h2,c2⟩:=ih (i+1) J7 (by omega) h1
   exact ⟨Tj,h2,.step c1 c2⟩
 exact key n 0 acc (by omega) h0
theorem aD.exF{e1 e2:Ex}(S R1:Nat→β→St)(R2:β→St)(Inv:β→Prop)(h1:e1 ≠ .normal)(h2:e2 ≠ .normal)(p:Nat→Bool)(n:Nat)
  (hs:∀ (i:Nat) (acc:β),i<n→Inv acc→p i=false→∃ Cf,Inv Cf∧aC P k b (S i acc) .normal (S (i+1) Cf))
  (hq:∀ (i:Nat) (acc:β),i<n→Inv acc→p i=true→∃ Cf,Inv Cf∧aC P k b (S i acc) e1 (R1 i Cf))
  (hx:∀ acc,Inv acc→aC P k b (S n acc) e2 (R2 acc)) {acc:β} (h0:Inv acc) :
  (∃ i Cf,i<n∧p i=true∧(∀ j,j<i→p j=false)∧Inv Cf∧aD P k b (S 0 acc) e1 (R1 i Cf))∨((∀ j,j<n→p j=false)∧∃ Cf,Inv Cf∧aD P k b (S 0 acc) e2 (R2 Cf)):=by
 have key:∀ (d i:Nat) (acc:β),i+d=n→Inv acc→(∀ j,j<i→p j=false)→(∃ i' Cf,i'<n∧p i'=true∧(∀ j,j<i'→p j=false)∧Inv Cf∧aD P k b (S i acc) e1 (R1 i' Cf))∨((∀ j,j<n→p j=false)∧∃ Cf,Inv Cf∧aD P k b (S i acc) e2 (R2 Cf)):=by
  intro d
  induction d with
  | zero =>
   intro i acc hi h hj;obtain rfl:i=n:=by omega
   exact .inr ⟨hj,acc,h,.exit (hx acc h) h2⟩
  | succ d ih =>
   intro i acc hi h hj;cases hp:p i with
   | true =>
    obtain ⟨J7,q1,c1⟩:=hq i acc (by omega) h hp
    exact .inl ⟨i,J7,by omega,hp,hj,q1,.exit c1 h1⟩
   | false =>
    obtain ⟨J7,q1,c1⟩:=hs i acc (by omega) h hp
    rcases ih (i+1) J7 (by omega) q1 (fun j Ee=>by
     rcases Nat.lt_or_ge j i with h3 | h3
     ·exact hj j h3
     ·obtain rfl:j=i:=by omega
      exact hp) with ⟨i',Cf,r1,r2,r3,r4,r5⟩ | ⟨r1,Cf,r2,r3⟩
    ·exact .inl ⟨i',Cf,r1,r2,r3,r4,.step c1 r5⟩
    ·exact .inr ⟨r1,Cf,r2,.step c1 r3⟩
 exact key n 0 acc (by omega) h0 (fun j hj=>absurd hj (aVh _))
end
def aQ(T:Lqb):List (Value × PV):=T.map fun p=>(.int .i64 p.1,blP p.2)
theorem bLl(T:Lqb)(n:Int)(b:Bool):aQ (T++[(n,b)])=aQ T++[(.int .i64 n,blP b)]:=by simp [aQ]
structure cU (dl:Int) (oc:List Int) (dc:Lqq) (T:Lqb):Prop where
 nd:(T.map (·.1)).Nodup
 ok:∀ p∈T,∃ x∈dc,dN x=p.1∧dP dl oc dc x=p.2
section
variable {dl:Int} {oc:List Int} {dc:Lqq} {T:Lqb}
theorem cU.nil:cU dl oc dc []:=⟨by simp,fun p hp=>by cases hp⟩
theorem eT(h:bP dc){x:List Int}(hx:x∈dc):1≤dN x∧dN x≤9999:=(iH.1 (h.rng x hx)).1
theorem zG(h:bP dc){x y:List Int}(hx:x∈dc)(hy:y∈dc)(e:dN x=dN y):x=y:=by
 obtain ⟨i,hi,rfl⟩:=List.mem_iff_getElem.1 hx;obtain ⟨j,hj,rfl⟩:=List.mem_iff_getElem.1 hy;have hu:=List.pairwise_iff_getElem.1 h.up
 rcases Nat.lt_trichotomy i j with q | q | q
 ·have:=hu i j hi hj q;omega
 ·subst q;rfl
 ·have:=hu j i hj hi q;omega
theorem cU.keys(h:cU dl oc dc T)(hd:bP dc){n:Int}(hn:1≤n∧n≤9999):cR .i64 (aQ T) (.int .i64 n):=by
 refine ⟨fun e he => ?_,pX (by omega),?_⟩
 ·obtain ⟨p,hp,rfl⟩:=B3.1 he
  obtain ⟨x,hx,e1,_⟩:=h.ok p hp;have:=eT hd hx;exact pX (by omega)
 ·have:(aQ T).map (fun e=>jU e.1)=T.map (·.1):=by
   unfold aQ;rw [wC];rfl
  rw [this];exact h.nd
theorem bBy{n:Int}:eA (aQ T) (.int .i64 n)=T.any fun p=>p.1 == n:=by
 unfold eA aQ;rw [List.any_map]
 congr 1
theorem bTk{n:Int}:gG (aQ T) (.int .i64 n)=(T.find? fun p=>p.1 == n).map fun p=>blP p.2:=by
 unfold gG aQ
 induction T with
 | nil=>rfl
 | cons p T ih =>
  rw [iB,List.find?_cons,List.find?_cons];have e:(decide (jU ((Value.int IntKind.i64 p.1,blP p.2):Value × PV).1=jU (Value.int IntKind.i64 n)))=(p.1 == n):=by
   show decide (p.1=n)=(p.1 == n);rw [Bool.eq_iff_iff];simp
  rw [e];cases p.1 == n with
  | true=>rfl
  | false=>exact ih
theorem cU.look(h:cU dl oc dc T)(hd:bP dc){x:List Int}(hx:x∈dc)(hh:eA (aQ T) (.int .i64 (dN x))=true):gG (aQ T) (.int .i64 (dN x))=some (blP (dP dl oc dc x)):=by
 rw [bBy] at hh
 rw [bTk];cases hf:T.find? fun p=>p.1 == dN x with
 | none =>
  obtain ⟨p,h1,h2⟩:=List.any_eq_true.1 hh;exact absurd h2 (aCz.1 hf p h1)
 | some p =>
  have h1:=rD hf;have h2:p.1=dN x:=by simpa using aMr hf
  obtain ⟨y,hy,e1,e2⟩:=h.ok p h1;rw [zG hd hy hx (e1.trans h2)] at e2
  rw [e2];rfl
theorem cU.again(h:cU dl oc dc T)(hd:bP dc){x:List Int}(hx:x∈dc):rM (aQ T) (.int .i64 (dN x)) (blP (dP dl oc dc x))=aQ T:=by
 have:∀ T':Lqb,(∀ p∈T',∃ x∈dc,dN x=p.1∧dP dl oc dc x=p.2)→rM (aQ T') (.int .i64 (dN x)) (blP (dP dl oc dc x))=aQ T':=by
  intro T'
  induction T' with
  | nil=>intro _;rfl
  | cons p T' ih =>
   intro hp;show (if p.1=dN x then ((.int .i64 (dN x),blP (dP dl oc dc x))::aQ T':List (Value × PV)) else (.int .i64 p.1,blP p.2)::rM (aQ T') (.int .i64 (dN x)) (blP (dP dl oc dc x)))=(.int .i64 p.1,blP p.2)::aQ T'
   by_cases e:p.1=dN x
   ·rw [if_pos e]
    obtain ⟨y,hy,e1,e2⟩:=hp p (gA ..);rw [zG hd hy hx (e1.trans e)] at e2
    rw [e,e2]
   ·rw [if_neg e,ih fun q hq=>hp q (Ch _ hq)]
 exact this T h.ok
theorem cU.put(h:cU dl oc dc T){x:List Int}(hx:x∈dc)(hh:eA (aQ T) (.int .i64 (dN x))=false):cU dl oc dc (T++[(dN x,dP dl oc dc x)]):=by
 rw [bBy] at hh
 refine ⟨?_,fun p hp => ?_⟩
 ·rw [iA,List.nodup_append]
  refine ⟨h.nd,by simp,fun a ha b hb e => ?_⟩
  simp only [iB,List.map_nil,List.mem_singleton] at hb
  obtain ⟨p,hp,rfl⟩:=B3.1 ha;have:=List.any_eq_false.1 hh p hp;rw [e,hb] at this
  simp at this
 ·rcases jK.1 hp with hp | hp
  ·exact h.ok p hp
  ·rw [List.mem_singleton.1 hp]
   exact ⟨x,hx,rfl,rfl⟩
end
end
end KV
end Go.Proofs
