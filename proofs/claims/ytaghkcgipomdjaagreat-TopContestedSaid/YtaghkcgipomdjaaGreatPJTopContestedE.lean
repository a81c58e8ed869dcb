/- Parts of the proof of JTopContested: laws of walks, contracts of functions, plain models. No condition. -/
import Derived.Deep.QuietTactic
import Derived.BigQuiet
import Derived.StillTail
import Derived.OrdersHeld
import Derived.WalkKit
import Derived.Shelf.Abstract
import Derived.Sort.OwnSortedInts
import Derived.Lib.OwnBridge
import Derived.OneCell
import Derived.Deep.MidRow
import Derived.ChangeKeysEq
import Derived.Deep.Cut
import Derived.RangeFuncNested
import Derived.RangeFuncLeaves
import Derived.OwnWalkIn
import Derived.TacticsInMore
import Derived.LoopNIn
import Derived.LoopIn
import Derived.Test.YtaghkcgipomdjaaGreatPJTopContestedD
set_option linter.unusedVariables false
set_option linter.unusedSimpArgs false
set_option maxRecDepth 100000
section
namespace Go.Proofs
open KC
namespace KV
open Tryz
variable {r0:Bool}{f f' Tq Ad Au:Int}{l race:List Int}{i i' Aw base:Nat}
namespace CU
noncomputable abbrev lJ:Code:=sub (cd Tryz.f117) [1,1,1,1,0,1,0,0]
noncomputable abbrev wT:Code:=sub (cd Tryz.f169) [1,0,1,0,0]
noncomputable abbrev aGu:Code:=sub (cd Tryz.f171) [1,0,1,0,0]
def kR(l:List Int)(i:Int):St:=⟨fr 25 [(0,(.p (aE l))),(1,(.fn 170 [] [])),(5,(pI i))],[]⟩
theorem bVs{Aw:Int}(h0:inR ((l.length:Int)-1))(hl1:aF Tp 0 wT (kR l ((l.length:Int)-1)) (.exit 0) (kR l Aw)):FV Tp 169 [(.p (aE l)),(.fn 170 [] [])] base (pB true) []:=FV.fi func169 [hl1.k 6 (gZ [2,3,6,19])] (gc hl1.code (gc h0 gn))
theorem cKv{Aw:Int}(h0:inR ((l.length:Int)-1))(hl1:aF Tp 0 wT (kR l ((l.length:Int)-1)) .ret (cD (kR l Aw) [(4,(.kb false))])):FV Tp 169 [(.p (aE l)),(.fn 170 [] [])] base (pB false) []:=FV.fi func169 [hl1.k 6 (gZ [2,3,6,19])] (gc hl1.code (gc h0 gn))
section
variable{i:Int}(h0:(0:Int)<i)(h1:l[i.toNat]? = some Ad)(h2:0≤i)(h3:inR (i-1))(h4:l[(i-1).toNat]? = some Au)(h5:0≤(i-1))
include h0 h1 h2 h3 h4 h5
theorem bOn(h6:(cmpI Au Ad)<0):aB Tp 0 wT (kR l i) .ret (cD (kR l i) [(4,(.kb false))]):=have k1:=fk 0 (bFk Ad Au) rfl;aB.fi (gZ [2,2,6,19]) [bT,.x (aA Ad),.x (aA Au),k1.o,bT] (gc (bG h6) (gc k1 (gt ((l.map aA)[((i-1).toNat*1)]? = some (aA Au)) (dF (i:=(i-1).toNat) h4) (gc (jE (g:=aA) h5 h4) (gc h3 (gt ((l.map aA)[(i.toNat*1)]? = some (aA Ad)) (dF (i:=i.toNat) h1) (gc (jE (g:=aA) h2 h1) (g0 h0))))))))
theorem bOo{i':Int}(h6:(0:Int)≤(cmpI Au Ad))(Ak:i'=(i-1)):aB Tp 0 wT (kR l i) .normal (kR l i'):=by
 subst Ak;have k1:=fk 0 (bFk Ad Au) rfl;exact aB.fi (gZ [2,3,6,19]) [bT,.x (aA Ad),.x (aA Au),k1.o,bF] (gc h3 (gc (aQ h6) (gc k1 (gt ((l.map aA)[((i-1).toNat*1)]? = some (aA Au)) (dF (i:=(i-1).toNat) h4) (gc (jE (g:=aA) h5 h4) (gc h3 (gt ((l.map aA)[(i.toNat*1)]? = some (aA Ad)) (dF (i:=i.toNat) h1) (gc (jE (g:=aA) h2 h1) (g0 h0)))))))))
end
theorem aLe{i:Int}(h0:i≤0):aB Tp 0 wT (kR l i) (.exit 0) (kR l i):=aB.fi (gZ [2,3,6,19]) [bF] (gc (aQ h0) gn)
def cQ(race:List Int)(i:Nat)(f:Int):St:=⟨fr 39 [(3,(.own 0)),(4,(pI f)),(12,(.own 0)),(13,(pI (((race.filter fun x => !(x == 0)).mergeSort KC.leB).length:Int))),(14,(pI (i:Int)))],[some (.row 3 (((race.filter fun x => !(x == 0)).mergeSort KC.leB).length) (((race.filter fun x => !(x == 0)).mergeSort KC.leB).map aA))]⟩
section
variable(h0:race.length≤1000)(h1:(race.filter fun x => !(x == 0)).length≤1000)
include h0 h1
theorem cCh(hl2:aF Tp 0 lJ (cQ race 0 1) (.exit 0) (cQ race Aw Tq))(Aq:r0=(decide (Tq > 61))):FV Tp 117 [(.p (aE race))] base (pB r0) []:=by
 subst Aq;have k1:=fk 0 (uO race h0) rfl;have k2:=mq [0] 1 (aHc race h0);have k3:=mq [1] 2 (sortI_ok (race.filter fun x => !(x == 0)) h1);exact FV.fi func117 [k1.o,k2.o,k3.o,hl2.k 6 (gI cw [1])] (gc hl2.code (gc k3 (gc k2 (gc k1 gn))))
theorem cCi(hl2:aF Tp 0 lJ (cQ race 0 1) .ret (cD (cQ race Aw Tq) [(2,(.kb true))])):FV Tp 117 [(.p (aE race))] base (pB true) []:=have k1:=fk 0 (uO race h0) rfl;have k2:=mq [0] 1 (aHc race h0);have k3:=mq [1] 2 (sortI_ok (race.filter fun x => !(x == 0)) h1);FV.fi func117 [k1.o,k2.o,k3.o,hl2.k 6 (gI cw [1])] (gc hl2.code (gc k3 (gc k2 (gc k1 gn))))
end
section
variable(h0:(i:Int)<(((race.filter fun x => !(x == 0)).mergeSort KC.leB).length:Int))(h1:((race.filter fun x => !(x == 0)).mergeSort KC.leB)[i]? = some Ad)(h2:(i:Int)=0)
include h0 h1 h2
theorem bAx(h3:Ad<f):aB Tp 0 lJ (cQ race i f) .ret (cD (cQ race i f) [(2,(.kb true))]):=aB.fi (gI [0,2,5,7,15,22] [0]) ([bT,.x (aA Ad)]++rT 9) (gc (bG h3) (Ia (cT h2) (gc (atm aA h1) (gc (aX (i:=(i:Int)) (C7 _) h1) (g0 h0)))))
theorem bAy(h3:f≤Ad)(h4:inR (Ad+1))(h5:dv i)(Ak:i'=(i+1))(Qi:f'=(Ad+1)):aB Tp 0 lJ (cQ race i f) .normal (cQ race i' f'):=by
 subst Ak Qi;exact aB.fi (gI cw [0]) ([bT,.x (aA Ad)]++rT 8++[bF]) (gc h5 (gc h4 (gc (aQ h3) (Ia (cT h2) (gc (atm aA h1) (gc (aX (i:=(i:Int)) (C7 _) h1) (g0 h0)))))))
end
section
variable(h0:(i:Int)<(((race.filter fun x => !(x == 0)).mergeSort KC.leB).length:Int))(h1:((race.filter fun x => !(x == 0)).mergeSort KC.leB)[i]? = some Ad)(h2:(i:Int)≠0)(h3:inR ((i:Int)-1))(h4:((race.filter fun x => !(x == 0)).mergeSort KC.leB)[((i:Int)-1).toNat]? = some Au)(h5:0≤((i:Int)-1))
include h0 h1 h2 h3 h4 h5
theorem bAz(h6:Ad≠Au)(h7:Ad<f):aB Tp 0 lJ (cQ race i f) .ret (cD (cQ race i f) [(2,(.kb true))]):=aB.fi (gI [0,2,5,7,15,22] [0]) ([bT,.x (aA Ad)]++rF 6++[.x (aA Au),bF,bF,bT,bT]) (gc (bG h7) (gc (kS h6) (Az (bE h2) (gt ((((race.filter fun x => !(x == 0)).mergeSort KC.leB).map aA)[(((i:Int)-1).toNat*1)]? = some (aA Au)) (dF (i:=((i:Int)-1).toNat) h4) (gc (bE h2) (gc (aX (i:=((i:Int)-1)) h5 h4) (gc (bE h2) (gc h3 (A4 (bE h2) (gc (atm aA h1) (gc (aX (i:=(i:Int)) (C7 _) h1) (g0 h0))))))))))))
theorem bBa(h6:Ad≠Au)(h7:f≤Ad)(h8:inR (Ad+1))(h9:dv i)(Ak:i'=(i+1))(Qi:f'=(Ad+1)):aB Tp 0 lJ (cQ race i f) .normal (cQ race i' f'):=by
 subst Ak Qi;exact aB.fi (gI cw [0]) ([bT,.x (aA Ad)]++rF 6++[.x (aA Au),bF,bF,bT,bF]) (gc h9 (gc h8 (gc (aQ h7) (gc (kS h6) (Az (bE h2) (gt ((((race.filter fun x => !(x == 0)).mergeSort KC.leB).map aA)[(((i:Int)-1).toNat*1)]? = some (aA Au)) (dF (i:=((i:Int)-1).toNat) h4) (gc (bE h2) (gc (aX (i:=((i:Int)-1)) h5 h4) (gc (bE h2) (gc h3 (A4 (bE h2) (gc (atm aA h1) (gc (aX (i:=(i:Int)) (C7 _) h1) (g0 h0))))))))))))))
theorem bBb(h6:Ad=Au)(h7:inR (f+1))(h8:dv i)(Ak:i'=(i+1))(Qi:f'=(f+1)):aB Tp 0 lJ (cQ race i f) .normal (cQ race i' f'):=by
 subst Ak Qi;exact aB.fi (gI cw [0]) ([bT,.x (aA Ad)]++rF 6++[.x (aA Au),bF,bF,bF]) (gc h8 (gc h7 (gc (fW h6) (Az (bE h2) (gt ((((race.filter fun x => !(x == 0)).mergeSort KC.leB).map aA)[(((i:Int)-1).toNat*1)]? = some (aA Au)) (dF (i:=((i:Int)-1).toNat) h4) (gc (bE h2) (gc (aX (i:=((i:Int)-1)) h5 h4) (gc (bE h2) (gc h3 (A4 (bE h2) (gc (atm aA h1) (gc (aX (i:=(i:Int)) (C7 _) h1) (g0 h0)))))))))))))
end
theorem bBc(h0:(((race.filter fun x => !(x == 0)).mergeSort KC.leB).length:Int)≤(i:Int)):aB Tp 0 lJ (cQ race i f) (.exit 0) (cQ race i f):=aB.fi (gI cw [0]) [bF] (gc (aQ h0) gn)
abbrev cMu(c:KC.Cup):List PV:=[aA c.sk,aA c.ra,aA c.be,aE c.pts,aV c.done]
abbrev bU(c:KC.Cup):PV := .agg (cMu c)
theorem aUi{l:List Int}(hl:l.length≤1000):∀ (n:Nat) (i:Int),i=n→n<l.length →
  ((∀ j,j<n→0≤cmpI (l.getD j 0) (l.getD (j+1) 0))∧aF Tp 0 wT (kR l i) (.exit 0) (kR l 0))∨((∃ j,j<n∧cmpI (l.getD j 0) (l.getD (j+1) 0)<0)∧∃ i',aF Tp 0 wT (kR l i) .ret (cD (kR l i') [(4,(.kb false))]))
 | 0,i,e,h=>by
  have e:i=0:=by omega
  subst e;exact .inl ⟨fun j hj=>by omega,.exit (aLe (by omega)) (by simp)⟩
 | n+1,i,e,h=>by
  subst e;have a1:l[((n+1:Nat):Int).toNat]? = some l[n+1]:=Av h;have e2:(((n+1:Nat):Int)-1).toNat=n:=by omega
  have a2:l[(((n+1:Nat):Int)-1).toNat]? = some l[n]:=by rw [e2];exact Av (by omega)
  have g1:l.getD (n+1) 0=l[n+1]:=by rw [Bw,Av h];rfl
  have g2:l.getD n 0=l[n]:=by rw [Bw,Av (by omega)];rfl
  by_cases hc:cmpI l[n] l[n+1]<0
  ·exact .inr ⟨⟨n,by omega,by rw [g1,g2];exact hc⟩,_,.exit (bOn (by omega) a1 (by omega) (by show _∧_;omega) a2 (by omega) hc) (by simp)⟩
  ·have st:=bOo (i':=(n:Int)) (by omega) a1 (by omega) (by show _∧_;omega) a2 (by omega) (by omega) (by omega)
   rcases aUi hl n n rfl (by omega) with ⟨h1,h2⟩ | ⟨⟨j,h1,h3⟩,i',h2⟩
   ·refine .inl ⟨fun j hj => ?_,.step st h2⟩
    by_cases hjn:j<n
    ·exact h1 j hjn
    ·obtain rfl:j=n:=by omega
     rw [g1,g2];omega
   ·exact .inr ⟨⟨j,by omega,h3⟩,i',.step st h2⟩
theorem cKw(l:List Int)(hl:l.length≤1000){base:Nat}:FV Tp 169 [.p (aE l),.fn 170 [] []] base (pB (KC.fallsB l)) []:=by
 have hf:KC.fallsB l=decide (∀ j,j<l.length-1→0≤cmpI (l.getD j 0) (l.getD (j+1) 0)):=rfl;rw [hf]
 by_cases h0:l.length=0
 ·rw [decide_eq_true (by intro j hj;omega)]
  exact bVs (Aw:=(l.length:Int)-1) (by show _∧_;omega) (.exit (aLe (by omega)) (by simp))
 ·rcases aUi hl (l.length-1) ((l.length:Int)-1) (by omega) (by omega) with ⟨h1,h2⟩ | ⟨⟨j,h1,h3⟩,i',h2⟩
  ·rw [decide_eq_true h1]
   exact bVs (by show _∧_;omega) h2
  ·rw [decide_eq_false (fun h=>by have:=h j h1;omega)]
   exact cKv (by show _∧_;omega) h2
theorem cCj(h0:l.length≤1000)(Aq:r0=(KC.fallsB l)):FV Tp 115 [(.p (aE l))] base (pB r0) []:=by
 subst Aq;have k1:=fk 0 (cKw l h0) rfl;exact FV.fi func115 [k1.o] (gc k1 gn)
theorem aGv(l:List Int)(hl:l.length≤1000){base:Nat}:FV Tp 115 [.p (aE l)] base (pB (KC.fallsB l)) []:=cCj hl rfl
def vL(x:List Int):Prop:=x.length≤1000∧∀ y∈x,0≤y∧y≤1000
theorem aOz(race:List Int):(race.filter fun x => !(x == 0)).mergeSort KC.leB=KC.placesOf race:=by
 unfold KC.placesOf KC.nz
 congr 1
theorem aUj{race:List Int}(hs:vL race):∀ (n k:Nat) (f:Int),k+n=(KC.placesOf race).length→1≤f∧f≤1001+k →
  (∃ g,KC.clashLoop (KC.prevOf (KC.placesOf race) k) f ((KC.placesOf race).drop k)=some g∧aF Tp 0 lJ (cQ race k f) (.exit 0) (cQ race (KC.placesOf race).length g))∨(KC.clashLoop (KC.prevOf (KC.placesOf race) k) f ((KC.placesOf race).drop k)=none∧∃ i' f',aF Tp 0 lJ (cQ race k f) .ret (cD (cQ race i' f') [(2,(.kb true))]))
 | 0,k,f,e,hf=>by
  obtain rfl:k=(KC.placesOf race).length:=by omega
  rw [List.drop_length];exact .inl ⟨f,rfl,.exit (bBc (by rw [aOz];omega)) (by simp)⟩
 | n+1,k,f,e,hf=>by
  have hk:k<(KC.placesOf race).length:=by omega
  obtain ⟨b1,b2⟩:=KC.placesOf_bd race hs.2;have hb:=b2 k hk;have hl:=hs.1;have a1:((race.filter fun x => !(x == 0)).mergeSort KC.leB)[k]? = some (KC.placesOf race)[k]:=by rw [aOz];exact Av hk
  have hlt:(k:Int)<(((race.filter fun x => !(x == 0)).mergeSort KC.leB).length:Int):=by rw [aOz];omega
  have hstep:=KC.clashLoop_step (KC.placesOf race) k hk f;rw [hstep];have fin:∀ f',1≤f'∧f'≤1001+((k+1:Nat):Int)→aB Tp 0 lJ (cQ race k f) .normal (cQ race (k+1) f')→(∃ g,KC.clashLoop (KC.prevOf (KC.placesOf race) (k+1)) f' ((KC.placesOf race).drop (k+1))=some g∧aF Tp 0 lJ (cQ race k f) (.exit 0) (cQ race (KC.placesOf race).length g))∨(KC.clashLoop (KC.prevOf (KC.placesOf race) (k+1)) f' ((KC.placesOf race).drop (k+1))=none∧∃ i' f',aF Tp 0 lJ (cQ race k f) .ret (cD (cQ race i' f') [(2,(.kb true))])):=fun f' Q2 st=>by
   rcases aUj hs n (k+1) f' (by omega) Q2 with ⟨g,h1,h2⟩ | ⟨h1,i',f2,h2⟩
   ·exact .inl ⟨g,h1,.step st h2⟩
   ·exact .inr ⟨h1,i',f2,.step st h2⟩
  by_cases h0:k=0
  ·subst h0
   have hp:KC.prevOf (KC.placesOf race) 0=none:=rfl;rw [hp,if_neg (by simp)]
   by_cases hlf:(KC.placesOf race)[0]<f
   ·rw [if_pos hlf]
    exact .inr ⟨rfl,_,_,.exit (bAx hlt a1 rfl hlf) (by simp)⟩
   ·rw [if_neg hlf]
    exact fin _ (by omega) (bAy hlt a1 rfl (by omega) (by show _∧_;omega) (aI (by omega)) rfl rfl)
  ·have e2:((k:Int)-1).toNat=k-1:=by omega
   have a2:((race.filter fun x => !(x == 0)).mergeSort KC.leB)[((k:Int)-1).toNat]? = some ((KC.placesOf race)[k-1]'(by omega)):=by rw [aOz,e2];exact Av (by omega)
   have hp:KC.prevOf (KC.placesOf race) k=some ((KC.placesOf race)[k-1]'(by omega)):=by
    unfold KC.prevOf;rw [if_neg h0];exact Av (by omega)
   rw [hp]
   by_cases hq:(KC.placesOf race)[k]=(KC.placesOf race)[k-1]'(by omega)
   ·rw [if_pos (by rw [hq])]
    exact fin _ (by omega) (bBb hlt a1 (by omega) (by show _∧_;omega) a2 (by omega) hq (by show _∧_;omega) (aI (by omega)) rfl rfl)
   ·rw [if_neg (by intro h;injection h with h;exact hq h.symm)]
    by_cases hlf:(KC.placesOf race)[k]<f
    ·rw [if_pos hlf]
     exact .inr ⟨rfl,_,_,.exit (bAz hlt a1 (by omega) (by show _∧_;omega) a2 (by omega) hq hlf) (by simp)⟩
    ·rw [if_neg hlf]
     exact fin _ (by omega) (bBa hlt a1 (by omega) (by show _∧_;omega) a2 (by omega) hq (by omega) (by show _∧_;omega) (aI (by omega)) rfl rfl)
theorem bFi(race:List Int)(hs:vL race){base:Nat}:FV Tp 117 [.p (aE race)] base (pB (KC.clashR race)) []:=by
 have hfl:(race.filter fun x => !(x == 0)).length≤1000:=gL (zR _ _) hs.1
 have e0:KC.clashR race=match KC.clashLoop none 1 (KC.placesOf race) with | none=>true | some f=>decide (61<f):=rfl
 rcases aUj hs (KC.placesOf race).length 0 1 (by omega) (by omega) with ⟨g,h1,h2⟩ | ⟨h1,i',f',h2⟩
 ·rw [show KC.prevOf (KC.placesOf race) 0=none from rfl,List.drop_zero] at h1
  rw [e0,h1];exact cCh hs.1 hfl h2 rfl
 ·rw [show KC.prevOf (KC.placesOf race) 0=none from rfl,List.drop_zero] at h1
  rw [e0,h1];exact cCi hs.1 hfl h2
def iL(l:Lqq)(i:Nat):St:=⟨fr 19 [(0,(.p (aV l))),(1,(.fn 117 [] [])),(7,(pI (l.length:Int))),(8,(pI (i:Int)))],[]⟩
theorem cCk{l:Lqq}(hl0:aF Tp 0 aGu (iL l 0) (.exit 0) (iL l Aw)):FV Tp 171 [(.p (aV l)),(.fn 117 [] [])] base (pI (-1)) []:=FV.fi func171 [hl0.k 6 (gZ dq)] (gc hl0.code gn)
theorem cCl{l:Lqq}(hl0:aF Tp 0 aGu (iL l 0) .ret (cD (iL l Aw) [(4,(pI (Aw:Int)))])):FV Tp 171 [(.p (aV l)),(.fn 117 [] [])] base (pI (Aw:Int)) []:=FV.fi func171 [hl0.k 6 (gZ dq)] (gc hl0.code gn)
section
variable{l:Lqq}{Ad:List Int}(h0:(i:Int)<(l.length:Int))(h1:l[i]? = some Ad)(h2:vL Ad)
include h0 h1 h2
theorem bBd(h3:(KC.clashR Ad)=true):aB Tp 0 aGu (iL l i) .ret (cD (iL l i) [(4,(pI (i:Int)))]):=have k1:=fk 0 (bFi Ad h2) rfl;aB.fi (gZ db) [bT,.x (aE Ad),k1.o,bT] (gc h3 (gc k1 (gc (atm aE h1) (gc (ixn aE h1) (g0 h0)))))
theorem bBe(h3:(KC.clashR Ad)=false)(h4:dv i)(Ak:i'=(i+1)):aB Tp 0 aGu (iL l i) .normal (iL l i'):=by
 subst Ak;have k1:=fk 0 (bFi Ad h2) rfl;exact aB.fi (gZ dq) [bT,.x (aE Ad),k1.o,bF] (gc h4 (gc h3 (gc k1 (gc (atm aE h1) (gc (ixn aE h1) (g0 h0))))))
end
theorem bBf{l:Lqq}(h0:(l.length:Int)≤(i:Int)):aB Tp 0 aGu (iL l i) (.exit 0) (iL l i):=aB.fi (gZ dq) [bF] (gc (aQ h0) gn)
theorem cCm(l:Lqq)(hl:small l.length)(he:∀ x∈l,vL x){base:Nat}:FV Tp 171 [.p (aV l),(.fn 117 [] [])] base (pI (fN (fun x=>KC.clashR x) l)) []:=by
 rcases aF.find (P:=Tp) (k:=0) (b:=sub (cd Tryz.f171) dh) (fun i=>iL l i) (fun i _=>cD (iL l i) [(4,.p (aA (i:Int)))]) (iL l l.length) .ret (.exit 0) (by simp) (by simp) (fun x=>KC.clashR x) l
  (fun i x hx hp=>bBe (by have:=aT hx;omega) hx (he x (Bp hx)) (by simpa using hp) (aI (by have:=aT hx;omega)) rfl)
  (fun i x hx hp=>bBd (by have:=aT hx;omega) hx (he x (Bp hx)) (by simpa using hp))
  (bBf (l:=l) (i:=l.length) (by omega)) with ⟨i,x,h1,h2,h3,h4⟩ | ⟨h1,h2,h3⟩
 ·rw [eH h2];exact cCl h4
 ·rw [eT h1];exact cCk h3
theorem cCn{l:Lqq}(h0:small l.length)(h1:∀ x∈l,vL x)(Aq:r0=(decide ((fN (fun x=>KC.clashR x) l) ≥ 0))):FV Tp 116 [(.p (aV l)),(.fn 117 [] [])] base (pB r0) []:=by
 subst Aq;have k1:=fk 0 (cCm l h0 h1) rfl;exact FV.fi func116 [k1.o] (gc k1 gn)
theorem bFj(l:Lqq)(hl:small l.length)(he:∀ x∈l,vL x){base:Nat}:FV Tp 116 [.p (aV l),(.fn 117 [] [])] base (pB (l.any fun x=>KC.clashR x)) []:=cCn hl he (gT _ _).symm
theorem chk_p0{c:KC.Cup}(h0:(within c.sk 1 12)=false):FV Tp 57 [(.p (bU c))] base (pI 3) []:=have k1:=fk 1 (bB c.sk 1 12) rfl;FV.fi func57 ([k1.o]++rT 5) (Cf (cA h0) (gc k1 gn))
section
variable{c:KC.Cup}(h0:(within c.sk 1 12)=true)
include h0
theorem chk_p1(h1:(within c.ra 1 20)=false):FV Tp 57 [(.p (bU c))] base (pI 3) []:=have k1:=fk 1 (bB c.sk 1 12) rfl;have k2:=fk 1 (bB c.ra 1 20) rfl;FV.fi func57 ([k1.o,bF,bF,bF,k2.o,bF,bF]++rT 7) (Et (cA h1) (Az (aL h0) (gc k2 (Ay (aL h0) (gc k1 gn)))))
theorem chk_p2(h1:(within c.ra 1 20)=true)(h2:(within c.be 1 c.ra)=false):FV Tp 57 [(.p (bU c))] base (pI 3) []:=have k1:=fk 1 (bB c.sk 1 12) rfl;have k2:=fk 1 (bB c.ra 1 20) rfl;have k3:=fk 1 (bB c.be 1 c.ra) rfl;FV.fi func57 ([k1.o,bF,bF,bF,k2.o]++rF 7++[k3.o,bF,bF,bT]) (gc (cA h2) (Az (aL h1) (gc k3 (Cf (aL h1) (Az (aL h0) (gc k2 (Ay (aL h0) (gc k1 gn))))))))
theorem chk_p3(h1:(within c.ra 1 20)=true)(h2:(within c.be 1 c.ra)=true)(h3:(within (c.pts.length:Int) 1 60)=false):FV Tp 57 [(.p (bU c))] base (pI 2) []:=have k1:=fk 1 (bB c.sk 1 12) rfl;have k2:=fk 1 (bB c.ra 1 20) rfl;have k3:=fk 1 (bB c.be 1 c.ra) rfl;have k4:=fk 1 (bB (c.pts.length:Int) 1 60) rfl;FV.fi func57 ([k1.o,bF,bF,bF,k2.o]++rF 7++[k3.o,bF,bF,bF,k4.o]++rT 7) (Et (cA h3) (gc k4 (gc (aL h2) (Az (aL h1) (gc k3 (Cf (aL h1) (Az (aL h0) (gc k2 (Ay (aL h0) (gc k1 gn))))))))))
end
section
variable{c:KC.Cup}(h0:(within c.sk 1 12)=true)(h1:(within c.ra 1 20)=true)(h2:(within c.be 1 c.ra)=true)(h3:(within (c.pts.length:Int) 1 60)=true)
include h0 h1 h2 h3
theorem chk_p4(h4:c.ra<(c.done.length:Int)):FV Tp 57 [(.p (bU c))] base (pI 2) []:=have k1:=fk 1 (bB c.sk 1 12) rfl;have k2:=fk 1 (bB c.ra 1 20) rfl;have k3:=fk 1 (bB c.be 1 c.ra) rfl;have k4:=fk 1 (bB (c.pts.length:Int) 1 60) rfl;FV.fi func57 ([k1.o,bF,bF,bF,k2.o]++rF 7++[k3.o,bF,bF,bF,k4.o]++rF 7++rT 6) (Lr (bG h4) (Et (aL h3) (gc k4 (gc (aL h2) (Az (aL h1) (gc k3 (Cf (aL h1) (Az (aL h0) (gc k2 (Ay (aL h0) (gc k1 gn)))))))))))
theorem chk_p5(h4:(c.done.length:Int)≤c.ra)(h5:small c.done.length)(h6:(c.done.all fun x=>(x.length:Int) == c.sk)=false):FV Tp 57 [(.p (bU c))] base (pI 2) []:=have k1:=fk 1 (bB c.sk 1 12) rfl;have k2:=fk 1 (bB c.ra 1 20) rfl;have k3:=fk 1 (bB c.be 1 c.ra) rfl;have k4:=fk 1 (bB (c.pts.length:Int) 1 60) rfl;have k5:=mq [0] 1 (mV c.done c.sk c.ra c.be c.pts c.done h5);FV.fi func57 ([k1.o,bF,bF,bF,k2.o]++rF 7++[k3.o,bF,bF,bF,k4.o]++rF 11++[k5.o,bF,bF,bT]) (gc (cA h6) (Az (aQ h4) (gc k5 (A4 (aQ h4) (Et (aL h3) (gc k4 (gc (aL h2) (Az (aL h1) (gc k3 (Cf (aL h1) (Az (aL h0) (gc k2 (Ay (aL h0) (gc k1 gn))))))))))))))
theorem chk_p6(h4:(c.done.length:Int)≤c.ra)(h5:small c.done.length)(h6:(c.done.all fun x=>(x.length:Int) == c.sk)=true)(h7:small c.pts.length)(h8:(c.pts.all fun x=>within x 0 1000)=false):FV Tp 57 [(.p (bU c))] base (pI 3) []:=have k1:=fk 1 (bB c.sk 1 12) rfl;have k2:=fk 1 (bB c.ra 1 20) rfl;have k3:=fk 1 (bB c.be 1 c.ra) rfl;have k4:=fk 1 (bB (c.pts.length:Int) 1 60) rfl;have k5:=mq [0] 1 (mV c.done c.sk c.ra c.be c.pts c.done h5);have k6:=fk 1 (pX c.pts h7) rfl;FV.fi func57 ([k1.o,bF,bF,bF,k2.o]++rF 7++[k3.o,bF,bF,bF,k4.o]++rF 11++[k5.o,bF,bF,bF,k6.o]++rT 5) (Cf (cA h8) (gc k6 (gc (aL h6) (Az (aQ h4) (gc k5 (A4 (aQ h4) (Et (aL h3) (gc k4 (gc (aL h2) (Az (aL h1) (gc k3 (Cf (aL h1) (Az (aL h0) (gc k2 (Ay (aL h0) (gc k1 gn))))))))))))))))
end
section
variable{c:KC.Cup}(h0:(within c.sk 1 12)=true)(h1:(within c.ra 1 20)=true)(h2:(within c.be 1 c.ra)=true)(h3:(within (c.pts.length:Int) 1 60)=true)(h4:(c.done.length:Int)≤c.ra)(h5:small c.done.length)(h6:(c.done.all fun x=>(x.length:Int) == c.sk)=true)(h7:small c.pts.length)(h8:(c.pts.all fun x=>within x 0 1000)=true)(h9:∀ x∈c.done,small x.length)
include h0 h1 h2 h3 h4 h5 h6 h7 h8 h9
theorem chk_p7(A0:(c.done.all fun x=>x.all fun y=>within y 0 60)=false):FV Tp 57 [(.p (bU c))] base (pI 3) []:=have k1:=fk 1 (bB c.sk 1 12) rfl;have k2:=fk 1 (bB c.ra 1 20) rfl;have k3:=fk 1 (bB c.be 1 c.ra) rfl;have k4:=fk 1 (bB (c.pts.length:Int) 1 60) rfl;have k5:=mq [0] 1 (mV c.done c.sk c.ra c.be c.pts c.done h5);have k6:=fk 1 (pX c.pts h7) rfl;have k7:=fk 1 (uN c.done h5 h9) rfl;FV.fi func57 ([k1.o,bF,bF,bF,k2.o]++rF 7++[k3.o,bF,bF,bF,k4.o]++rF 11++[k5.o,bF,bF,bF,k6.o,bF,bF,bF,k7.o,bF,bF,bT]) (gc (cA A0) (Az (aL h8) (gc k7 (Ay (aL h8) (gc k6 (gc (aL h6) (Az (aQ h4) (gc k5 (A4 (aQ h4) (Et (aL h3) (gc k4 (gc (aL h2) (Az (aL h1) (gc k3 (Cf (aL h1) (Az (aL h0) (gc k2 (Ay (aL h0) (gc k1 gn)))))))))))))))))))
theorem chk_p8(A0:(c.done.all fun x=>x.all fun y=>within y 0 60)=true)(Bu:c.pts.length≤1000)(Bh:(KC.fallsB c.pts)=false):FV Tp 57 [(.p (bU c))] base (pI 4) []:=have k1:=fk 1 (bB c.sk 1 12) rfl;have k2:=fk 1 (bB c.ra 1 20) rfl;have k3:=fk 1 (bB c.be 1 c.ra) rfl;have k4:=fk 1 (bB (c.pts.length:Int) 1 60) rfl;have k5:=mq [0] 1 (mV c.done c.sk c.ra c.be c.pts c.done h5);have k6:=fk 1 (pX c.pts h7) rfl;have k7:=fk 1 (uN c.done h5 h9) rfl;have k8:=fk 1 (aGv c.pts Bu) rfl;FV.fi func57 ([k1.o,bF,bF,bF,k2.o]++rF 7++[k3.o,bF,bF,bF,k4.o]++rF 11++[k5.o,bF,bF,bF,k6.o,bF,bF,bF,k7.o,bF,bF,bF,k8.o,bT]) (gc (cA Bh) (gc k8 (gc (aL A0) (Az (aL h8) (gc k7 (Ay (aL h8) (gc k6 (gc (aL h6) (Az (aQ h4) (gc k5 (A4 (aQ h4) (Et (aL h3) (gc k4 (gc (aL h2) (Az (aL h1) (gc k3 (Cf (aL h1) (Az (aL h0) (gc k2 (Ay (aL h0) (gc k1 gn)))))))))))))))))))))
theorem chk_p9(A0:(c.done.all fun x=>x.all fun y=>within y 0 60)=true)(Bu:c.pts.length≤1000)(Bh:(KC.fallsB c.pts)=true)(Cb:∀ x∈c.done,vL x)(De:(c.done.any fun x=>KC.clashR x)=true):FV Tp 57 [(.p (bU c))] base (pI 7) []:=have k1:=fk 1 (bB c.sk 1 12) rfl;have k2:=fk 1 (bB c.ra 1 20) rfl;have k3:=fk 1 (bB c.be 1 c.ra) rfl;have k4:=fk 1 (bB (c.pts.length:Int) 1 60) rfl;have k5:=mq [0] 1 (mV c.done c.sk c.ra c.be c.pts c.done h5);have k6:=fk 1 (pX c.pts h7) rfl;have k7:=fk 1 (uN c.done h5 h9) rfl;have k8:=fk 1 (aGv c.pts Bu) rfl;have k9:=fk 1 (bFj c.done h5 Cb) rfl;FV.fi func57 ([k1.o,bF,bF,bF,k2.o]++rF 7++[k3.o,bF,bF,bF,k4.o]++rF 11++[k5.o,bF,bF,bF,k6.o,bF,bF,bF,k7.o,bF,bF,bF,k8.o,bF,k9.o,bT]) (gc De (gc k9 (gc (aL Bh) (gc k8 (gc (aL A0) (Az (aL h8) (gc k7 (Ay (aL h8) (gc k6 (gc (aL h6) (Az (aQ h4) (gc k5 (A4 (aQ h4) (Et (aL h3) (gc k4 (gc (aL h2) (Az (aL h1) (gc k3 (Cf (aL h1) (Az (aL h0) (gc k2 (Ay (aL h0) (gc k1 gn)))))))))))))))))))))))
theorem cCo(A0:(c.done.all fun x=>x.all fun y=>within y 0 60)=true)(Bu:c.pts.length≤1000)(Bh:(KC.fallsB c.pts)=true)(Cb:∀ x∈c.done,vL x)(De:(c.done.any fun x=>KC.clashR x)=false):FV Tp 57 [(.p (bU c))] base (pI 0) []:=have k1:=fk 1 (bB c.sk 1 12) rfl;have k2:=fk 1 (bB c.ra 1 20) rfl;have k3:=fk 1 (bB c.be 1 c.ra) rfl;have k4:=fk 1 (bB (c.pts.length:Int) 1 60) rfl;have k5:=mq [0] 1 (mV c.done c.sk c.ra c.be c.pts c.done h5);have k6:=fk 1 (pX c.pts h7) rfl;have k7:=fk 1 (uN c.done h5 h9) rfl;have k8:=fk 1 (aGv c.pts Bu) rfl;have k9:=fk 1 (bFj c.done h5 Cb) rfl;FV.fi func57 ([k1.o,bF,bF,bF,k2.o]++rF 7++[k3.o,bF,bF,bF,k4.o]++rF 11++[k5.o,bF,bF,bF,k6.o,bF,bF,bF,k7.o,bF,bF,bF,k8.o,bF,k9.o,bF]) (gc De (gc k9 (gc (aL Bh) (gc k8 (gc (aL A0) (Az (aL h8) (gc k7 (Ay (aL h8) (gc k6 (gc (aL h6) (Az (aQ h4) (gc k5 (A4 (aQ h4) (Et (aL h3) (gc k4 (gc (aL h2) (Az (aL h1) (gc k3 (Cf (aL h1) (Az (aL h0) (gc k2 (Ay (aL h0) (gc k1 gn)))))))))))))))))))))))
end
theorem cKx(n lo hi:Int):KC.wiB n lo hi=within n lo hi:=by unfold KC.wiB within;rw [Bool.decide_and]
theorem aUk(c:KC.Cup)(hS:KC.Small c){base:Nat}:FV Tp 57 [.p (bU c)] base (pI (KC.checkP c)) []:=by
 have s1:small c.done.length:=by have:=hS.done;omega
 have s2:small c.pts.length:=by have:=hS.pts;omega
 have s3:∀ x∈c.done,small x.length:=fun x hx=>by have:=hS.rows x hx;omega
 unfold KC.checkP;simp only [cKx];cases h1:within c.sk 1 12
 ·exact chk_p0 h1
 cases h2:within c.ra 1 20
 ·exact chk_p1 h1 h2
 cases h3:within c.be 1 c.ra
 ·exact chk_p2 h1 h2 h3
 cases h4:within (c.pts.length:Int) 1 60
 ·exact chk_p3 h1 h2 h3 h4
 by_cases h5:c.ra<(c.done.length:Int)
 ·rw [decide_eq_true h5];exact chk_p4 h1 h2 h3 h4 h5
 rw [decide_eq_false h5];cases h6:c.done.all fun r=>((r.length:Int) == c.sk)
 ·exact chk_p5 h1 h2 h3 h4 (by omega) s1 h6
 cases h8:c.pts.all fun n=>within n 0 1000
 ·exact chk_p6 h1 h2 h3 h4 (by omega) s1 h6 s2 h8
 cases A0:c.done.all fun r=>r.all fun p=>within p 0 60
 ·exact chk_p7 h1 h2 h3 h4 (by omega) s1 h6 s2 h8 s3 A0
 cases Bh:KC.fallsB c.pts
 ·exact chk_p8 h1 h2 h3 h4 (by omega) s1 h6 s2 h8 s3 A0 hS.pts Bh
 have hr:∀ x∈c.done,vL x:=fun x hx=>⟨hS.rows x hx,fun y hy=>by
  have:=gC.1 (gC.1 A0 x hx) y hy;simp [within] at this
  omega⟩
 cases De:c.done.any KC.clashR
 ·exact cCo h1 h2 h3 h4 (by omega) s1 h6 s2 h8 s3 A0 hS.pts Bh hr De
 ·exact chk_p9 h1 h2 h3 h4 (by omega) s1 h6 s2 h8 s3 A0 hS.pts Bh hr De
end CU
end KV
end Go.Proofs
end
section
namespace Go.Proofs
open KC
namespace KV
open Tryz
variable {p x0 Ad:Int}{race:List Int}{i m s i' base:Nat}
namespace CU
noncomputable abbrev aGt:Code:=sub (cd Tryz.f120) [1,1,1,0,1,0,0]
section
variable(h0:inR (p-1))(h1:inR ((p-1)+(m:Int)))
include h0 h1
theorem cKr{c:KC.Cup}(h2:(if ((p-1)+(m:Int))<(c.pts.length:Int) then ((p-1)+(m:Int)) else (c.pts.length:Int))<p):FV Tp 174 [(.p (bU c)),(pI p),(pI (m:Int))] base (pI 0) []:=FV.fi func174 [bT] (gc (bG h2) (gc h1 (gc h0 gn)))
theorem cKs{c:KC.Cup}{l0:List Int}(h2:p≤(if ((p-1)+(m:Int))<(c.pts.length:Int) then ((p-1)+(m:Int)) else (c.pts.length:Int)))(h3:0≤(p-1)∧(p-1)≤(if ((p-1)+(m:Int))<(c.pts.length:Int) then ((p-1)+(m:Int)) else (c.pts.length:Int))∧(if ((p-1)+(m:Int))<(c.pts.length:Int) then ((p-1)+(m:Int)) else (c.pts.length:Int))≤(c.pts.length:Int)∧(c.pts.map aA).length=c.pts.length*1)(h4:((if ((p-1)+(m:Int))<(c.pts.length:Int) then ((p-1)+(m:Int)) else (c.pts.length:Int)).toNat-(p-1).toNat)=l0.length)(h5:(((c.pts.map aA).drop ((p-1).toNat*1)).take (((if ((p-1)+(m:Int))<(c.pts.length:Int) then ((p-1)+(m:Int)) else (c.pts.length:Int)).toNat-(p-1).toNat)*1))=l0.map aA)(h6:small l0.length)(h7:∀ k,inR (l0.take k).sum):FV Tp 174 [(.p (bU c)),(pI p),(pI (m:Int))] base (pI l0.sum) []:=FV.fi func174 [bF,.c (pI l0.sum) []] (gt (FC Tp 119 [(.p (.sl ((if ((p-1)+(m:Int))<(c.pts.length:Int) then ((p-1)+(m:Int)) else (c.pts.length:Int)).toNat-(p-1).toNat) (((c.pts.map aA).drop ((p-1).toNat*1)).take (((if ((p-1)+(m:Int))<(c.pts.length:Int) then ((p-1)+(m:Int)) else (c.pts.length:Int)).toNat-(p-1).toNat)*1))))] [] 1 (pI l0.sum) []) (FV.fc (by rw [show ((.sl ((if ((p-1)+(m:Int))<(c.pts.length:Int) then ((p-1)+(m:Int)) else (c.pts.length:Int)).toNat-(p-1).toNat) (((c.pts.map aA).drop ((p-1).toNat*1)).take (((if ((p-1)+(m:Int))<(c.pts.length:Int) then ((p-1)+(m:Int)) else (c.pts.length:Int)).toNat-(p-1).toNat)*1))):PV)=aE l0 from bDo h4 h5];exact (bVt l0 h6 h7)) rfl) (gc h3 (gc h0 (gc (aQ h2) (gc h1 (gc h0 gn))))))
end
theorem bVr(c:KC.Cup)(p:Int)(m:Nat)(hl:c.pts.length≤1000)(hr:∀ x∈c.pts,0≤x∧x≤1000)(hp:1≤p∧p≤1000)(hm:m≤1000){base:Nat}:FV Tp 174 [.p (bU c),.p (aA p),.p (aA (m:Int))] base (pI (KC.worthM c.pts p.toNat m)) []:=by
 have b1:inR (p-1):=by show _∧_;omega
 have b2:inR (p-1+(m:Int)):=by show _∧_;omega
 have e1:(p-1).toNat=p.toNat-1:=by omega
 by_cases h:p≤(if p-1+(m:Int)<(c.pts.length:Int) then p-1+(m:Int) else (c.pts.length:Int))
 ·have ll:((c.pts.drop (p.toNat-1)).take m).length=min m (c.pts.length-(p.toNat-1)):=by simp
  have hb:∀ x∈(c.pts.drop (p.toNat-1)).take m,0≤x∧x≤1000:=fun x hx=>hr x (List.mem_of_mem_drop (List.mem_of_mem_take hx))
  refine cKs (l0:=(c.pts.drop (p.toNat-1)).take m) b1 b2 h ⟨by omega,by split <;> omega,by split <;> omega,by simp⟩ (by rw [ll];split <;> omega) ?_ (by rw [ll];omega) (fun k => ?_)
  ·rw [Nat.mul_one,Nat.mul_one,e1,← List.map_drop,← List.map_take]
   congr 1
   split
   ·congr 1;omega
   ·rw [List.take_of_length_le (by simp <;> omega),List.take_of_length_le (by simp <;> omega)]
  ·have:=KC.sum_bd (((c.pts.drop (p.toNat-1)).take m).take k) (fun x hx=>hb x (List.mem_of_mem_take hx))
   have hk:(((c.pts.drop (p.toNat-1)).take m).take k).length≤1000:=by rw [jV];omega
   show _∧_;omega
 ·rw [KC.worthM_none c.pts p.toNat m (by omega) (by split at h <;> omega)]
  exact cKr b1 b2 (by omega)
def oW(c:KC.Cup)(race:List Int)(x0:Int)(i m:Nat):St:=⟨fr 35 [(3,(.ptr 0 0)),(6,(pI 0)),(7,(pI x0)),(8,(pI (m:Int))),(17,(.p (aE race))),(18,(pI (race.length:Int))),(19,(pI (i:Int)))],[some (.box 34 [(pI c.sk),(pI c.ra),(pI c.be),(.p (aE c.pts)),(.p (aV c.done))])]⟩
theorem cKt{c:KC.Cup}(h0:race[s]? = some x0)(h1:x0=0):FV Tp 120 [(.p (bU c)),(.p (aE race)),(pI (s:Int))] base (pI 0) []:=FV.fi func120 [.x (aA x0),bT] (gc (cT h1) (gc (atm aA h0) (gc (ixn aA h0) gn)))
theorem cKu{c:KC.Cup}{Hv Mf:Nat}{r0:Int}(h0:race[s]? = some x0)(h1:x0≠0)(hl2:aF Tp 0 aGt (oW c race x0 0 0) (.exit 0) (oW c race x0 Hv Mf))(h3:c.pts.length≤1000)(h4:∀ x∈c.pts,0≤x∧x≤1000)(h5:1≤x0∧x0≤1000)(h6:Mf≤1000)(h7:(Mf:Int)≠0)(h8:inR ((KC.worthM c.pts x0.toNat Mf).tdiv (Mf:Int)))(Aq:r0=((KC.worthM c.pts x0.toNat Mf).tdiv (Mf:Int))):FV Tp 120 [(.p (bU c)),(.p (aE race)),(pI (s:Int))] base (pI r0) []:=by
 subst Aq;have k1:=fk 1 (bVr c x0 Mf h3 h4 h5 h6) rfl;exact FV.fi func120 [.x (aA x0),bF,hl2.k 4 (gI cg [0]),k1.o] (gc h8 (gc h7 (gc k1 (gc hl2.code (gc (bE h1) (gc (atm aA h0) (gc (ixn aA h0) gn)))))))
section
variable(h0:(i:Int)<(race.length:Int))(h1:race[i]? = some Ad)
include h0 h1
theorem bOk{c:KC.Cup}{m':Nat}(h2:Ad=x0)(h3:dv m)(h4:dv i)(Ak:i'=(i+1))(Sd:m'=(m+1)):aB Tp 0 aGt (oW c race x0 i m) .normal (oW c race x0 i' m'):=by
 subst Ak Sd;exact aB.fi (gI cg [0]) [bT,.x (aA Ad),bT] (gc h4 (gc h3 (gc (cT h2) (gc (atm aA h1) (gc (ixn aA h1) (g0 h0))))))
theorem bOl{c:KC.Cup}(h2:Ad≠x0)(h3:dv i)(Ak:i'=(i+1)):aB Tp 0 aGt (oW c race x0 i m) .normal (oW c race x0 i' m):=by
 subst Ak;exact aB.fi (gI cg [0]) [bT,.x (aA Ad),bF] (gc h3 (gc (bE h2) (gc (atm aA h1) (gc (ixn aA h1) (g0 h0)))))
end
theorem bOm{c:KC.Cup}(h0:(race.length:Int)≤(i:Int)):aB Tp 0 aGt (oW c race x0 i m) (.exit 0) (oW c race x0 i m):=aB.fi (gI cg [0]) [bF] (gc (aQ h0) gn)
theorem aAn(c:KC.Cup)(hV:KC.Valid c)(race:List Int)(hrl:race.length≤1000)(hrr:∀ x∈race,0≤x∧x≤60)(s:Nat)(hs:s<race.length){base:Nat}:FV Tp 120 [.p (bU c),.p (aE race),.p (aA (s:Int))] base (pI (KC.scoreM c.pts race s)) []:=by
 have hx:race[s]? = some race[s]:=Av hs;have hg:race.getD s 0=race[s]:=by rw [Bw,hx];rfl
 have hb:=hrr _ (fG hs);unfold KC.scoreM;rw [hg]
 by_cases h0:race[s]=0
 ·rw [if_pos h0];exact cKt hx h0
 ·rw [if_neg h0]
  obtain ⟨m,hm,hL⟩:=aF.ex (P:=Tp) (k:=0) (b:=aGt) (e := .exit 0) (fun i (m:Nat)=>oW c race race[s] i m) (fun m=>oW c race race[s] race.length m) (fun i m=>m=(race.take i).count race[s]) (by simp) race.length
   (fun i m hi hm=>by
    have Ic:race[i]? = some race[i]:=Av hi;have hle:m≤i:=by rw [hm];exact gL List.count_le_length (by rw [jV];omega)
    have hc:=KC.count_snoc race race[s] i hi
    by_cases he:race[i]=race[s]
    ·exact ⟨m+1,by rw [hc,if_pos he,hm],bOk (by omega) Ic he (aI (by omega)) (aI (by omega)) rfl rfl⟩
    ·exact ⟨m,by rw [hc,if_neg he,hm];rfl,bOl (by omega) Ic he (aI (by omega)) rfl⟩)
   (fun m _=>bOm (by omega)) (acc:=0) (by simp)
  rw [List.take_length] at hm
  have h1:1≤m:=by rw [hm];exact List.count_pos_iff.2 (fG hs)
  have h2:m≤1000:=by rw [hm];exact gL List.count_le_length hrl
  have hw:=KC.worthM_bd c.pts race[s].toNat m hV.pts;have e:(KC.worthM c.pts race[s].toNat m).tdiv (m:Int)=KC.worthM c.pts race[s].toNat m / (m:Int):=Int.tdiv_eq_ediv_of_nonneg hw.1;have q1:0≤KC.worthM c.pts race[s].toNat m / (m:Int):=Int.ediv_nonneg hw.1 (by omega)
  have q2:KC.worthM c.pts race[s].toNat m / (m:Int)≤KC.worthM c.pts race[s].toNat m:=Int.ediv_le_self _ hw.1;have hp:=hV.pt2;exact cKu hx h0 hL (by omega) hV.pts (by omega) h2 (by omega) (by rw [e];show _∧_;omega) (by rw [e,hm])
end CU
end KV
end Go.Proofs
end
section
namespace Go.Proofs
open KC
namespace KV
open Tryz
variable {j B4 Bj:Int}{L M l:List Int}{i s Aw:Nat}
namespace CU
noncomputable abbrev aAm:Code:=sub (cd Tryz.f186) [1,0,0]
noncomputable abbrev aGs:Code:=sub (cd Tryz.f186) [1,0,0,1,0,0,1,0,0]
def yW(c:KC.Cup)(x:Int):Prop:=0≤x∧x.toNat<c.done.length
theorem cKm{c:KC.Cup}{x y:Int}{x0 x1:List Int}{r0:Int}(h0:c.done[y.toNat]? = some x0)(h1:0≤y)(h2:KC.Valid c)(h3:x0.length≤1000)(h4:∀ x∈x0,0≤x∧x≤60)(h5:s<x0.length)(h6:c.done[x.toNat]? = some x1)(h7:0≤x)(h8:x1.length≤1000)(h9:∀ x∈x1,0≤x∧x≤60)(A0:s<x1.length)(Aq:r0=(cmpI (KC.scoreM c.pts x0 s) (KC.scoreM c.pts x1 s))):FMM Tp 173 [(pI x),(pI y),(.ptr 0 0),(.ptr 1 0)] [some (.box 98 [(pI c.sk),(pI c.ra),(pI c.be),(.p (aE c.pts)),(.p (aV c.done))]),some (.box 3 [(pI (s:Int))])] (pI r0) [some (.box 98 [(pI c.sk),(pI c.ra),(pI c.be),(.p (aE c.pts)),(.p (aV c.done))]),some (.box 3 [(pI (s:Int))])]:=by
 subst Aq;have k1:=fk 2 (aAn c h2 x0 h3 h4 s h5) rfl;have k2:=fk 10 (aAn c h2 x1 h8 h9 s A0) rfl;have k3:=fk 18 (cmp_ok (KC.scoreM c.pts x0 s) (KC.scoreM c.pts x1 s)) rfl;exact FMM.fi 2 gE func173 [.x (aE x0),k1.o,.x (aE x1),k2.o,k3.o] (gc k3 (gc k2 (gt ((c.done.map aE)[(x.toNat*1)]? = some (aE x1)) (dF (i:=x.toNat) h6) (gc (jE (g:=aE) h7 h6) (gc k1 (gt ((c.done.map aE)[(y.toNat*1)]? = some (aE x0)) (dF (i:=y.toNat) h0) (gc (jE (g:=aE) h1 h0) gn)))))))
theorem bVp(c:KC.Cup)(s:Nat)(x y:Int)(hV:KC.Valid c)(hs:(s:Int)<c.sk)(hx:yW c x)(hy:yW c y):FMM Tp 173 [.p (aA x),.p (aA y),.ptr 0 0,.ptr 1 0] [some (.box 98 [(pI c.sk),(pI c.ra),(pI c.be),(.p (aE c.pts)),(.p (aV c.done))]),some (.box 3 [(pI (s:Int))])] (pI (KC.cntCmp c s x y)) [some (.box 98 [(pI c.sk),(pI c.ra),(pI c.be),(.p (aE c.pts)),(.p (aV c.done))]),some (.box 3 [(pI (s:Int))])]:=by
 obtain ⟨rx,Ic⟩:∃ r,c.done[x.toNat]? = some r:=⟨_,Av hx.2⟩;obtain ⟨ry,To⟩:∃ r,c.done[y.toNat]? = some r:=⟨_,Av hy.2⟩;have mx:=Bp Ic;have my:=Bp To;have lx:=hV.len _ mx;have ly:=hV.len _ my;have:=hV.sk2;have gx:c.done.getD x.toNat []=rx:=by rw [Bw,Ic];rfl
 have gy:c.done.getD y.toNat []=ry:=by rw [Bw,To];rfl
 exact cKm To hy.1 hV (by omega) (hV.rows _ my) (by omega) Ic hx.1 (by omega) (hV.rows _ mx) (by omega) (by unfold KC.cntCmp KC.scoreAt;rw [gx,gy];rfl)
abbrev aa(c:KC.Cup)(s Ln:Nat)(Lc:List PV):Mem:=[some (.row 3 Ln Lc),some (.box 98 [(pI c.sk),(pI c.ra),(pI c.be),(.p (aE c.pts)),(.p (aV c.done))]),some (.box 3 [(pI (s:Int))])]
def tN(c:KC.Cup)(s:Nat)(l:List Int)(i Ln:Nat)(Lc:List PV):St:=⟨fr 53 [(0,(.own 0)),(1,(pI 0)),(2,(pI (l.length:Int))),(3,(.fn 173 [] [(.ptr 1 0),(.ptr 2 0)])),(8,(pI (i:Int)))],(aa c s Ln Lc)⟩
theorem bVq{c:KC.Cup}{L'1:List Int}(hl0:aF Tp 3 aAm (tN c s l 1 l.length (l.map aA)) (.exit 0) (tN c s l Aw L'1.length (L'1.map aA))):FMM Tp 186 [(.own 0),(pI 0),(pI (l.length:Int)),(.fn 173 [] [(.ptr 1 0),(.ptr 2 0)])] [some (.row 3 l.length (l.map aA)),some (.box 98 [(pI c.sk),(pI c.ra),(pI c.be),(.p (aE c.pts)),(.p (aV c.done))]),some (.box 3 [(pI (s:Int))])] (.tup []) [some (.row 3 L'1.length (L'1.map aA)),some (.box 98 [(pI c.sk),(pI c.ra),(pI c.be),(.p (aE c.pts)),(.p (aV c.done))]),some (.box 3 [(pI (s:Int))])]:=FMM.fi 3 gE func186 [hl0.k 3 (gZ dr)] (gc hl0.code (gt (inR 1) (by show _∧_;omega) gn))
def oV(c:KC.Cup)(s:Nat)(l:List Int)(i:Nat)(j:Int)(Mn:Nat)(Mc:List PV):St:=⟨fr 53 [(0,(.own 0)),(1,(pI 0)),(2,(pI (l.length:Int))),(3,(.fn 173 [] [(.ptr 1 0),(.ptr 2 0)])),(8,(pI (i:Int))),(9,(pI j)),(12,(pI (i:Int))),(13,(pI (l.length:Int))),(14,(pB (decide ((i:Int)<(l.length:Int))))),(17,(pI (i:Int)))],[some (.row 3 Mn Mc),some (.box 98 [(pI c.sk),(pI c.ra),(pI c.be),(.p (aE c.pts)),(.p (aV c.done))]),some (.box 3 [(pI (s:Int))])]⟩
theorem bOf{c:KC.Cup}{Fy:Int}{M'101:List Int}{i':Nat}{L':List Int}(h0:(i:Int)<(l.length:Int))(hl1:aF Tp 3 aGs (oV c s l i (i:Int) L.length (L.map aA)) (.exit 2) (oV c s l i Fy M'101.length (M'101.map aA)))(h2:dv i)(Ak:i'=(i+1))(Dx:L'.length=M'101.length)(Dy:L'.map aA=(M'101.map aA)):aB Tp 3 aAm (tN c s l i L.length (L.map aA)) .normal (tN c s l i' L'.length (L'.map aA)):=by
 subst Ak;rw [Dx,Dy];exact aB.fi (gZ dr) [bT,hl1.k 5 (gZ cq)] (gc h2 (gc hl1.code (g0 h0)))
theorem aLd{c:KC.Cup}(h0:(l.length:Int)≤(i:Int)):aB Tp 3 aAm (tN c s l i L.length (L.map aA)) (.exit 0) (tN c s l i L.length (L.map aA)):=aB.fi (gZ dr) [bF] (gc (aQ h0) gn)
section
variable{c:KC.Cup}(h0:(0:Int)<j)(h1:M[j.toNat]? = some B4)(h2:0≤j)(h3:inR (j-1))(h4:M[(j-1).toNat]? = some Bj)(h5:0≤(j-1))(h6:KC.Valid c)(h7:(s:Int)<c.sk)(h8:yW c B4)(h9:yW c Bj)
include h0 h1 h2 h3 h4 h5 h6 h7 h8 h9
theorem bOg{j':Int}{M':List Int}(A0:(KC.cntCmp c s B4 Bj)<0)(Bu:(j.toNat*1)<(M.map aA).length)(Bh:0≤(j-1)∧(j-1)<(M.length:Int))(Cb:((j-1).toNat*1)<((M.map aA).set (j.toNat*1) (aA Bj)).length)(Du:j'=(j-1))(H7:M'.length=M.length)(H8:M'.map aA=(((M.map aA).set (j.toNat*1) (aA Bj)).set ((j-1).toNat*1) (aA B4))):aB Tp 3 aGs (oV c s l i j M.length (M.map aA)) .normal (oV c s l i j' M'.length (M'.map aA)):=by
 subst Du;have k1:=mq [1,2] 3 (bVp c s B4 Bj h6 h7 h8 h9);rw [H7,H8];exact aB.fi (gZ cq) (rT 5++[.x (aA B4)]++rT 5++[.x (aA Bj),bT,k1.o,bT,bT,bT,.x (aA Bj),.x (aA B4)]) (gc h3 (gc Cb (gc Bh (gc Bu (gc (aX (i:=j) h2 h1) (gt ((M.map aA)[(j.toNat*1)]? = some (aA B4)) (dF (i:=j.toNat) h1) (gc (aX (i:=j) h2 h1) (gt ((M.map aA)[((j-1).toNat*1)]? = some (aA Bj)) (dF (i:=(j-1).toNat) h4) (gc (aX (i:=(j-1)) h5 h4) (Az h3 (gc (bG A0) (Az (bG h0) (gc k1 (gc (bG h0) (gt ((M.map aA)[((j-1).toNat*1)]? = some (aA Bj)) (dF (i:=(j-1).toNat) h4) (gc (bG h0) (gc (aX (i:=(j-1)) h5 h4) (gc (bG h0) (gc h3 (Ay (bG h0) (gt ((M.map aA)[(j.toNat*1)]? = some (aA B4)) (dF (i:=j.toNat) h1) (gc (bG h0) (gc (aX (i:=j) h2 h1) (Ay (bG h0) (g0 h0)))))))))))))))))))))))))
theorem bOh(A0:(0:Int)≤(KC.cntCmp c s B4 Bj)):aB Tp 3 aGs (oV c s l i j M.length (M.map aA)) (.exit 2) (oV c s l i j M.length (M.map aA)):=have k1:=mq [1,2] 3 (bVp c s B4 Bj h6 h7 h8 h9);aB.fi (gZ cq) (rT 5++[.x (aA B4)]++rT 5++[.x (aA Bj),bT,k1.o,bT,bT,bF]) (gc (aQ A0) (Az (bG h0) (gc k1 (gc (bG h0) (gt ((M.map aA)[((j-1).toNat*1)]? = some (aA Bj)) (dF (i:=(j-1).toNat) h4) (gc (bG h0) (gc (aX (i:=(j-1)) h5 h4) (gc (bG h0) (gc h3 (Ay (bG h0) (gt ((M.map aA)[(j.toNat*1)]? = some (aA B4)) (dF (i:=j.toNat) h1) (gc (bG h0) (gc (aX (i:=j) h2 h1) (Ay (bG h0) (g0 h0)))))))))))))))
end
theorem bOi{c:KC.Cup}(h0:j≤0):aB Tp 3 aGs (oV c s l i j M.length (M.map aA)) (.exit 2) (oV c s l i j M.length (M.map aA)):=aB.fi (gZ cq) (rF 13) (Ia (aQ h0) (Cf (aQ h0) gn))
def aOy(c:KC.Cup)(s:Nat)(l:List Int)(i:Nat):St:=⟨fr 53 [(0,(.own 0)),(1,(pI (l.length:Int))),(2,(pI (l.length:Int))),(3,(.fn 173 [] [(.ptr 1 0),(.ptr 2 0)])),(8,(pI (i:Int)))],[some (.row 3 l.length (l.map aA)),some (.box 98 [(pI c.sk),(pI c.ra),(pI c.be),(.p (aE c.pts)),(.p (aV c.done))]),some (.box 3 [(pI (s:Int))])]⟩
theorem cKn{c:KC.Cup}(h0:inR (((l.length+1):Nat):Int))(hl1:aF Tp 3 aAm (aOy c s l (l.length+1)) (.exit 0) (aOy c s l Aw)):FMM Tp 186 [(.own 0),(pI (l.length:Int)),(pI (l.length:Int)),(.fn 173 [] [(.ptr 1 0),(.ptr 2 0)])] [some (.row 3 l.length (l.map aA)),some (.box 98 [(pI c.sk),(pI c.ra),(pI c.be),(.p (aE c.pts)),(.p (aV c.done))]),some (.box 3 [(pI (s:Int))])] (.tup []) [some (.row 3 l.length (l.map aA)),some (.box 98 [(pI c.sk),(pI c.ra),(pI c.be),(.p (aE c.pts)),(.p (aV c.done))]),some (.box 3 [(pI (s:Int))])]:=FMM.fi 3 gE func186 [hl1.k 3 (gZ dr)] (gc hl1.code (gc h0 gn))
theorem bOj{c:KC.Cup}(h0:(l.length:Int)≤(i:Int)):aB Tp 3 aAm (aOy c s l i) (.exit 0) (aOy c s l i):=aB.fi (gZ dr) [bF] (gc (aQ h0) gn)
abbrev ltS(c:KC.Cup)(s:Nat):Int→Int→Bool:=KC.ltC (KC.cntCmp c s)
theorem cKo(c:KC.Cup)(s:Nat)(l:List Int)(i:Nat)(A R:List Int)(x:Int)(hV:KC.Valid c)(hs:(s:Int)<c.sk)(hA:A.length<1000)(hi:i=A.length)(hk:∀ y∈A++x::R,yW c y):∀ m,m≤A.length→(∀ t (h:t<A.length),m≤t→ltS c s x A[t]=true) →
  aF Tp 3 aGs (oV c s l i (m:Int) (KC.mv A x m R).length ((KC.mv A x m R).map aA)) (.exit 2) (oV c s l i (KC.insPos (ltS c s) x A:Int) (KC.ins (ltS c s) A x++R).length ((KC.ins (ltS c s) A x++R).map aA)):=by
 intro m
 induction m with
 | zero =>
  intro _ hlt;have e:=KC.insPos_eq (ltS c s) x A 0 (Nat.zero_le _) hlt (.inl rfl);rw [← KC.mv_ins,e];exact .exit (bOi (by simp)) (by simp)
 | succ m ih =>
  intro hm hlt;have hy:=Av (show m<A.length by omega)
  have kx:yW c x:=hk x (by simp)
  have ky:yW c A[m]:=hk _ (mK _ (fG _));generalize A[m]=y at hy ky
  have e1:((m+1:Nat):Int).toNat=m+1:=by omega
  have e2:(((m+1:Nat):Int)-1).toNat=m:=by omega
  have hl:=KC.mv_length A x (m+1) R hm;have g1:(KC.mv A x (m+1) R)[m+1]? = some x:=by rw [KC.mv_get A _ _ R hm];simp
  have g2:(KC.mv A x (m+1) R)[m]? = some y:=by rw [KC.mv_get A _ _ R hm,if_pos (by omega)];exact hy
  by_cases hc:KC.cntCmp c s x y<0
  ·have hsw:=KC.mv_swap A x (m+1) R hm (by omega) y (by simpa using hy)
   rw [Nat.add_sub_cancel] at hsw
   have Qg:m+1<(KC.mv A x (m+1) R).length:=aT g1;refine .step (bOg (j:=((m+1:Nat):Int)) (j':=(m:Int)) (M':=KC.mv A x m R) (by omega) (by rw [e1];exact g1) (by omega) (by show _∧_;omega) (by rw [e2];exact g2) (by omega) hV hs kx ky hc (by rw [e1,B9];omega) ⟨by omega,by omega⟩ (by rw [e2,zS,B9];omega) (by omega) (by rw [hl,KC.mv_length A x m R (by omega)]) (by rw [e1,e2,Nat.mul_one,Nat.mul_one,← List.map_set,← List.map_set,hsw])) (ih (by omega) (fun t ht h1 => ?_))
   by_cases h2:t=m
   ·subst h2
    have h3:=hy;rw [Av ht,Option.some.injEq] at h3
    rw [h3];simpa [KC.ltC] using hc
   ·exact hlt t ht (by omega)
  ·have e:=KC.insPos_eq (ltS c s) x A (m+1) hm hlt (.inr ⟨y,by simpa using hy,by simpa [KC.ltC] using hc⟩)
   rw [← KC.mv_ins,e];exact .exit (bOh (by omega) (by rw [e1];exact g1) (by omega) (by show _∧_;omega) (by rw [e2];exact g2) (by omega) hV hs kx ky (by omega)) (by simp)
theorem cKp(c:KC.Cup)(s:Nat)(l:List Int)(hV:KC.Valid c)(hs:(s:Int)<c.sk)(hn:l.length<1000)(hk:∀ y∈l,yW c y):FMM Tp 186 [.own 0,.p (aA 0),.p (aA (l.length:Int)),(.fn 173 [] [(.ptr 1 0),(.ptr 2 0)])] [some (.row 3 l.length (l.map aA)),some (.box 98 [(pI c.sk),(pI c.ra),(pI c.be),(.p (aE c.pts)),(.p (aV c.done))]),some (.box 3 [(pI (s:Int))])] (.tup []) [some (.row 3 ((KC.isort (ltS c s) l).length) ((KC.isort (ltS c s) l).map aA)),some (.box 98 [(pI c.sk),(pI c.ra),(pI c.be),(.p (aE c.pts)),(.p (aV c.done))]),some (.box 3 [(pI (s:Int))])]:=by
 have key:∀ d i,i+d=l.length→1≤i→aF Tp 3 aAm (tN c s l i (KC.isort (ltS c s) (l.take i)++l.drop i).length ((KC.isort (ltS c s) (l.take i)++l.drop i).map aA)) (.exit 0) (tN c s l l.length (KC.isort (ltS c s) l).length ((KC.isort (ltS c s) l).map aA)):=by
  intro d
  induction d with
  | zero =>
   intro i hi _;obtain rfl:i=l.length:=by omega
   rw [List.take_length,List.drop_length,List.append_nil];exact .exit (aLd (by omega)) (by simp)
  | succ d ih =>
   intro i hi h1;have hlt:i<l.length:=by omega
   have hAl:(KC.isort (ltS c s) (l.take i)).length=i:=by rw [KC.isort_length,jV];omega
   have hdr:l.drop i=l[i]::l.drop (i+1):=aRk hlt;have hin:=cKo c s l i (KC.isort (ltS c s) (l.take i)) (l.drop (i+1)) l[i] hV hs (by omega) hAl.symm (by
    intro y hy
    rcases fV.1 hy with h | h
    ·exact hk y (List.mem_of_mem_take ((KC.isort_mem (ltS c s) _ y).1 h))
    ·rcases gK.1 h with rfl | h
     ·exact hk _ (fG hlt)
     ·exact hk y (List.mem_of_mem_drop h)) i (by omega) (fun t ht h2=>by omega)
   have hmv:KC.mv (KC.isort (ltS c s) (l.take i)) l[i] i (l.drop (i+1))=KC.isort (ltS c s) (l.take i)++l.drop i:=by
    have:=KC.mv_end (KC.isort (ltS c s) (l.take i)) l[i] (l.drop (i+1));rw [hAl] at this;rw [this,hdr]
   have hsn:=KC.isort_snoc (ltS c s) l i hlt;rw [hmv,← hsn] at hin
   exact .step (bOf (by omega) hin (by show _∧_;omega) rfl rfl rfl) (ih (i+1) (by omega) (by omega))
 rcases Nat.eq_zero_or_pos l.length with h0 | hp
 ·have:l=[]:=uS h0
  subst this;exact bVq (aF.exit (aLd (l:=[]) (L:=[]) (i:=1) (by simp)) (by simp))
 ·have:=key (l.length-1) 1 (by omega) (by omega)
  have e1:KC.isort (ltS c s) (l.take 1)++l.drop 1=l:=by
   cases l with
   | nil=>simp at hp
   | cons x r=>simp [KC.isort,KC.ins,KC.insPos]
  rw [e1] at this
  exact bVq this
theorem cKq(c:KC.Cup)(s:Nat)(l:List Int)(hn:l.length<1000):FMM Tp 186 [.own 0,.p (aA (l.length:Int)),.p (aA (l.length:Int)),(.fn 173 [] [(.ptr 1 0),(.ptr 2 0)])] [some (.row 3 l.length (l.map aA)),some (.box 98 [(pI c.sk),(pI c.ra),(pI c.be),(.p (aE c.pts)),(.p (aV c.done))]),some (.box 3 [(pI (s:Int))])] (.tup []) [some (.row 3 l.length (l.map aA)),some (.box 98 [(pI c.sk),(pI c.ra),(pI c.be),(.p (aE c.pts)),(.p (aV c.done))]),some (.box 3 [(pI (s:Int))])] :=
 cKn (by show _∧_;omega) (.exit (bOj (by omega)) (by simp))
end CU
end KV
end Go.Proofs
end
section
namespace Go.Proofs
open Go.RowKit Go.Lib Go.Sort
namespace KV
open Tryz
namespace CU
theorem bPa{α:Type}{xs:Array α}{i:Nat}{f g:α→α}(h:∀ x,xs[i]? = some x→f x=g x):xs.modify i f=xs.modify i g:=by
 apply Array.ext_getElem?;intro j;rw [Array.getElem?_modify,Array.getElem?_modify]
 split
 ·rename_i e;subst e
  cases hx:xs[i]? with
  | none=>rfl
  | some x=>simp [h x hx]
 ·rfl
theorem cLc{w:World}{g k q:Nat}{cur:Array Value}{zs ys:List Int}(hg:w.heap[g]? = some (.cells cur 3 (0,0)))(ht:cur.toList.take zs.length=zs.map (Value.int .i64))(hk:k≤zs.length)(hy:ys.length=k) :
  putRow (Value.int .i64) (Sort.ahead w q) g 0 ys.toArray=putRow (Value.int .i64) (Sort.ahead w q) g 0 (ys++zs.drop k).toArray:=by
 unfold putRow mapBlock
 congr 1
 refine bPa fun x hx => ?_
 have Ic:w.heap[g]? = some x:=hx;rw [hg] at Ic
 cases Ic;refine congrArg (fun c=>Obj.cells c 3 (0,0)) ?_
 unfold putCells;apply Array.ext_getElem?;intro i;rw [Array.getElem?_mapIdx,Array.getElem?_mapIdx];cases hi:cur[i]? with
 | none=>rfl
 | some v =>
  simp only [Option.map_some]
  by_cases h1:i<k
  ·rw [if_pos (by simp;omega),if_pos (by simp;omega)]
   congr 2
   simp [getElem!_pos,show i<ys.length by omega]
   rw [zP (by omega),Av (by omega)];rfl
  ·by_cases h2:i<zs.length
   ·rw [if_neg (by simp;omega),if_pos (by simp;omega)]
    have h3:(cur.toList.take zs.length)[i]? = (zs.map (Value.int .i64))[i]? := by rw [ht]
    rw [List.getElem?_take,if_pos h2,Array.getElem?_toList,hi,jU,Av h2] at h3
    simp only [Option.map_some,Option.some.injEq] at h3
    rw [h3]
    congr 2
    simp;rw [zO (by omega),List.getElem?_drop,hy,show k+(i-k)=i by omega,Av h2];rfl
   ·rw [if_neg (by simp;omega),if_neg (by simp;omega)]
theorem bVv(l:List Int)(k:Nat)(hk:k≤l.length)(hl:l.length≤1000):FMM Tp 161 [.arr 0 0 k] [some (gX l)] (.tup []) [some (gX ((l.take k).mergeSort KC.leB++l.drop k))]:=fun C w us hus hM n=>by
 obtain ⟨u,rfl,hu⟩:=sR hus;have hlen:((l.take k).mergeSort KC.leB++l.drop k).length=l.length:=by rw [jT,bRa,jV,bHq];omega
 have zero:k=0→∀ p cap,u = .slice p 0 cap→CallsIn Fence.wide n Tp 161 #[u] w (fun e w'=>∃ u,e = .returned u∧∃ C',Fr C [some (gX l)] w C' [some (gX ((l.take k).mergeSort KC.leB++l.drop k))] w'∧aO Tp C' [some (gX ((l.take k).mergeSort KC.leB++l.drop k))] w'∧Rep C' [some (gX ((l.take k).mergeSort KC.leB++l.drop k))] w' (.tup []) u):=fun h0 p cap e=>by
  subst h0 e;refine (callsIn_wide.2 (Tryz.slices_Sort_int_none p cap w)).mono ?_;rintro e w' ⟨rfl,rfl⟩;have el:(l.take 0).mergeSort KC.leB++l.drop 0=l:=by simp
  rw [el];exact ⟨_,rfl,C,⟨rfl,rfl,rfl,dG _,fun _ _ _=>rfl,fun _ o h=>⟨⟨o,h⟩,rfl,rfl⟩,fun _ _ _ _ _ cs h=>⟨cs,h⟩,fun _ o h o' h' hl=>by rw [h] at h';cases h';exact hl,fun i o b h hl hb => .inr ⟨i,o,h,hl,hb⟩,fun _ h=>h,fun _ h => .inl h⟩,hM,.tup [] #[] rfl (fun i h=>by simp at h)⟩
 cases hu with
 | arr _ _ _ _ h0 ha hr =>
  rcases hr _ rfl rfl with ⟨h1,p,cap,h2,_⟩ | ⟨b,cap,h1,_,_,h2⟩
  ·exact zero h1 p cap h2
  ·rcases hM.row 0 _ _ _ rfl with ⟨F3,_⟩ | ⟨b',arr,inf,Ar,q1,q2,q3,q4,q5,q6,q7,q8⟩
   ·rw [h2] at F3;cases F3
   ·rw [h2] at Ar;cases Ar
    subst h1;obtain ⟨i,hi,hs⟩:=Ij;rw [hi] at q2;cases q2
    have hO:Rep C [some (gX l)] w (.own 0) (.slice (some ⟨b,0,none⟩) l.length (C.κ 0)) := .own 0 _ rfl ⟨_,rfl⟩ fun ty m cs hx=>by cases hx;exact .inr ⟨b,rfl,h2⟩
    have hown:KL.OwnI w 0 _ l:=aOj hM rfl hO;have ht:arr.toList.take l.length=l.map (Value.int .i64):=aSw (by rw [q3,hs];omega) q7
    have htk:arr.toList.take (l.take k).length=(l.take k).map (Value.int .i64):=by
     rw [jV,Nat.min_eq_left hk,List.map_take,← ht,List.take_take,Nat.min_eq_left hk]
    have hkl:(l.take k).length=k:=by rw [jV];omega
    have hblk:=lt_of_block q1;have S:=Tryz.slices_Sort_int b 0 cap (l.take k) w (holds_of_blockI q1 htk) hblk (by omega)
    rw [hkl] at S
    refine (callsIn_wide.2 S).mono ?_;rintro e w' ⟨rfl,m,os,rfl⟩;have hms:((l.take k).mergeSort fun x y=>decide (x≤y)).length=k:=by rw [bRa];exact hkl
    have Xh:KL.OwnI (grow (putRow (Value.int .i64) (Sort.ahead w m) b 0 ((l.take k).mergeSort fun x y=>decide (x≤y)).toArray) os) 0 (.slice (some ⟨b,0,none⟩) l.length (C.κ 0)) ((l.take k).mergeSort KC.leB++l.drop k):=by
     rw [cLc q1 ht hk hms];unfold KL.OwnI;rw [hlen];exact ownsRow_sortedI hlen (Nat.zero_le _) q1 q5 q6 (by rw [q3,hs])
    obtain ⟨C',f,m',_⟩:=uM (d:=false) hM hO Xh (grownBy_sortedI _) rfl (fun _=>⟨rfl,hlen⟩)
    exact ⟨_,rfl,C',f,m',.tup [] #[] rfl (fun i h=>by simp at h)⟩
end CU
end KV
end Go.Proofs
end
section
namespace Go.Proofs
open KC
namespace KV
open Tryz
variable {a b Lh Me:Int}{L l o r3:List Int}{i s:Nat}
namespace CU
noncomputable abbrev aOw:Code:=sub (cd Tryz.f118) [1,1,0,1,0,0]
noncomputable abbrev bAv:Code:=sub (cd Tryz.f140) [1,1,0,0,0]
abbrev cKi(c:KC.Cup)(s:Nat)(a b:Int)(l r:List Int):Prop:=FMM Tp 186 [.own 0,.p (aA a),.p (aA b),(.fn 173 [] [(.ptr 1 0),(.ptr 2 0)])] [some (.row 3 l.length (l.map aA)),some (.box 98 [(pI c.sk),(pI c.ra),(pI c.be),(.p (aE c.pts)),(.p (aV c.done))]),some (.box 3 [(pI (s:Int))])] (.tup []) [some (.row 3 r.length (r.map aA)),some (.box 98 [(pI c.sk),(pI c.ra),(pI c.be),(.p (aE c.pts)),(.p (aV c.done))]),some (.box 3 [(pI (s:Int))])]
def aAl(c:KC.Cup)(s:Nat)(l:List Int)(a b:Int)(Ln:Nat)(Lc:List PV):St:=⟨fr 63 [(0,(.own 0)),(1,(pI (l.length:Int))),(2,(.fn 173 [] [(.ptr 1 0),(.ptr 2 0)])),(6,(pI 20)),(7,(pI a)),(8,(pI b))],(aa c s Ln Lc)⟩
def aOx(c:KC.Cup)(s:Nat)(l:List Int)(Lh Me:Int)(r3:List Int):St:=⟨fr 63 [(0,(.own 0)),(1,(pI (l.length:Int))),(2,(.fn 173 [] [(.ptr 1 0),(.ptr 2 0)])),(6,(pI 20)),(7,(pI Lh)),(8,(pI Me))],[some (.row 3 r3.length (r3.map aA)),some (.box 98 [(pI c.sk),(pI c.ra),(pI c.be),(.p (aE c.pts)),(.p (aV c.done))]),some (.box 3 [(pI (s:Int))])]⟩
theorem bVo{c:KC.Cup}{L'2:List Int}(hl0:aF Tp 3 bAv (aAl c s l 0 20 l.length (l.map aA)) (.exit 0) (aAl c s l Lh Me L'2.length (L'2.map aA)))(h1:cKi c s Lh (l.length:Int) L'2 r3)(hl2:aF Tp 3 (sub (cd Tryz.f140) de) (aOx c s l Lh Me r3) (.exit 2) (aOx c s l Lh Me r3)):FMM Tp 140 [(.own 0),(pI (l.length:Int)),(.fn 173 [] [(.ptr 1 0),(.ptr 2 0)])] [some (.row 3 l.length (l.map aA)),some (.box 98 [(pI c.sk),(pI c.ra),(pI c.be),(.p (aE c.pts)),(.p (aV c.done))]),some (.box 3 [(pI (s:Int))])] (.tup []) [some (.row 3 r3.length (r3.map aA)),some (.box 98 [(pI c.sk),(pI c.ra),(pI c.be),(.p (aE c.pts)),(.p (aV c.done))]),some (.box 3 [(pI (s:Int))])]:=have k1:=mq [0,1,2] 3 h1;FMM.fi 3 gE func140 [hl0.k 6 (gZ az),k1.o,hl2.k 1 (gZ dp)] (gc hl2.code (gc k1 (gc hl0.code gn)))
theorem bOe{c:KC.Cup}{Ei:List Int}{b':Int}{L':List Int}(h0:b≤(l.length:Int))(h1:cKi c s a b L Ei)(h2:inR (b+20))(Xg:b'=(b+20))(Dx:L'.length=Ei.length)(Dy:L'.map aA=(Ei.map aA)):aB Tp 3 bAv (aAl c s l a b L.length (L.map aA)) .normal (aAl c s l b b' L'.length (L'.map aA)):=by
 subst Xg;have k1:=mq [0,1,2] 3 h1;rw [Dx,Dy];exact aB.fi (gZ az) [bT,k1.o] (gc h2 (gc k1 (gc (aCh h0) gn)))
theorem aLb{c:KC.Cup}(h0:(l.length:Int)<b):aB Tp 3 bAv (aAl c s l a b L.length (L.map aA)) (.exit 0) (aAl c s l a b L.length (L.map aA)):=aB.fi (gZ az) [bF] (gc (kT h0) gn)
theorem aLc{c:KC.Cup}(h0:(l.length:Int)≤20):aB Tp 3 (sub (cd Tryz.f140) de) (aOx c s l Lh Me r3) (.exit 2) (aOx c s l Lh Me r3):=aB.fi (gZ dp) [bF] (gc (aQ h0) gn)
theorem cKj(c:KC.Cup)(s:Nat)(l:List Int)(hV:KC.Valid c)(hs:(s:Int)<c.sk)(hn:l.length≤20)(hk:∀ y∈l,yW c y):FMM Tp 140 [.own 0,.p (aA (l.length:Int)),(.fn 173 [] [(.ptr 1 0),(.ptr 2 0)])] [some (.row 3 l.length (l.map aA)),some (.box 98 [(pI c.sk),(pI c.ra),(pI c.be),(.p (aE c.pts)),(.p (aV c.done))]),some (.box 3 [(pI (s:Int))])] (.tup []) [some (.row 3 ((KC.isort (ltS c s) l).length) ((KC.isort (ltS c s) l).map aA)),some (.box 98 [(pI c.sk),(pI c.ra),(pI c.be),(.p (aE c.pts)),(.p (aV c.done))]),some (.box 3 [(pI (s:Int))])]:=by
 have h1:=cKp c s l hV hs (by omega) hk
 have hl:=KC.isort_length (ltS c s) l
 by_cases h:l.length<20
 ·exact bVo (.exit (aLb (by omega)) (by simp)) h1 (.exit (aLc (by omega)) (by simp))
 ·have e:(l.length:Int)=20:=by omega
  have h2:=cKq c s (KC.isort (ltS c s) l) (by omega)
  rw [show ((KC.isort (ltS c s) l).length:Int)=(l.length:Int) by omega] at h2
  refine bVo (Lh:=20) (Me:=40) (L'2:=KC.isort (ltS c s) l) (.step (bOe (b':=40) (L':=KC.isort (ltS c s) l) (by omega) (by rw [e] at h1;exact h1) (by show _∧_;omega) rfl rfl rfl) (.exit (aLb (by omega)) (by simp))) (by
   have h3:cKi c s (l.length:Int) (l.length:Int) (KC.isort (ltS c s) l) (KC.isort (ltS c s) l):=h2;rw [e] at h3 ⊢
   exact h3) (.exit (aLc (by omega)) (by simp))
theorem cKk{c:KC.Cup}(h0:KC.Valid c)(h1:(s:Int)<c.sk)(h2:l.length≤20)(h3:∀ y∈l,yW c y):FMM Tp 73 [(.own 0),(.fn 173 [] [(.ptr 1 0),(.ptr 2 0)])] [some (.row 3 l.length (l.map aA)),some (.box 98 [(pI c.sk),(pI c.ra),(pI c.be),(.p (aE c.pts)),(.p (aV c.done))]),some (.box 3 [(pI (s:Int))])] (.tup []) [some (.row 3 ((KC.isort (ltS c s) l).length) ((KC.isort (ltS c s) l).map aA)),some (.box 98 [(pI c.sk),(pI c.ra),(pI c.be),(.p (aE c.pts)),(.p (aV c.done))]),some (.box 3 [(pI (s:Int))])]:=have k1:=mq [0,1,2] 3 (cKj c s l h0 h1 h2 h3);FMM.fi 3 gE func73 [k1.o] (gc k1 gn)
theorem cKl(c:KC.Cup)(s:Nat)(l:List Int)(hV:KC.Valid c)(hs:(s:Int)<c.sk)(hn:l.length≤20)(hk:∀ y∈l,yW c y):FMM Tp 73 [.own 0,(.fn 173 [] [(.ptr 1 0),(.ptr 2 0)])] [some (.row 3 l.length (l.map aA)),some (.box 98 [(pI c.sk),(pI c.ra),(pI c.be),(.p (aE c.pts)),(.p (aV c.done))]),some (.box 3 [(pI (s:Int))])] (.tup []) [some (.row 3 ((KC.isort (ltS c s) l).length) ((KC.isort (ltS c s) l).map aA)),some (.box 98 [(pI c.sk),(pI c.ra),(pI c.be),(.p (aE c.pts)),(.p (aV c.done))]),some (.box 3 [(pI (s:Int))])]:=cKk hV hs hn hk
def cnt_S0(c:KC.Cup)(s i on:Nat)(oc:List PV):St:=⟨fr 33 [(2,(.ptr 0 0)),(3,(.ptr 1 0)),(4,(.p cR)),(5,(.own 2)),(10,(pI (c.done.length:Int))),(11,(pI (i:Int)))],[some (.box 98 [(pI c.sk),(pI c.ra),(pI c.be),(.p (aE c.pts)),(.p (aV c.done))]),some (.box 3 [(pI (s:Int))]),some (.row 3 on oc)]⟩
theorem cnt_p0{c:KC.Cup}{Aw:Nat}{A5:List Int}{I6:Nat}{Fa:List PV}(hl0:aF Tp 0 aOw (cnt_S0 c s 0 0 []) (.exit 0) (cnt_S0 c s Aw A5.length (A5.map aA)))(h1:KC.Valid c)(h2:(s:Int)<c.sk)(h3:A5.length≤20)(h4:∀ y∈A5,yW c y)(h5:0≤(0:Int)∧(0:Int)≤(if c.be<((KC.isort (ltS c s) A5).length:Int) then c.be else ((KC.isort (ltS c s) A5).length:Int))∧(if c.be<((KC.isort (ltS c s) A5).length:Int) then c.be else ((KC.isort (ltS c s) A5).length:Int))≤((KC.isort (ltS c s) A5).length:Int))(h6:(if c.be<((KC.isort (ltS c s) A5).length:Int) then c.be else ((KC.isort (ltS c s) A5).length:Int)).toNat≤(KC.isort (ltS c s) A5).length)(h7:(KC.isort (ltS c s) A5).length≤1000)(H3:I6=(if c.be<((KC.isort (ltS c s) A5).length:Int) then c.be else ((KC.isort (ltS c s) A5).length:Int)).toNat)(El:Fa=((((((KC.isort (ltS c s) A5).take ((if c.be<((KC.isort (ltS c s) A5).length:Int) then c.be else ((KC.isort (ltS c s) A5).length:Int)).toNat)).mergeSort KC.leB++(KC.isort (ltS c s) A5).drop ((if c.be<((KC.isort (ltS c s) A5).length:Int) then c.be else ((KC.isort (ltS c s) A5).length:Int)).toNat)).map aA).drop 0).take ((if c.be<((KC.isort (ltS c s) A5).length:Int) then c.be else ((KC.isort (ltS c s) A5).length:Int)).toNat*(((((KC.isort (ltS c s) A5).take ((if c.be<((KC.isort (ltS c s) A5).length:Int) then c.be else ((KC.isort (ltS c s) A5).length:Int)).toNat)).mergeSort KC.leB++(KC.isort (ltS c s) A5).drop ((if c.be<((KC.isort (ltS c s) A5).length:Int) then c.be else ((KC.isort (ltS c s) A5).length:Int)).toNat)).map aA).length / ((((KC.isort (ltS c s) A5).take ((if c.be<((KC.isort (ltS c s) A5).length:Int) then c.be else ((KC.isort (ltS c s) A5).length:Int)).toNat)).mergeSort KC.leB++(KC.isort (ltS c s) A5).drop ((if c.be<((KC.isort (ltS c s) A5).length:Int) then c.be else ((KC.isort (ltS c s) A5).length:Int)).toNat)).length))))){base:Nat}:FV Tp 118 [(.p (bU c)),(pI (s:Int))] base (.p (.sl I6 Fa)) []:=by
 subst H3 El;have k1:=mq [2,0,1] 3 (cKl c s A5 h1 h2 h3 h4);have k2:=mq [2] 3 (bVv (KC.isort (ltS c s) A5) ((if c.be<((KC.isort (ltS c s) A5).length:Int) then c.be else ((KC.isort (ltS c s) A5).length:Int)).toNat) h6 h7);exact FV.frz (FMM.fi 0 ⟨[],[],[2],[]⟩ func118 [hl0.k 8 (gN bi [0,1,2] [(5,3)]),k1.o,k2.o] (gc k2 (gc h5 (gc k1 (gc hl0.code gn))))) (by kernel_rfl)
theorem cnt_L0_p0{c:KC.Cup}{i':Nat}{o':List Int}(h0:(i:Int)<(c.done.length:Int))(h1:[(aA (i:Int))].length=1*1∧o.length+1≤1000000)(h2:dv i)(Ak:i'=(i+1))(A6:o'.length=(o.length+1))(A7:o'.map aA=((o.map aA)++[(aA (i:Int))])):aB Tp 0 aOw (cnt_S0 c s i o.length (o.map aA)) .normal (cnt_S0 c s i' o'.length (o'.map aA)):=by
 subst Ak;rw [A6,A7];exact aB.fi (gI bi [0,1,4]) [bT] (gc h2 (gc h1 (g0 h0)))
theorem cnt_L0_p1{c:KC.Cup}(h0:(c.done.length:Int)≤(i:Int)):aB Tp 0 aOw (cnt_S0 c s i o.length (o.map aA)) (.exit 0) (cnt_S0 c s i o.length (o.map aA)):=aB.fi (gI bi [0,1,2]) [bF] (gc (aQ h0) gn)
theorem bAw(c:KC.Cup)(hV:KC.Valid c)(s:Nat)(hs:(s:Int)<c.sk){base:Nat}:FV Tp 118 [.p (bU c),.p (aA (s:Int))] base (.p (aE (KC.countedL c s))) []:=by
 have hd:=hV.dn;have Ep:=hV.ra2;have B5:=hV.be1;have hL:=aF.times (P:=Tp) (k:=0) (b:=aOw) (e := .exit 0) (fun i (o:List Int)=>cnt_S0 c s i o.length (o.map aA)) (fun o=>cnt_S0 c s c.done.length o.length (o.map aA)) (fun o (i:Nat)=>o++[(i:Int)]) (fun i o=>o=KC.idx i) (by simp) c.done.length (a0:=[]) rfl
  (fun i o hi ho=>by
   have hol:o.length=i:=by rw [ho,KC.idx_length]
   exact ⟨by rw [ho,KC.idx_succ],cnt_L0_p0 (o':=o++[(i:Int)]) (by omega) ⟨rfl,by omega⟩ (aI (by omega)) rfl (by simp) (by simp)⟩)
  (fun o _=>cnt_L0_p1 (by omega))
 have e:∀ n:Nat,(List.range n).foldl (fun (o:List Int) (i:Nat)=>o++[(i:Int)]) []=KC.idx n:=by
  intro n
  induction n with
  | zero=>rfl
  | succ n ih=>rw [List.range_succ,xX,ih,KC.idx_succ];rfl
 rw [e] at hL
 have hS:(KC.isort (ltS c s) (KC.idx c.done.length)).length=c.done.length:=by rw [KC.isort_length,KC.idx_length]
 have hk:(if c.be<((KC.isort (ltS c s) (KC.idx c.done.length)).length:Int) then c.be else ((KC.isort (ltS c s) (KC.idx c.done.length)).length:Int)).toNat=min c.done.length c.be.toNat:=by
  rw [hS];split <;> omega
 have hcl:(KC.countedL c s).length=min c.done.length c.be.toNat:=by
  unfold KC.countedL;rw [bRa,jV];have:(KC.isort (KC.ltC (KC.cntCmp c s)) (KC.idx c.done.length)).length=c.done.length:=hS;omega
 refine cnt_p0 hL hV hs (by rw [KC.idx_length];omega) (fun y hy => ?_) ⟨by omega,by rw [hS];split <;> omega,by rw [hS];split <;> omega⟩ (by rw [hk,hS];omega) (by rw [hS];omega) (by rw [hk,hcl]) ?_
 ·obtain ⟨k,rfl,h⟩:=KC.idx_mem hy
  exact ⟨by omega,by omega⟩
 ·rw [hk]
  have hT:((KC.isort (ltS c s) (KC.idx c.done.length)).take (min c.done.length c.be.toNat)).mergeSort KC.leB=KC.countedL c s:=rfl;rw [hT,List.drop_zero,B9];have hl:(KC.countedL c s++(KC.isort (ltS c s) (KC.idx c.done.length)).drop (min c.done.length c.be.toNat)).length=c.done.length:=by rw [jT,hcl,bHq,hS];omega
  rw [hl]
  rcases Nat.eq_zero_or_pos c.done.length with h0 | h0
  ·have:KC.countedL c s=[]:=uS (by rw [hcl];omega)
   rw [this,h0];simp
  ·rw [Nat.div_self h0,Nat.mul_one,iV,List.take_append_of_le_length (by rw [B9,hcl];omega),List.take_of_length_le (by rw [B9,hcl];omega)]
end CU
end KV
end Go.Proofs
end
section
namespace Go.Proofs
open KC
namespace KV
open Tryz
variable {Bj:Int}{F G B4:List Int}{i j s j':Nat}
namespace CU
noncomputable abbrev aGr:Code:=sub (cd Tryz.f58) [1,1,1,0,1,0,0]
noncomputable abbrev aOv:Code:=sub (cd Tryz.f58) [1,1,0,1,0,0]
def tM(c:KC.Cup)(s i:Nat)(Fc:List PV):St:=⟨fr 59 [(1,(pI (s:Int))),(2,(.ptr 0 0)),(4,(.ptr 1 0)),(5,(.ptr 2 0)),(12,(.p (aE (KC.countedL c s)))),(13,(pI ((KC.countedL c s).length:Int))),(14,(pI (i:Int)))],[some (.box 98 [(pI c.sk),(pI c.ra),(pI c.be),(.p (aE c.pts)),(.p (aV c.done))]),some (.row 125 1 [(aA 0),(aA 0),(aA 0),(aA 0),(aA 0),(aA 0),(aA 0),(aA 0),(aA 0),(aA 0),(aA 0),(aA 0),(aA 0),(aA 0),(aA 0),(aA 0),(aA 0),(aA 0),(aA 0),(aA 0),(aA 0),(aA 0),(aA 0),(aA 0),(aA 0),(aA 0),(aA 0),(aA 0),(aA 0),(aA 0),(aA 0),(aA 0),(aA 0),(aA 0),(aA 0),(aA 0),(aA 0),(aA 0),(aA 0),(aA 0),(aA 0),(aA 0),(aA 0),(aA 0),(aA 0),(aA 0),(aA 0),(aA 0),(aA 0),(aA 0),(aA 0),(aA 0),(aA 0),(aA 0),(aA 0),(aA 0),(aA 0),(aA 0),(aA 0),(aA 0),(aA 0),(aA 0)]),some (.row 125 1 Fc)]⟩
def oU(c:KC.Cup)(s j:Nat)(Gc:List PV):St:=⟨fr 59 [(1,(pI (s:Int))),(4,(.ptr 0 0)),(5,(.ptr 1 0)),(36,(.p (aV c.done))),(37,(pI (c.done.length:Int))),(38,(pI (j:Int)))],[some (.row 125 1 [(aA 0),(aA 0),(aA 0),(aA 0),(aA 0),(aA 0),(aA 0),(aA 0),(aA 0),(aA 0),(aA 0),(aA 0),(aA 0),(aA 0),(aA 0),(aA 0),(aA 0),(aA 0),(aA 0),(aA 0),(aA 0),(aA 0),(aA 0),(aA 0),(aA 0),(aA 0),(aA 0),(aA 0),(aA 0),(aA 0),(aA 0),(aA 0),(aA 0),(aA 0),(aA 0),(aA 0),(aA 0),(aA 0),(aA 0),(aA 0),(aA 0),(aA 0),(aA 0),(aA 0),(aA 0),(aA 0),(aA 0),(aA 0),(aA 0),(aA 0),(aA 0),(aA 0),(aA 0),(aA 0),(aA 0),(aA 0),(aA 0),(aA 0),(aA 0),(aA 0),(aA 0),(aA 0)]),some (.row 125 1 Gc)]⟩
theorem cKh{c:KC.Cup}{Aw:Nat}{F'1:List Int}{Qw:Nat}{G'3:List Int}(h0:KC.Valid c)(h1:((s:Nat):Int)<c.sk)(hl2:aF Tp 0 aOv (tM c s 0 [(aA 0),(aA 0),(aA 0),(aA 0),(aA 0),(aA 0),(aA 0),(aA 0),(aA 0),(aA 0),(aA 0),(aA 0),(aA 0),(aA 0),(aA 0),(aA 0),(aA 0),(aA 0),(aA 0),(aA 0),(aA 0),(aA 0),(aA 0),(aA 0),(aA 0),(aA 0),(aA 0),(aA 0),(aA 0),(aA 0),(aA 0),(aA 0),(aA 0),(aA 0),(aA 0),(aA 0),(aA 0),(aA 0),(aA 0),(aA 0),(aA 0),(aA 0),(aA 0),(aA 0),(aA 0),(aA 0),(aA 0),(aA 0),(aA 0),(aA 0),(aA 0),(aA 0),(aA 0),(aA 0),(aA 0),(aA 0),(aA 0),(aA 0),(aA 0),(aA 0),(aA 0),(aA 0)]) (.exit 0) (tM c s Aw (F'1.map aA)))(B6:aF Tp 0 aGr (oU c s 0 (F'1.map aA)) (.exit 2) (oU c s Qw (G'3.map aA)))(h4:G'3.length=62)(h5:(G'3.map aA).length=62){base:Nat}:FV Tp 58 [(.p (bU c)),(pI (s:Int))] base (.p (.agg (G'3.map aA))) []:=have k1:=fk 3 (bAw c h0 s h1) rfl;FV.fi func58 [k1.o,hl2.k 1 (gI bj [0,1,2]),B6.k 4 (gI c7 [1,2]),.x (.agg (G'3.map aA)),.x (.agg (G'3.map aA))] (gt (some (.agg ((((G'3.map aA)++[]).drop 0).take 62):PV)=some (.agg (G'3.map aA))) (by rw [List.append_nil,List.drop_zero,List.take_of_length_le (by rw [B9,h4];exact dG _)]) (gt (0+62≤((G'3.map aA)++[]).length) (by rw [List.append_nil,B9,h4];exact dG _) (gt ((G'3.map aA).length=62∧0+62≤[(aA 0),(aA 0),(aA 0),(aA 0),(aA 0),(aA 0),(aA 0),(aA 0),(aA 0),(aA 0),(aA 0),(aA 0),(aA 0),(aA 0),(aA 0),(aA 0),(aA 0),(aA 0),(aA 0),(aA 0),(aA 0),(aA 0),(aA 0),(aA 0),(aA 0),(aA 0),(aA 0),(aA 0),(aA 0),(aA 0),(aA 0),(aA 0),(aA 0),(aA 0),(aA 0),(aA 0),(aA 0),(aA 0),(aA 0),(aA 0),(aA 0),(aA 0),(aA 0),(aA 0),(aA 0),(aA 0),(aA 0),(aA 0),(aA 0),(aA 0),(aA 0),(aA 0),(aA 0),(aA 0),(aA 0),(aA 0),(aA 0),(aA 0),(aA 0),(aA 0),(aA 0),(aA 0)].length) ⟨h5,by first | decide | simp⟩ (gt (some (.agg (((G'3.map aA).drop 0).take 62):PV)=some (.agg (G'3.map aA))) (by rw [List.drop_zero,List.take_of_length_le (by rw [B9,h4];exact dG _)]) (gt (0+62≤(G'3.map aA).length) (by rw [B9,h4];exact dG _) (gc B6.code (gc hl2.code (gc k1 gn))))))))
theorem bNz{c:KC.Cup}{Ad Au:Int}{Ci:List Int}{i':Nat}{F':List Int}(h0:(i:Int)<((KC.countedL c s).length:Int))(h1:(KC.countedL c s)[i]? = some Ad)(h2:F[0]? = some Au)(h3:c.done[Ad.toNat]? = some Ci)(h4:0≤Ad)(h5:KC.Valid c)(h6:Ci.length≤1000)(h7:∀ x∈Ci,0≤x∧x≤60)(h8:s<Ci.length)(h9:small ([Au,(KC.scoreM c.pts Ci s)]:List Int).length)(A0:∀ k,inR (([Au,(KC.scoreM c.pts Ci s)]:List Int).take k).sum)(Bu:0<(F.map aA).length)(Bh:dv i)(Ak:i'=(i+1))(Tm:F'.map aA=((F.map aA).set 0 (aA (([Au,(KC.scoreM c.pts Ci s)]:List Int).sum)))):aB Tp 0 aOv (tM c s i (F.map aA)) .normal (tM c s i' (F'.map aA)):=by
 subst Ak;have k1:=fk 3 (aAn c h5 Ci h6 h7 s h8) rfl;rw [Tm];exact aB.fi (gI bj [0,1,2]) [bT,.x (aA Ad),.x (aA Au),.x (aE Ci),k1.o,.c (pI (([Au,(KC.scoreM c.pts Ci s)]:List Int).sum)) []] (gc Bh (gc Bu (gt (FC Tp 119 [(.own 11)] [(11,(.row 3 2 [(aA Au),(aA (KC.scoreM c.pts Ci s))]))] 12 (pI (([Au,(KC.scoreM c.pts Ci s)]:List Int).sum)) []) (fv (bVt ([Au,(KC.scoreM c.pts Ci s)]:List Int) h9 A0)) (gc k1 (gt ((c.done.map aE)[(Ad.toNat*1)]? = some (aE Ci)) (dF (i:=Ad.toNat) h3) (gc (jE (g:=aE) h4 h3) (gt ((F.map aA)[0]? = some (aA Au)) (dF (i:=0) h2) (gc (atm aA h1) (gc (ixn aA h1) (g0 h0))))))))))
theorem bOa{c:KC.Cup}(h0:((KC.countedL c s).length:Int)≤(i:Int)):aB Tp 0 aOv (tM c s i (F.map aA)) (.exit 0) (tM c s i (F.map aA)):=aB.fi (gI bj [0,1,2]) [bF] (gc (aQ h0) gn)
section
variable{c:KC.Cup}(h0:(j:Int)<(c.done.length:Int))(h1:c.done[j]? = some B4)(h2:B4[s]? = some Bj)
include h0 h1 h2
theorem bOb{I0:Int}{G':List Int}(h3:(0:Int)<Bj)(h4:0≤Bj∧Bj<61)(h5:G[(1+(Bj.toNat*1))]? = some I0)(h6:inR (I0+1))(h7:(1+(Bj.toNat*1))<(G.map aA).length)(h8:dv j)(Du:j'=(j+1))(Tn:G'.map aA=((G.map aA).set (1+(Bj.toNat*1)) (aA (I0+1)))):aB Tp 0 aGr (oU c s j (G.map aA)) .normal (oU c s j' (G'.map aA)):=by
 subst Du;rw [Tn];exact aB.fi (gI c7 [0,1]) [bT,.x (aE B4),.x (aA Bj),bT,.x (aA Bj),.x (aA I0)] (gc h8 (gc h7 (gc h4 (gc h6 (gt ((G.map aA)[(1+(Bj.toNat*1))]? = some (aA I0)) (by rw [jU,h5];rfl) (gc h4 (gc (atm aA h2) (gc (ixn aA h2) (gc (bG h3) (gc (atm aA h2) (gc (ixn aA h2) (gc (atm aE h1) (gc (ixn aE h1) (g0 h0))))))))))))))
theorem bOc(h3:Bj≤0)(h4:dv j)(Du:j'=(j+1)):aB Tp 0 aGr (oU c s j (G.map aA)) .normal (oU c s j' (G.map aA)):=by
 subst Du;exact aB.fi (gI c7 [0,1]) [bT,.x (aE B4),.x (aA Bj),bF] (gc h4 (gc (aQ h3) (gc (atm aA h2) (gc (ixn aA h2) (gc (atm aE h1) (gc (ixn aE h1) (g0 h0)))))))
end
theorem bOd{c:KC.Cup}(h0:(c.done.length:Int)≤(j:Int)):aB Tp 0 aGr (oU c s j (G.map aA)) (.exit 2) (oU c s j (G.map aA)):=aB.fi (gI c7 [0,1]) [bF] (gc (aQ h0) gn)
abbrev bFh(c:KC.Cup)(s:Nat):PV := .agg (aA (KC.totalM c s)::(KC.placesM c s).map aA)
theorem yV(c:KC.Cup)(hV:KC.Valid c)(s:Nat)(hs:(s:Int)<c.sk){base:Nat}:FV Tp 58 [.p (bU c),.p (aA (s:Int))] base (.p (bFh c s)) []:=by
 have hd:=hV.dn;have Ep:=hV.ra2;have hsk:=hV.sk2;have hcl:=KC.countedL_length c s;have L0:=aF.times (P:=Tp) (k:=0) (b:=aOv) (e := .exit 0) (fun i (F:List Int)=>tM c s i (F.map aA)) (fun F=>tM c s (KC.countedL c s).length (F.map aA)) (fun _ (i:Nat)=>KC.partTotal c s (i+1)::KC.zeros61) (fun i F=>F=KC.partTotal c s i::KC.zeros61) (by simp) (KC.countedL c s).length (a0:=KC.partTotal c s 0::KC.zeros61) rfl
  (fun i F hi hF=>by
   have hx:(KC.countedL c s)[i]? = some (KC.countedL c s)[i]:=Av hi;obtain ⟨k,J4,Er⟩:=KC.countedL_mem (fG hi);obtain ⟨r,hr⟩:∃ r,c.done[k]? = some r:=⟨_,Av Er⟩;have mr:=Bp hr;have lr:=hV.len _ mr;have e1:(KC.countedL c s)[i].toNat=k:=by rw [J4];omega
   have hsc:KC.scoreAt c (KC.countedL c s)[i].toNat s=KC.scoreM c.pts r s:=by
    unfold KC.scoreAt;rw [e1,Bw,hr];rfl
   have hb:=KC.partTotal_bd c hV s i;have hq:=KC.scoreM_bd c.pts r s hV.pts;have hp:=KC.partTotal_succ c s i hi;rw [hsc] at hp
   have hsum:([KC.partTotal c s i,KC.scoreM c.pts r s]:List Int).sum=KC.partTotal c s (i+1):=by rw [hp];simp
   refine ⟨rfl,?_⟩;subst hF;exact bNz (F':=KC.partTotal c s (i+1)::KC.zeros61) (by omega) hx rfl (by rw [e1];exact hr) (by omega) hV (by omega) (hV.rows _ mr) (by omega) (show (2:Nat)<1000000 by decide) (fun k=>by
    show _∧_
    match k with
    | 0=>simp
    | 1=>simp;omega
    | k+2=>simp;omega) (by simp) (aI (by omega)) rfl (by rw [hsum];rfl))
  (fun F _=>bOa (by omega))
 have e0:∀ n:Nat,(List.range n).foldl (fun (_:List Int) (i:Nat)=>KC.partTotal c s (i+1)::KC.zeros61) (KC.partTotal c s 0::KC.zeros61)=KC.partTotal c s n::KC.zeros61:=by
  intro n
  induction n with
  | zero=>rfl
  | succ n ih=>rw [List.range_succ,xX,ih];rfl
 rw [e0] at L0
 have L1:=aF.times (P:=Tp) (k:=0) (b:=aGr) (e := .exit 2) (fun j (G:List Int)=>oU c s j (G.map aA)) (fun G=>oU c s c.done.length (G.map aA)) (fun _ (j:Nat)=>KC.partTotal c s (KC.countedL c s).length::KC.placesUpTo c s (j+1)) (fun j G=>G=KC.partTotal c s (KC.countedL c s).length::KC.placesUpTo c s j) (by simp) c.done.length (a0:=KC.partTotal c s (KC.countedL c s).length::KC.placesUpTo c s 0) rfl
  (fun j G hj hG=>by
   have hr:c.done[j]? = some c.done[j]:=Av hj;have mr:=fG hj;have lr:=hV.len _ mr;have hsl:s<c.done[j].length:=by omega
   have hx:c.done[j][s]? = some c.done[j][s]:=Av hsl;have hg:c.done[j].getD s 0=c.done[j][s]:=by rw [Bw,hx];rfl
   have hb:=hV.rows _ mr _ (fG hsl);refine ⟨rfl,?_⟩;subst hG
   by_cases h0:c.done[j][s]≤0
   ·rw [KC.placesUpTo_none c s j hj (by rw [hg];omega)]
    exact bOc (by omega) hr hx h0 (aI (by omega)) rfl
   ·obtain ⟨p,hp⟩:∃ p:Nat,c.done[j][s]=(p:Int):=⟨c.done[j][s].toNat,by omega⟩
    have hpl:p<(KC.placesUpTo c s j).length:=by rw [KC.placesUpTo_length];omega
    have hbd:=KC.placesUpTo_bd c s j p hpl;have hsome:=KC.placesUpTo_some c s j p hj (by rw [hg,hp]) (by omega) (by omega) hpl
    have e1:1+(c.done[j][s].toNat*1)=p+1:=by omega
    refine bOb (I0:=(KC.placesUpTo c s j)[p]) (G':=KC.partTotal c s (KC.countedL c s).length::KC.placesUpTo c s (j+1)) (by omega) hr hx (by omega) (by omega) (by rw [e1];simp) (by show _∧_;omega) (by rw [e1];simp;omega) (aI (by omega)) rfl ?_
    rw [e1,hsome];simp [List.map_set])
  (fun G _=>bOd (by omega))
 have e1:∀ n:Nat,(List.range n).foldl (fun (_:List Int) (j:Nat)=>KC.partTotal c s (KC.countedL c s).length::KC.placesUpTo c s (j+1)) (KC.partTotal c s (KC.countedL c s).length::KC.placesUpTo c s 0)=KC.partTotal c s (KC.countedL c s).length::KC.placesUpTo c s n:=by
  intro n
  induction n with
  | zero=>rfl
  | succ n ih=>rw [List.range_succ,xX,ih];rfl
 rw [e1] at L1
 have et:KC.partTotal c s (KC.countedL c s).length=KC.totalM c s:=by unfold KC.partTotal KC.totalM;rw [List.take_length]
 rw [← KC.placesUpTo_zero c s] at L0
 rw [et] at L0 L1
 exact cKh hV hs L0 L1 (by rw [nM];unfold KC.placesUpTo;simp) (by rw [B9,nM];unfold KC.placesUpTo;simp)
end CU
end KV
end Go.Proofs
end
section
section
namespace Go.Proofs
open Go.RowKit
namespace KC
section
variable {P:Program}

structure aLf (w:World) where
 W:World
 h:Below w.heap.size w W

instance (w:World):Nonempty (aLf w):=⟨⟨w,Below.refl _ _⟩⟩

theorem rI{id:Nat}{Q:Exit→Act→World→Prop}{a:Act}{w:World}{l:List Oper}(hm:P.follows .mixedOrders=true)(hB:Region.lexB .any l.toArray=true)
  (h:wpQuiet P l.toArray (fun w'=>∃ z:aLf w,w'=z.W) (fun a'=>∀ w',(∃ z:aLf w,w'=z.W)→Q .normal a' w') l a):(Code.region id l.toArray true).wp P Q a w :=
 wp_region_quiet (C:=fun w'=>∃ z:aLf w,w'=z.W) hm hB ⟨⟨_,(Below.refl _ w).drew⟩,rfl⟩ (by simpa using h)

theorem aAo{w:World}{p:World→Prop}(h:∀ w2,Below w.heap.size w w2→p w2):∀ w',(∃ z:aLf w,w'=z.W)→p w':=by
 rintro _ ⟨z,rfl⟩;exact h z.W z.h

theorem rJ{w:World}{b o:Nat}{u:Value}(h:w.cell? ⟨b,o,none⟩=some u)(z:aLf w):z.W.cell? ⟨b,o,none⟩=some u :=
 (z.h.cell (p:=⟨b,o,none⟩) (World.block_lt_of_cell? w _ h)).trans h
end
end KC
end Go.Proofs

end

section
namespace Go.Proofs
open Go.RowKit
namespace KC

theorem hid{p:Prop}(h:p):Hid p:=h

theorem yX{a b:Bool}(h:a=b):Ending.returned (.bool a) = .returned (.bool b):=by rw [h]

def Ret(v:Value)(w:World)(e:Ending)(w':World):Prop:=e = .returned v∧Below w.heap.size w w'
theorem bcell{W w1:World}(hb:Below W.heap.size W w1):(∀ b o,b<W.heap.size→w1.cell? ⟨b,o,none⟩=W.cell? ⟨b,o,none⟩)∧(∀ b o,b<W.heap.size→w1.frozen? ⟨b,o,none⟩=W.frozen? ⟨b,o,none⟩) :=
 ⟨fun b o h=>hb.cell (p:=⟨b,o,none⟩) h,fun b o h=>hb.frozen (p:=⟨b,o,none⟩) h⟩

section
variable {P:Program} {ops:Array Oper} {rest:List Oper} {dst:Option Tmp} {ty:TypeId} {pos:String} {af:Array Edge} {a:Act} {w:World} {Q:Exit→Act→World→Prop}

end

end KC
end Go.Proofs

end

section
namespace Go.Proofs
open Go.RowKit
namespace KC

theorem Qj:(Tryz.prog.info? 3).map (fun i=>i.size)=some 1:=by kernel_rfl
end KC
end Go.Proofs

end

section
namespace Go.Proofs
open Go.RowKit
namespace KC
section
variable {P:Program} {ops:Array Oper} {rest:List Oper} {dst:Option Tmp} {ty:TypeId} {pos:String} {af:Array Edge} {a:Act} {w:World} {Q:Exit→Act→World→Prop}

theorem jS{t e:TypeId}{x:Operand}{g:Nat}{cs:Array Value}{d:TypeDesc}(hg:w.heap[g]? = some (.cells cs e (0,0)))
  (hu:P.underlying t=some d) (hd:(match d with | .struct _ | .array _ _=>true | _=>false)=true) (hi:(P.info? t).map (·.size)=some cs.size)
  (hx:a.eval x = .pointer (some ⟨g,0,none⟩))
  (h:wpList P ops Q rest (a.put dst (.agg cs)) w) :
  wpList P ops Q ({ dst:=dst,op := .load t x,type:=ty,pos:=pos,after:=af,guard:=none }::rest) a w :=
 wpList_load_row rfl t x rfl g hx e cs (0,0) d hg hu hd hi h

end
end KC
end Go.Proofs

end

section
namespace Go.Proofs
open Go.RowKit Go.Lib Go.Sort
namespace KC

def formC(t:Int)(pl:List Int):Array Value:=(Value.int .i64 t::pl.map (Value.int .i64)).toArray
theorem G3:(Tryz.prog.info? 125).map (·.size)=some 62:=by kernel_rfl

theorem wU(t:Int)(pl:List Int):(formC t pl).size=pl.length+1:=by simp [formC]
theorem aPb(t:Int)(pl:List Int):(formC t pl)[0]? = some (.int .i64 t):=by simp [formC]
theorem bFo(t:Int)(pl:List Int)(p:Nat)(h:p<pl.length):(formC t pl)[1+p]? = some (.int .i64 pl[p]):=by
 rw [Nat.add_comm];simp [formC,h]
end KC
end Go.Proofs

end

section
namespace Go.Proofs
open Go.RowKit Go.Lib Go.Sort
namespace KC

section
variable {P:Program}
theorem yY(w:World)(d e:Nat)(he:P.underlying e=some (.int .i64))(xs ys:List Int)(n:Nat)(hx:xs.length=n)(hy:ys.length=n) :
  ∀ is:List Nat,(∀ i∈is,i<n)→(Op.eqItems (d+1) e 1 (xs.map (Value.int .i64)).toArray (ys.map (Value.int .i64)).toArray is).run P w = .ok (is.all fun i=>xs.getD i 0 == ys.getD i 0) w
 | [],_=>by simp [Op.eqItems]
 | i::is,h=>by
  have hi:=h i (by simp)
  have ih:=yY w d e he xs ys n hx hy is (fun j hj=>h j (by simp [hj]))
  have px:(part e (xs.map (Value.int .i64)).toArray (i*1)).run P w = .ok (.int .i64 (xs.getD i 0)) w:=by
   simp [part,isAgg,run_underlying he,List.getD,List.getElem?_eq_getElem (show i<xs.length by omega)]
  have py:(part e (ys.map (Value.int .i64)).toArray (i*1)).run P w = .ok (.int .i64 (ys.getD i 0)) w:=by
   simp [part,isAgg,run_underlying he,List.getD,List.getElem?_eq_getElem (show i<ys.length by omega)]
  have pe:=run_equalIn_int (P:=P) w d e .i64 .i64 (xs.getD i 0) (ys.getD i 0) he;simp only [Op.eqItems,Sem.run_bind,px,py,pe,Result.andThen_ok,List.all_cons];cases hb:(xs.getD i 0 == ys.getD i 0)
  ·simp
  ·simp only [Bool.not_true,Bool.false_eq_true,if_false,Bool.true_and]
   exact ih

theorem aAp(w:World)(d:Nat){t e:TypeId}{n:Nat}{i:TypeInfo}(hu:P.underlying t=some (.array n e))(hi:P.info? e=some i)(hc:P.cellsOf e=1)(he:P.underlying e=some (.int .i64))(xs ys:List Int)(hx:xs.length=n)(hy:ys.length=n) :
  (Op.equalIn (d+2) t (.agg (xs.map (Value.int .i64)).toArray) (.agg (ys.map (Value.int .i64)).toArray)).run P w = .ok (decide (xs=ys)) w:=by
 rw [run_equalIn_array w (d+1) _ _ hu hi,hc,yY w d e he xs ys n hx hy _ (fun i hi=>List.mem_range.1 hi),← hx,vM xs ys (hx.trans hy.symm)]
end

theorem info3some:∃ i,Tryz.prog.info? 3=some i:=by
 have:=Qj;cases h:Tryz.prog.info? 3 with
 | none=>simp [h] at this
 | some i=>exact ⟨i,rfl⟩

theorem bVw:Tryz.prog.cellsOf 3=1:=by kernel_rfl

theorem aLg(w:World)(p1 p2:List Int)(h1:p1.length=61)(h2:p2.length=61)(d:Nat) :
  (Op.equalIn (d+2) 123 (.agg (p1.map (Value.int .i64)).toArray) (.agg (p2.map (Value.int .i64)).toArray)).run Tryz.prog w = .ok (decide (p1=p2)) w:=by
 obtain ⟨i,hi⟩:=info3some;exact aAp w d Tryz.underlying123 hi bVw Tryz.underlying3 p1 p2 h1 h2

theorem yZ(t:Int)(p:List Int)(h:p.length=61):(formC t p).extract 1 62=(p.map (Value.int .i64)).toArray:=by
 unfold formC;apply Array.ext';simp [List.take_of_length_le,h]

theorem Ut(w:World)(t:Int)(p:List Int):(part 3 (formC t p) 0).run Tryz.prog w = .ok (.int .i64 t) w:=by
 simp [part,isAgg,run_underlying Tryz.underlying3,aPb]
theorem Mg(w:World)(t:Int)(p:List Int)(hp:p.length=61):(part 123 (formC t p) 1).run Tryz.prog w = .ok (.agg (p.map (Value.int .i64)).toArray) w:=by
 simp only [part,Sem.run_bind,Tryz.isAgg123 w,Result.andThen_ok,if_true,Tryz.sizeOf123 w,Sem.run_pure];rw [yZ t p hp]

theorem bPb(w : World)(d : Nat)(t1 t2 : Int)(p1 p2 : List Int)(h1 : p1.length = 61)(h2 : p2.length = 61)(f g : Field)(Qq : f.name ≠ "_")(Kf : f.type = 3)(Xi : f.offset = 0)(Xj : g.name ≠ "_")(Hp : g.type = 123)(Xk : g.offset = 1) :
  (Op.eqFields (d+2) (formC t1 p1) (formC t2 p2) [f,g]).run Tryz.prog w = .ok (decide (t1=t2∧p1=p2)) w:=by
 have e1:(Op.equalIn (d+2) 3 (.int .i64 t1) (.int .i64 t2)).run Tryz.prog w = .ok (t1 == t2) w:=run_equalIn_int (P:=Tryz.prog) w (d+1) 3 .i64 .i64 t1 t2 Tryz.underlying3;have e2:=aLg w p1 p2 h1 h2 d;rw [Op.eqFields,if_pos Qq,Kf,Xi,Sem.run_bind,Ut,Result.andThen_ok,Sem.run_bind,Ut,Result.andThen_ok,Sem.run_bind,e1,Result.andThen_ok]
 by_cases ht:t1=t2
 ·subst ht
  rw [beq_self_eq_true,if_neg (by decide),Op.eqFields,if_pos Xj,Hp,Xk,Sem.run_bind,Mg w t1 p1 h1,Result.andThen_ok,Sem.run_bind,Mg w t1 p2 h2,Result.andThen_ok,Sem.run_bind,e2,Result.andThen_ok]
  by_cases hp:p1=p2
  ·rw [decide_eq_true hp,decide_eq_true (p:=t1=t1∧p1=p2) ⟨rfl,hp⟩,if_neg (by decide),Op.eqFields,Sem.run_pure]
  ·rw [decide_eq_false hp,decide_eq_false (fun h=>hp h.2),if_pos (by decide),Sem.run_pure]
 ·have hb:(t1 == t2)=false:=by simp [ht]
  rw [hb,decide_eq_false (fun h=>ht h.1),if_pos (by decide),Sem.run_pure]

theorem cCy(w:World)(d:Nat)(t1 t2:Int)(p1 p2:List Int)(h1:p1.length=61)(h2:p2.length=61) :
  (Op.equalIn (d+3) 125 (.agg (formC t1 p1)) (.agg (formC t2 p2))).run Tryz.prog w = .ok (decide (t1=t2∧p1=p2)) w:=by
 have hf:Tryz.prog.underlying 125=some (.struct (Tryz.prog.fieldsOf 125)):=by simp only [Program.fieldsOf,Tryz.underlying125]
 rw [run_equalIn_struct (P:=Tryz.prog) w (d+2) 125 _ _ hf Tryz.stoodInHeld125];simp only [Program.fieldsOf,Tryz.underlying125];exact bPb w d t1 t2 p1 p2 h1 h2 _ _ (by decide) rfl rfl (by decide) rfl rfl

section
variable {ops:Array Oper} {rest:List Oper} {dst:Option Tmp} {ty:TypeId} {pos:String} {af:Array Edge} {a:Act} {w:World} {Q:Exit→Act→World→Prop}
theorem wV{x y:Operand}{t1 t2:Int}{p1 p2:List Int}{t':TypeId}{b:Bool}(h1:p1.length=61)(h2:p2.length=61)(hb:decide (t1=t2∧p1=p2)=b)
  (hx:a.eval x = .agg (formC t1 p1)) (hy:a.eval y = .agg (formC t2 p2)) (h:wpList Tryz.prog ops Q rest (a.put dst (.bool b)) w) :
  wpList Tryz.prog ops Q ({ dst:=dst,op := .binOp .eql 125 x y t',type:=ty,pos:=pos,after:=af,guard:=none }::rest) a w:=by
 refine wpList_plain rfl fun K hK => ?_
 have hg:=run_eqGuard_agg (P:=Tryz.prog) w .eql 125 x y (formC t1 p1) (formC t2 p2) Tryz.eqGuardType125;have he:=run_eql_struct (P:=Tryz.prog) w 125 (formC t1 p1) (formC t2 p2);rw [cCy w 9997 t1 t2 p1 p2 h1 h2,hb] at he
 unfold Oper.wp;simp only [execOp,hx,hy,Sem.run_bind,hg,he,Result.andThen_ok];exact hK _ _ h

theorem rK{x y:Operand}{p1 p2:List Int}{t':TypeId}{b:Bool}(h1:p1.length=61)(h2:p2.length=61)(hb:decide (p1=p2)=b)
  (hx:a.eval x = .agg (p1.map (Value.int .i64)).toArray) (hy:a.eval y = .agg (p2.map (Value.int .i64)).toArray) (h:wpList Tryz.prog ops Q rest (a.put dst (.bool b)) w) :
  wpList Tryz.prog ops Q ({ dst:=dst,op := .binOp .eql 123 x y t',type:=ty,pos:=pos,after:=af,guard:=none }::rest) a w:=by
 refine wpList_plain rfl fun K hK => ?_
 have hg:=run_eqGuard_agg (P:=Tryz.prog) w .eql 123 x y (p1.map (Value.int .i64)).toArray (p2.map (Value.int .i64)).toArray Tryz.eqGuardType123;have he:=run_eql_struct (P:=Tryz.prog) w 123 (p1.map (Value.int .i64)).toArray (p2.map (Value.int .i64)).toArray;rw [aLg w p1 p2 h1 h2 9998,hb] at he
 unfold Oper.wp;simp only [execOp,hx,hy,Sem.run_bind,hg,he,Result.andThen_ok];exact hK _ _ h

theorem fM{x:Operand}{g:Nat}{t:Int}{p:List Int}{e:TypeId}(hg:w.heap[g]? = some (.cells (formC t p) e (0,0)))(hp:p.length=61)
  (hx:a.eval x = .pointer (some ⟨g,1,none⟩)) (h:wpList Tryz.prog ops Q rest (a.put dst (.agg (p.map (Value.int .i64)).toArray)) w) :
  wpList Tryz.prog ops Q ({ dst:=dst,op := .load 123 x,type:=ty,pos:=pos,after:=af,guard:=none }::rest) a w:=by
 have hr:=World.rangeAt_of_block hg 1 61;rw [show 1+61=62 from rfl,yZ t p hp] at hr
 refine wpList_load_mid rfl 123 x rfl g 1 hx _ _ hr Tryz.underlying123 rfl ?_ ?_
 ·simp only [List.length_map,hp];kernel_rfl
 ·simpa using h
end

set_option maxHeartbeats 2000000 in
set_option maxRecDepth 1000000 in
theorem better_any(t1 t2:Int)(p1 p2:List Int)(h1:p1.length=61)(h2:p2.length=61)(w:World) :
  Calls Tryz.prog 122 #[.agg (formC t1 p1),.agg (formC t2 p2)] w (Ret (.bool (betterF t1 t2 p1 p2)) w):=by
 have HW:=hid (((Below.refl w.heap.size w).alloc (Nat.le_refl _) (.cells (formC t1 p1) 125)).alloc (by simp) (.cells (formC t2 p2) 125))
 obtain ⟨W0,Il⟩:∃ W0,W0=(w.alloc (.cells (formC t1 p1) 125)).alloc (.cells (formC t2 p2) 125):=⟨_,rfl⟩;have g1:W0.heap[w.heap.size]? = some (.cells (formC t1 p1) 125 (0,0)):=by
  rw [Il,Go.heap_alloc_old _ _ (by simp)];exact heap_alloc_new w _
 have g2:W0.heap[w.heap.size+1]? = some (.cells (formC t2 p2) 125 (0,0)):=by
  rw [Il];have:=heap_alloc_new (w.alloc (.cells (formC t1 p1) 125)) (.cells (formC t2 p2) 125);simpa using this
 rw [← Il] at HW
 have HW0:=hid Il;have c1:W0.cell? ⟨w.heap.size,0,none⟩=some (.int .i64 t1):=by rw [cell_of_row _ _ _ _ _ _ g1,aPb]
 have c2:W0.cell? ⟨w.heap.size+1,0,none⟩=some (.int .i64 t2):=by rw [cell_of_row _ _ _ _ _ _ g2,aPb]
 have Uu:∀ i,i<61→W0.cell? ⟨w.heap.size,1+i,none⟩=some (.int .i64 (p1.getD i 0)):=fun i hi=>by rw [cell_of_row _ _ _ _ _ _ g1,bFo _ _ _ (by omega),bFm _ _ (by omega)]
 have Uv:∀ i,i<61→W0.cell? ⟨w.heap.size+1,1+i,none⟩=some (.int .i64 (p2.getD i 0)):=fun i hi=>by rw [cell_of_row _ _ _ _ _ _ g2,bFo _ _ _ (by omega),bFm _ _ (by omega)]
 have G1:=hid g1;have G2:=hid g2;have CP1:=hid Uu;have CP2:=hid Uv;have H1:=hid h1;have H2:=hid h2;have HS:=hid (show (Tryz.prog.info? 125).map (·.size)=some (formC t1 p1).size by rw [wU,h1];exact G3)
 have HS2:=hid (show (Tryz.prog.info? 125).map (·.size)=some (formC t2 p2).size by rw [wU,h2];exact G3)
 have L1:=hid (World.block_lt_of_cell? _ _ c1);clear Il g1 g2 Uu Uv h1 h2
 go_enter Tryz.func122,Tryz.ntmps122
 go_upto_region 1 with (fail)
 rw [← HW0.out]
 by_cases ht:t1=t2
 ·have htt:(t1 != t2)=false:=by simp [ht]
  by_cases hp:p1=p2
  ·have HE:=hid (show decide (t1=t2∧p1=p2)=true by simp [ht,hp])
   have HEP:=hid (show decide (p1=p2)=true by simp [hp])
   have hlt:¬ t2<t1:=by omega
   have HR:=hid (show betterF t1 t2 p1 p2=false by unfold betterF;rw [if_pos ht,hp];exact lexFrom_same _ _ _)
   clear ht hp htt
   go_wp2_with (first
    | ((with_reducible apply wV (h1:=H1.out) (h2:=H2.out) (hb:=HE.out));rfl;rfl)
    | ((with_reducible apply rK (h1:=H1.out) (h2:=H2.out) (hb:=HEP.out));rfl;rfl)
    | ((with_reducible apply fM (hg:=G1.out) (hp:=H1.out));rfl)
    | ((with_reducible apply fM (hg:=G2.out) (hp:=H2.out));rfl)
    | ((with_reducible apply jS (hg:=G1.out) (hu:=Tryz.underlying125) (hi:=HS.out));rfl;rfl)
    | ((with_reducible apply jS (hg:=G2.out) (hu:=Tryz.underlying125) (hi:=HS2.out));rfl;rfl))
   go_ret
   exact ⟨yX HR.out.symm,HW.out⟩
  ·have HE:=hid (show decide (t1=t2∧p1=p2)=false by simp [hp])
   have HEP:=hid (show decide (p1=p2)=false by simp [hp])
   have HR:=hid (show betterF t1 t2 p1 p2=lexFrom p1 p2 60 1 by unfold betterF;rw [if_pos ht])
   clear ht hp
   go_wp2_with (first
    | ((with_reducible apply wV (h1:=H1.out) (h2:=H2.out) (hb:=HE.out));rfl;rfl)
    | ((with_reducible apply rK (h1:=H1.out) (h2:=H2.out) (hb:=HEP.out));rfl;rfl)
    | ((with_reducible apply fM (hg:=G1.out) (hp:=H1.out));rfl)
    | ((with_reducible apply fM (hg:=G2.out) (hp:=H2.out));rfl)
    | ((with_reducible apply jS (hg:=G1.out) (hu:=Tryz.underlying125) (hi:=HS.out));rfl;rfl)
    | ((with_reducible apply jS (hg:=G2.out) (hu:=Tryz.underlying125) (hi:=HS2.out));rfl;rfl))
   go_loopw [5] (fun i wr=>∃ (k:Nat),1≤k∧k≤61∧i = .int .i64 k∧Below W0.heap.size W0 wr∧lexFrom p1 p2 60 1=lexFrom p1 p2 (61-k) k) (fun i _=>61-(intOf i).toNat)
   case atStart=>exact ⟨1,by omega,by omega,rfl,Below.refl _ _,rfl⟩
   case round =>
    clear c1 c2;obtain ⟨k,J4,Er,rfl,hB,hL⟩:=hrel;have HB:=hid hB;have HL:=hid hL;clear hL
    by_cases hlt:k≤60
    ·have d1:=((bcell hB).1 w.heap.size (1+k) (by have:=L1.out;exact this)).trans (CP1.out k (by omega))
     have d2:=((bcell hB).1 (w.heap.size+1) (1+k) (by have:=lt_of_block G2.out;exact this)).trans (CP2.out k (by omega))
     have HN:=hid (show lexFrom p1 p2 (61-k) k=if p1.getD k 0=p2.getD k 0 then lexFrom p1 p2 (61-(k+1)) (k+1) else decide (p2.getD k 0<p1.getD k 0) by rw [show 61-k=(61-(k+1))+1 by omega,lexFrom])
     obtain ⟨x,hx⟩:∃ x,x=p1.getD k 0:=⟨_,rfl⟩;obtain ⟨y,hy⟩:∃ y,y=p2.getD k 0:=⟨_,rfl⟩;rw [← hx] at d1 HN
     rw [← hy] at d2 HN
     have l1:=rJ d1;have l2:=rJ d2;have i61:(k:Int)<61:=by omega
     clear hx hy hB
     by_cases hxy:x=y
     ·have B5:(x != y)=false:=by simp [hxy]
      have HXY:=hid hxy;clear hxy
      go_wp2
      refine rI (by kernel_rfl) (by kernel_rfl) ?_
      repeat (go_big_quiet_step (fail))
      refine wpQuiet_nil (aAo fun w2 Dr => ?_)
      go_wp2
      go_roundw
      case rel=>exact ⟨k+1,by omega,by omega,by go_num,HB.out.trans (Dr.mono HB.out.size),by rw [HL.out,HN.out,if_pos HXY.out]⟩
      case measure=>simp [intOf];omega
     ·have B5:(x != y)=true:=by simp [hxy]
      have HXY:=hid hxy;clear hxy
      go_wp2
      refine rI (by kernel_rfl) (by kernel_rfl) ?_
      repeat (go_big_quiet_step (fail))
      refine wpQuiet_nil (aAo fun w2 Dr => ?_)
      have d3:=((bcell Dr).1 w.heap.size (1+k) (World.block_lt_of_cell? _ _ d1)).trans d1;have d4:=((bcell Dr).1 (w.heap.size+1) (1+k) (World.block_lt_of_cell? _ _ d2)).trans d2;have l3:=rJ d3;have l4:=rJ d4
      go_wp2
      refine rI (by kernel_rfl) (by kernel_rfl) ?_
      repeat (go_big_quiet_step (fail))
      refine wpQuiet_nil (aAo fun w3 N8 => ?_)
      go_wp2
      go_ret
      refine ⟨yX ?_,HW.out.trans ((HB.out.trans (Dr.mono HB.out.size)).trans (N8.mono (Nat.le_trans HB.out.size Dr.size)) |>.mono HW.out.size)⟩
      rw [HR.out,HL.out,HN.out,if_neg HXY.out]
    ·have hk:k=61:=by omega
     have HE2:=hid (show lexFrom p1 p2 60 1=false by rw [HL.out,hk];rfl)
     clear hk
     go_wp2
     go_ret
     exact ⟨yX (HR.out.trans HE2.out).symm,HW.out.trans (HB.out.mono HW.out.size)⟩
 ·have htt:(t1 != t2)=true:=by simp [ht]
  have HE:=hid (show decide (t1=t2∧p1=p2)=false by simp [ht])
  have HEP:=hid (show decide (p1=p1)=true by simp)
  have HR:=hid (show betterF t1 t2 p1 p2=decide (t2<t1) by unfold betterF;rw [if_neg ht])
  clear ht
  go_wp2_with (first
   | ((with_reducible apply wV (h1:=H1.out) (h2:=H2.out) (hb:=HE.out));rfl;rfl)
   | ((with_reducible apply rK (h1:=H1.out) (h2:=H2.out) (hb:=HEP.out));rfl;rfl)
   | ((with_reducible apply fM (hg:=G1.out) (hp:=H1.out));rfl)
   | ((with_reducible apply fM (hg:=G2.out) (hp:=H2.out));rfl)
   | ((with_reducible apply jS (hg:=G1.out) (hu:=Tryz.underlying125) (hi:=HS.out));rfl;rfl)
   | ((with_reducible apply jS (hg:=G2.out) (hu:=Tryz.underlying125) (hi:=HS2.out));rfl;rfl))
  go_ret
  exact ⟨yX HR.out.symm,HW.out⟩
end KC
end Go.Proofs

end
end
section
namespace Go.Proofs
open Go.RowKit
namespace KV
open Tryz
namespace CU
variable {P:Program} {C:Cx} {M:Mem} {w w':World}
theorem FV.of_calls{f base:Nat}{args:List AV}{y:AV}(ho:aPp [] base y=some (y,[]))
  (h:∀ (C:Cx) (w:World) (us:List Value),cN C [] w args us→Calls P f us.toArray w fun e w'=>∃ u,e = .returned u∧Below w.heap.size w w'∧∀ (C2:Cx),(∀ b,C.F b→C2.F b)→(∀ b,w.heap.size≤b→b<w'.heap.size→C2.F b)→(∀ b,C.F b→w'.heap[b]? = w.heap[b]?)→Rep C2 [] w' y u):FV P f args base y []:=by
 refine ⟨y,[],fun C w us hus hM n=>(callsIn_wide.2 (h C w us hus)).mono ?_,ho⟩
 rintro e w' ⟨u,rfl,hb,hr⟩;obtain ⟨f1,m1⟩:=wX (C:=C) (M:=([]:Mem)) (w:=w) (w':=w') (kb:=none) hM hb.os hb.tape hb.output hb.size (fun b Ar=>hb.block b Ar)
 exact ⟨u,rfl,_,f1,m1,hr _ f1.F1 (fun b h1 h2 => .inr ⟨h1,h2,by simp⟩) (fun b hf=>hb.block b (hM.Fs b hf))⟩
theorem FV.of_ret{f base:Nat}{args:List AV}{y:PV}{v:Value}(hy:∀ (F:Nat→Prop) (w:World),bQ F w y v)(ho:aPp [] base (.p y)=some (.p y,[]))
  (h:∀ (C:Cx) (w:World) (us:List Value),cN C [] w args us→Calls P f us.toArray w (KC.Ret v w)):FV P f args base (.p y) [] :=
 FV.of_calls ho fun C w us hus=>(h C w us hus).mono fun e w' ⟨he,hb⟩=>⟨v,he,hb,fun C2 _ _ _ => .p _ _ (hy _ _)⟩
theorem aOu{F:Nat→Prop}{c:KC.Cup}{s:Nat}{u:Value}(h:bQ F w (bFh c s) u):u = .agg (KC.formC (KC.totalM c s) (KC.placesM c s)):=by
 have:∀ (l:List Int) (u:Value),bQ F w (.agg (l.map aA)) u→u = .agg (l.map (Value.int .i64)).toArray:=fun l u h=>by
  generalize hc:l.map aA=cs at h
  cases h with
  | agg cs vs h0 h1 h2 =>
   subst hc
   congr 1
   apply Array.ext
   ·simpa using h1
   ·intro i h3 h4
    have hi:i<l.length:=by simpa using h4
    have:=h2 i (by simpa using hi)
    rw [mL] at this
    have:=cEl this;rw [Bn,qQ h3] at this
    simpa using this
 have h2:=this (KC.totalM c s::KC.placesM c s) u (by simpa using h)
 rw [h2];simp [KC.formC]
theorem bNy(c c':KC.Cup)(a b:Nat){base:Nat}:FV Tp 122 [.p (bFh c a),.p (bFh c' b)] base (.p (blP (KC.betterF (KC.totalM c a) (KC.totalM c' b) (KC.placesM c a) (KC.placesM c' b)))) [] :=
 FV.of_ret (fun _ _ => .v _) rfl fun C w us hus=>by
  obtain ⟨u,v,rfl,hu,hv⟩:=yC hus;cases hu with
  | p _ _ hu =>
   cases hv with
   | p _ _ hv =>
    rw [aOu hu,aOu hv];have h:∀ (c:KC.Cup) s,(KC.placesM c s).length=61:=fun c s=>by unfold KC.placesM;rw [KC.placesUpTo_length]
    exact KC.better_any _ _ _ _ (h c a) (h c' b) w
end CU
end KV
end Go.Proofs
end
section
namespace Go.Proofs
open Go.RowKit
namespace KV
open Tryz
namespace CU
theorem FV.calls{P:Program}{f:Nat}{args:List AV}{y:PV}(h:FV P f args 0 (.p y) [])(hn:jD args=true){C:Cx}{w:World}{us:List Value}(hus:cN C [] w args us)(hM:aO P C [] w)(n:Nat) :
  CallsIn Fence.wide n P f us.toArray w (fun e w'=>∃ u,e = .returned u∧Below w.heap.size w w'∧∃ F:Nat→Prop,bQ F w' y u):=by
 refine ((h.fc (bs:=[]) hn) [] (by simp) rfl (fun _ _=>rfl) C w us hus hM n).mono ?_
 rintro e w' ⟨u,rfl,C',f,_,r⟩;cases r with
 | p _ _ hr=>exact ⟨u,rfl,⟨f.os,f.tape,f.out,f.size,fun b hb=>f.keep b hb (fun _ _ h=>by simp at h)⟩,C'.F,hr⟩
def cxG(F:Nat→Prop):Cx:={ ι:=fun _=>none,κ:=fun _=>0,F:=F }
theorem cKg{P:Program}{F:Nat→Prop}{w:World}(h:∀ b,F b→b<w.heap.size):aO P (cxG F) [] w :=
 ⟨fun _ _ _ _ h=>by simp at h,fun _ _ _ h=>by simp at h,fun _ _ _ h=>by simp at h,fun _ _ _ _ _ h=>by simp at h,fun _ _ _ h=>by simp at h,h,fun _ _ _ h=>by simp at h⟩
end CU
end KV
namespace KC
open KV KV.CU
def Ints(w:World)(v:Value)(l:List Int):Prop:=∃ F:Nat→Prop,(∀ b,F b→b<w.heap.size)∧bQ F w (aE l) v
def Rows(w:World)(v:Value)(l:List (List Int)):Prop:=∃ F:Nat→Prop,(∀ b,F b→b<w.heap.size)∧bQ F w (aV l) v
theorem Ints.open{w:World}{v:Value}{l:List Int}(h:Ints w v l):∃ p cap,v = .slice p l.length cap∧l.length≤cap∧cap≤maxLen∧True:=by
 obtain ⟨F,_,h⟩:=h;change bQ F w (.sl l.length (l.map aA)) v at h
 cases h with
 | sl n cs p cap us h1 h2=>exact ⟨p,cap,rfl,h1,h2,trivial⟩
theorem Rows.open{w:World}{v:Value}{l:List (List Int)}(h:Rows w v l):∃ p cap,v = .slice p l.length cap∧l.length≤cap∧cap≤maxLen∧True:=by
 obtain ⟨F,_,h⟩:=h;change bQ F w (.sl l.length (l.map aE)) v at h
 cases h with
 | sl n cs p cap us h1 h2=>exact ⟨p,cap,rfl,h1,h2,trivial⟩
theorem aGk{w w':World}{v:Value}{l:List Int}(h:Ints w v l)(hb:Below w.heap.size w w'):Ints w' v l:=by
 obtain ⟨F,h1,h2⟩:=h;exact ⟨F,fun b hf=>Nat.lt_of_lt_of_le (h1 b hf) hb.size,h2.mono (fun _ h=>h) fun b hf=>hb.block b (h1 b hf)⟩
theorem aGl{w w':World}{v:Value}{l:List (List Int)}(h:Rows w v l)(hb:Below w.heap.size w w'):Rows w' v l:=by
 obtain ⟨F,h1,h2⟩:=h;exact ⟨F,fun b hf=>Nat.lt_of_lt_of_le (h1 b hf) hb.size,h2.mono (fun _ h=>h) fun b hf=>hb.block b (h1 b hf)⟩
def aGm(w:World)(v:Value)(c:Cup):Prop:=∃ vp vd,v = .agg #[.int .i64 c.sk,.int .i64 c.ra,.int .i64 c.be,vp,vd]∧Ints w vp c.pts∧Rows w vd c.done
theorem aGm.below{w w':World}{v:Value}{c:Cup}(h:aGm w v c)(hb:Below w.heap.size w w'):aGm w' v c:=by
 obtain ⟨vp,vd,rfl,h1,h2⟩:=h;exact ⟨vp,vd,rfl,aGk h1 hb,aGl h2 hb⟩
theorem cCg{F:Nat→Prop}{w:World}{c:Cup}{vp vd:Value}(h1:bQ F w (aE c.pts) vp)(h2:bQ F w (aV c.done) vd):bQ F w (bU c) (.agg #[.int .i64 c.sk,.int .i64 c.ra,.int .i64 c.be,vp,vd]):=by
 have o1:vp.oneCell'=true:=by cases h1;rfl
 have o2:vd.oneCell'=true:=by cases h2;rfl
 refine .agg _ _ (fun i hi => ?_) rfl (fun i hi => ?_)
 ·match i,hi with
  | 0,_=>rfl
  | 1,_=>rfl
  | 2,_=>rfl
  | 3,_=>exact o1
  | 4,_=>exact o2
 ·match i,hi with
  | 0,_=>exact .v _
  | 1,_=>exact .v _
  | 2,_=>exact .v _
  | 3,_=>exact h1
  | 4,_=>exact h2
def kV(c:Cup)(s:Nat):Array Value:=formC (totalM c s) (placesM c s)
theorem aUf(c:Cup)(hV:Valid c)(v:Value)(s:Nat)(w:World)(hv:aGm w v c)(hs:(s:Int)<c.sk):Calls Tryz.prog 58 #[v,.int .i64 s] w (Ret (.agg (kV c s)) w):=by
 obtain ⟨vp,vd,rfl,⟨F1,f1,h1⟩,F2,f2,h2⟩:=hv;have r1:=h1.mono (F':=fun b=>F1 b∨F2 b) (fun _ h => .inl h) (fun _ _=>rfl)
 have r2:=h2.mono (F':=fun b=>F1 b∨F2 b) (fun _ h => .inr h) (fun _ _=>rfl)
 refine (callsIn_wide (n:=1)).1 ((FV.calls (yV c hV s hs) rfl (C:=cxG fun b=>F1 b∨F2 b) (us:=[_,.int .i64 s]) (.cons _ _ _ _ (.p _ _ (cCg r1 r2)) (.cons _ _ _ _ (.p _ _ (.v _)) .nil)) (cKg fun b h=>h.elim (f1 b) (f2 b)) 1).mono ?_)
 rintro e w' ⟨u,rfl,hb,F,hr⟩;rw [aOu hr];exact ⟨rfl,hb⟩
end KC
end Go.Proofs
section
namespace Go.Proofs
open Go.RowKit
namespace KC

theorem aGn{w w':World}(h:Below w.heap.size w w')(row:Option Nat):w.grownBy w' row :=
 ⟨h.os,h.tape,h.output,h.size,fun k hk _=>h.block k hk⟩

section
variable {P:Program} {ops:Array Oper} {rest:List Oper} {dst:Option Tmp} {ty:TypeId} {pos:String} {af:Array Edge} {a:Act} {w:World} {Q:Exit→Act→World→Prop}

end

end KC
end Go.Proofs

end

section
namespace Go.Proofs
open Go.RowKit Go.Lib Go.Sort
namespace KC

theorem bAt{w wr W:World}{row:Option Nat}(h:w.grownBy wr row)(hb:wr.grownBy W row):w.grownBy W row :=
 ⟨hb.os.trans h.os,hb.tape.trans h.tape,hb.output.trans h.output,Nat.le_trans h.size hb.size,fun k hk hne=>(hb.block k (Nat.lt_of_lt_of_le hk h.size) hne).trans (h.block k hk hne)⟩

end KC
end Go.Proofs

end

section
namespace Go.Proofs
open Go.RowKit Go.Lib Go.Sort
namespace KC

abbrev iK(c:Cup)(vp vd:Value):Obj := .cells #[.int .i64 c.sk,.int .i64 c.ra,.int .i64 c.be,vp,vd] 98
end KC
end Go.Proofs

end

section
namespace Go.Proofs
open Go.RowKit
namespace KC
section
variable {P:Program} {ops:Array Oper} {rest:List Oper} {dst:Option Tmp} {ty:TypeId} {pos:String} {af:Array Edge} {a:Act} {w:World} {Q:Exit→Act→World→Prop}

theorem vJ(g:Nat)(e:TypeId):∀ (vs:List Value) (o:Nat) (w:World) (cs:Array Value),w.heap[g]? = some (.cells cs e (0,0))→o+vs.length≤cs.size →
  ∃ Bl,(w.setCells g o vs).heap[g]? = some (.cells Bl e (0,0))∧Bl.size=cs.size∧(∀ j,j<o→Bl[j]? = cs[j]?)∧(∀ j,j<vs.length→Bl[o+j]? = vs[j]?)∧(∀ j,o+vs.length≤j→Bl[j]? = cs[j]?)∧w.grownBy (w.setCells g o vs) (some g)∧(w.setCells g o vs).heap.size=w.heap.size
 | [],o,w,cs,hg,_=>⟨cs,hg,rfl,fun _ _=>rfl,fun j h=>by simp at h,fun _ _=>rfl,World.grownBy.refl _ _,rfl⟩
 | v::vs,o,w,cs,hg,hs=>by
  simp only [List.length_cons] at hs
  have h1:=heap_setCell_same w g o cs e v hg;obtain ⟨Bl,h2,h3,h4,h5,h6,h7,h8⟩:=vJ g e vs (o+1) (w.setCell ⟨g,o,none⟩ v) _ h1 (by simp;omega)
  refine ⟨Bl,h2,by simpa using h3,fun j hj => ?_,fun j hj => ?_,fun j hj => ?_,?_,?_⟩
  ·rw [h4 j (by omega),Array.getElem?_setIfInBounds,if_neg (by omega)]
  ·cases j with
   | zero=>rw [Nat.add_zero,h4 o (by omega),Array.getElem?_setIfInBounds,if_pos rfl,if_pos (by omega)];rfl
   | succ j=>rw [show o+(j+1)=o+1+j by omega,h5 j (by simpa using hj)];rfl
  ·simp only [List.length_cons] at hj
   rw [h6 j (by omega),Array.getElem?_setIfInBounds,if_neg (by omega)]
  ·refine bAt (wr:=w.setCell ⟨g,o,none⟩ v) ⟨rfl,rfl,rfl,by simp,fun k _ hk=>heap_setCell_other w ⟨g,o,none⟩ k v (fun e=>hk (by simp [e]))⟩ h7
  ·exact h8.trans (by simp)

end
end KC
end Go.Proofs

end

section
namespace Go.Proofs
open Go.RowKit Go.Lib Go.Sort
namespace KC

def bFf:Array Value:=formC 0 zeros61


theorem Ik:∀ w,(zeroValue 125).run Tryz.prog w = .ok (.agg bFf) w:=fun w=>by rw [Tryz.zeroValue125];rfl
theorem bNw(t:Int)(pl:List Int):(formC t pl).all (·.oneCell')=true:=by
 rw [Array.all_eq_true_iff_forall_mem];intro v hv;simp only [formC,List.mem_toArray,List.mem_cons,List.mem_map] at hv
 rcases hv with rfl | ⟨x,_,rfl⟩ <;> rfl

theorem aGo{W:World}{b:Nat}{c:Cup}{vp vd:Value}(h:W.heap[b]? = some (iK c vp vd)) :
  W.cell? ⟨b,0,none⟩=some (.int .i64 c.sk)∧W.cell? ⟨b,1,none⟩=some (.int .i64 c.ra)∧W.cell? ⟨b,2,none⟩=some (.int .i64 c.be)∧W.cell? ⟨b,3,none⟩=some vp∧W.cell? ⟨b,4,none⟩=some vd:=by
 refine ⟨?_,?_,?_,?_,?_⟩ <;> rw [cell_of_row _ _ _ _ _ _ h] <;> rfl

theorem bNx(w:World)(b o:Nat)(u:Value):w.grownBy (w.setCell ⟨b,o,none⟩ u) (some b) :=
 ⟨rfl,rfl,rfl,by simp,fun q _ hq=>heap_setCell_other w ⟨b,o,none⟩ q u (fun e=>hq (by simp [e]))⟩

end KC
end Go.Proofs

end

section
namespace Go.Proofs
open Go.RowKit Go.Lib Go.Sort Go.Shelf
namespace KC

attribute [local go_sem] Oper.semAt_some

structure KpD (n₀ b:Nat) (A B:World):Prop where
 bel:Below n₀ A B
 one:B.heap[b]? = A.heap[b]?
 two:B.heap[b+1]? = A.heap[b+1]?

theorem KpD.refl(n₀ b:Nat)(A:World):KpD n₀ b A A:=⟨Below.refl _ _,rfl,rfl⟩
theorem KpD.trans{n₀ b:Nat}{A B C:World}(h:KpD n₀ b A B)(k:KpD n₀ b B C):KpD n₀ b A C:=⟨h.bel.trans k.bel,k.one.trans h.one,k.two.trans h.two⟩
theorem KpD.put{n₀ b:Nat}{w:World}(hn:n₀≤w.heap.size)(hb:b+1<w.heap.size)(W:World)(l:Nat)(o o':Obj)(hl:w.heap.size≤l)(h:W.heap[l]? = some o)(h1:o.isCells=false)(h2:o.isWalk=false):KpD n₀ b W (W.putObj l o') :=
 ⟨belowK_b hn W l o o' hl h h1 h2,(grownBy_putObj' W l o').block b (by have:=lt_of_block h;omega) (by simp;omega),(grownBy_putObj' W l o').block (b+1) (by have:=lt_of_block h;omega) (by simp;omega)⟩
theorem KpD.of_below{n₀ b:Nat}{A B:World}(h:Below A.heap.size A B)(hn:n₀≤A.heap.size)(hb:b+1<A.heap.size):KpD n₀ b A B :=
 ⟨h.mono hn,h.block _ (by omega),h.block _ hb⟩

set_option maxRecDepth 1000000 in
set_option maxHeartbeats 2000000 in
theorem aUg(c:Cup)(hV:Valid c)(w0:World)(vp vd:Value)(hc:aGm w0 (.agg #[.int .i64 c.sk,.int .i64 c.ra,.int .i64 c.be,vp,vd]) c)(n l b:Nat)(hn:1≤n)(skier:Nat)(J Jx:List Nat→World→Prop)
  (hY:∀ pre (x:Nat) W,J pre W→pre.length<(oth skier c.sk.toNat).length→YieldAt Fence.wide (n-1) Tryz.prog l #[.int .i64 x,.agg (kV c x)] W fun e W' =>
   (e = .returned (.bool true)∧J (pre++[x]) W'∧KpD w0.heap.size b W W')∨(e = .returned (.bool false)∧Jx (pre++[x]) W'))
  (W:World) (hJ:AbidesFrom W.heap.size J) (hB:Below w0.heap.size w0 W) (h1:W.heap[b]? = some (iK c vp vd)) (h2:W.heap[b+1]? = some (.cells #[.int .i64 skier] 3)) (h0:J [] W) :
  CallsIn Fence.wide n Tryz.prog 175 #[.func (.yield l) #[] #[],.pointer (some ⟨b,0,none⟩),.pointer (some ⟨b+1,0,none⟩)] W fun e W'=>(∃ v,e = .returned v) ∧
   ((∃ ys,ys=oth skier c.sk.toNat∧J ys W')∨(∃ pre,pre <+: oth skier c.sk.toNat∧Jx pre W')):=by
 have HJ:=hid hJ;have HY:=hid hY;have HB:=hid hB;have H1:=hid h1;have H2:=hid h2;have HC:=hid hc;have HJ0:=hid h0;have hsk:=hV.sk2;have Tk:=hV.sk1;clear hJ hY hB h0 hc;obtain ⟨k0,k1,k2,k3,k4⟩:=aGo h1;clear h1 h2;refine callsIn_of_wp Tryz.func175 rfl trivial ?_ rfl;simp only [Tryz.ntmps175,List.size_toArray,List.length_cons,List.length_nil,Nat.reduceAdd,Nat.reduceSub,Array.replicate_succ,Array.replicate_zero,List.push_toArray,List.append_toArray,List.nil_append,List.cons_append]
 gi_wp2
 clear k0 k1 k2 k3 k4
 gi_loopw [8] (fun i wr=>∃ k:Nat,(k:Int)≤c.sk∧i = .int .i64 k∧J (oth skier k) wr∧KpD w0.heap.size b W wr)
  (fun i _=>c.sk.toNat-(intOf i).toNat)
 case atStart=>exact ⟨0,by omega,rfl,HJ0.out,KpD.refl _ _ _⟩
 case round =>
  obtain ⟨k,hk,rfl,hJk,hK⟩:=hrel;have HJK:=hid hJk;have HK:=hid hK;have Im:wr.heap[b]? = some (iK c vp vd):=hK.one.trans H1.out;have Hq:wr.heap[b+1]? = some (.cells #[.int .i64 skier] 3):=hK.two.trans H2.out;have Qg:=lt_of_block Hq;obtain ⟨k0,k1,k2,k3,k4⟩:=aGo Im;have ks:wr.cell? ⟨b+1,0,none⟩=some (.int .i64 skier):=by rw [cell_of_row _ _ _ _ _ _ Hq];rfl
  have HBR:=hid (HB.out.trans hK.bel);clear hJk hK Im Hq
  by_cases hlt:(k:Int)<c.sk
  ·by_cases hks:k=skier
   ·subst hks
    have HE:=hid (aIu k);have Er:(k:Int)<12:=by omega
    gi_wp2
    refine ⟨trivial,?_⟩
    gi_wp2
    refine ⟨fun _ h=>(by cases h),?_⟩
    gi_wp2
    go_roundw
    case rel=>exact ⟨k+1,by omega,by go_num,by rw [HE.out];exact HJK.out,HK.out⟩
    case measure=>simp [intOf];omega
   ·have HE:=hid (tP skier k hks)
    have hne:((k:Int) != skier)=true:=by simp;omega
    have HF:=hid (aUf c hV _ k wr (HC.out.below HBR.out) hlt);have HL:=hid (cLb skier (show k<c.sk.toNat by omega) hks)
    have HP:=hid (aHa skier (show k+1≤c.sk.toNat by omega))
    have Er:(k:Int)<12:=by omega
    have hbw:b+1<W.heap.size:=lt_of_block H2.out;have HWR:=hid (fun w1 (B5:Below wr.heap.size wr w1)=>HJ.out _ wr w1 none HJK.out (aGn B5 none) (fun r e=>by cases e))
    have HKD:=hid (fun w1 (B5:Below wr.heap.size wr w1)=>HK.out.trans (KpD.of_below B5 HBR.out.size Qg))
    gi_wp2_with (first
     | (refine ⟨trivial,?_⟩;gi_at_call 58;refine (callsIn_wide.2 HF.out).mono ?_;clear HF;rintro e w1 ⟨rfl,B5⟩;have HB1:=hid B5;clear B5;obtain ⟨fn,tmps,assign,body,hy,hR⟩:=HY.out _ k w1 (HWR.out w1 HB1.out) HL.out)
     | (refine hR.mono ?_;clear hR;rintro e w3 (⟨rfl,Pu,M8⟩ | ⟨rfl,hx⟩)))
    ·go_roundw
     case rel=>exact ⟨k+1,by omega,by go_num,by rw [HE.out];exact Pu,(HKD.out w1 HB1.out).trans M8⟩
     case measure=>simp [intOf];omega
    ·refine bodyPost_ret (results_none rfl _ _ _) rfl ?_
     exact ⟨⟨_,rfl⟩,.inr ⟨oth skier k++[k],HE.out ▸ HP.out,hx⟩⟩
  ·have HE:=hid (show k=c.sk.toNat by omega)
   gi_wp2
   go_end0
   exact ⟨⟨_,rfl⟩,.inl (HE.out ▸ HJK.out)⟩

theorem bAu(c:Cup)(vp vd:Value)(skier:Nat)(w:World)(hp:Ints w vp c.pts)(hd:Rows w vd c.done) :
  Calls Tryz.prog 121 #[.agg #[.int .i64 c.sk,.int .i64 c.ra,.int .i64 c.be,vp,vd],.int .i64 skier] w fun e w' =>
   e = .returned (.func (.func 175) #[] #[.pointer (some ⟨w.heap.size,0,none⟩),.pointer (some ⟨w.heap.size+1,0,none⟩)])∧w'=(w.alloc (iK c vp vd)).alloc (.cells #[.int .i64 skier] 3):=by
 obtain ⟨pd,cd,rfl,Hq,Nu,_⟩:=hd.open;obtain ⟨pp,cp,rfl,G6,Q6,_⟩:=hp.open;unfold maxLen at Nu Q6
 go_enter Tryz.func121,Tryz.ntmps121
 go_wp2
 go_ret
 exact ⟨rfl,rfl⟩

theorem aOs(c:Cup)(hV:Valid c)(w0:World)(vp vd:Value)(hc:aGm w0 (.agg #[.int .i64 c.sk,.int .i64 c.ra,.int .i64 c.be,vp,vd]) c)(n b:Nat)(hn:1≤n)(skier:Nat)(w:World)
  (hB:Below w0.heap.size w0 w) (h1:w.heap[b]? = some (iK c vp vd)) (h2:w.heap[b+1]? = some (.cells #[.int .i64 skier] 3)) :
  SeqStopsK Fence.wide n Tryz.prog 175 #[.pointer (some ⟨b,0,none⟩),.pointer (some ⟨b+1,0,none⟩)] (fun x:Nat => #[Value.int .i64 x,.agg (kV c x)]) (KpD w0.heap.size b) (fun ys=>ys=oth skier c.sk.toNat) (fun pre=>pre <+: oth skier c.sk.toNat) (oth skier c.sk.toNat).length w :=
 fun l J Jx W hW hJ _ hY h0=>aUg c hV w0 vp vd hc n l b hn skier J Jx hY W hJ (hB.trans (hW.mono hB.size)) ((hW.block b (lt_of_block h1)).trans h1) ((hW.block (b+1) (lt_of_block h2)).trans h2) h0
end KC
end Go.Proofs

end

section
namespace Go.Proofs
open Go.RowKit Go.Lib Go.Sort Go.Shelf
namespace KC

section
variable {F:Fence} {n:Nat} {P:Program} {ops:Array Oper} {rest:List Oper} {dst:Option Tmp} {ty:TypeId} {pos:String} {af:Array Edge} {a:Act} {w:World} {Q:Exit→Act→World→Prop}

theorem aGp{t:TypeId}{z:Value}(Z:Array Value)(hz:∀ w,(zeroValue t).run P w = .ok z w)(hZ:z.cells=Z)
  (h:wpListIn F n P ops Q rest (a.put dst (.pointer (some ⟨w.heap.size,0,none⟩))) (w.alloc (.cells Z t))) :
  wpListIn F n P ops Q ({ dst:=dst,op := .alloc t,type:=ty,pos:=pos,after:=af,guard:=none }::rest) a w:=by
 subst hZ;refine wpListIn_plain rfl fun K hK => ?_
 unfold Oper.wpIn;refine ⟨by simp [Oper.about],?_⟩
 rw [Oper.semAt_plain F _ _ (by intro c Fg;cases Fg)]
 simp only [execOp,Instr.alloc,Sem.run_bind,hz,Result.andThen_ok,newVar,newRow,newObj];exact hK _ _ h

theorem rH{t e:TypeId}{x:Operand}{g:Nat}{cs:Array Value}{d:TypeDesc}(hg:w.heap[g]? = some (.cells cs e (0,0)))
  (hu:P.underlying t=some d) (hd:(match d with | .struct _ | .array _ _=>true | _=>false)=true) (hi:(P.info? t).map (·.size)=some cs.size)
  (hx:a.eval x = .pointer (some ⟨g,0,none⟩))
  (h:wpListIn F n P ops Q rest (a.put dst (.agg cs)) w) :
  wpListIn F n P ops Q ({ dst:=dst,op := .load t x,type:=ty,pos:=pos,after:=af,guard:=none }::rest) a w:=by
 refine wpListIn_plain rfl fun K hK => ?_
 unfold Oper.wpIn;refine ⟨by simp [Oper.about],?_⟩
 rw [Oper.semAt_plain F _ _ (by intro c Fg;cases Fg)]
 simp only [execOp,hx,Instr.loadAt,Instr.sureAddr,Sem.run_bind,Sem.run_pure,Result.andThen_ok,run_loadVar_row w g e t cs (0,0) d hg hu hd hi];exact hK _ _ h

theorem vK{t e:TypeId}{x y:Operand}{g:Nat}{cs cells:Array Value}(hg:w.heap[g]? = some (.cells cs e (0,0)))(hi:(P.info? t).map (·.size)=some cells.size)
  (hsz:cells.size=cs.size) (h1:cells.all (·.oneCell')=true) (hx:a.eval x = .pointer (some ⟨g,0,none⟩)) (hy:a.eval y = .agg cells)
  (h:∀ w',w'.heap[g]? = some (.cells cells e (0,0))→w.grownBy w' (some g)→wpListIn F n P ops Q rest (a.put dst undef) w') :
  wpListIn F n P ops Q ({ dst:=dst,op := .store t x y,type:=ty,pos:=pos,after:=af,guard:=none }::rest) a w:=by
 refine wpListIn_plain rfl fun K hK => ?_
 unfold Oper.wpIn;refine ⟨by simp [Oper.about],?_⟩
 rw [Oper.semAt_plain F _ _ (by intro c Fg;cases Fg)]
 have ht:w.there g 0 cells.size:=fun j hj=>by
  rw [Nat.zero_add,cell_of_row w g j cs e (0,0) hg,frozen_of_row w g j cs e hg];refine ⟨?_,rfl⟩;rw [Array.getElem?_eq_getElem (by omega)]
  rfl
 simp only [execOp,hx,hy,Instr.storeAt,Instr.sureAddr,Sem.run_bind,Sem.run_pure,Result.andThen_ok,run_storeVar_mid w g 0 t cells ht hi h1];refine hK _ _ ?_;obtain ⟨Bl,h2,h3,_,h5,_,h7,_⟩:=vJ g e cells.toList 0 w cs hg (by simp;omega)
 have:Bl=cells:=by
  apply Array.ext_getElem?;intro j
  by_cases hj:j<cells.size
  ·have:=h5 j (by simpa using hj)
   rw [Nat.zero_add] at this
   rw [this];simp
  ·rw [Array.getElem?_eq_none (by omega),Array.getElem?_eq_none (by omega)]
 subst this;exact h _ h2 h7
end

theorem aOt{β:Type}(B N:Nat):OwnFrom B (fun (_:β) W=>N≤W.heap.size):=fun _ _ _ _ hs hg _=>Nat.le_trans hs hg.size
theorem aKz{β:Type}(B:Nat)(f:β→Array Value)(t:TypeId)(fr:Nat × Nat):Own (fun s W=>W.heap[B]? = some (.cells (f s) t fr)):=fun s X Y row hs hg hrow =>
 (hg.block B (lt_of_block hs) (fun e=>by obtain ⟨o,ho,hc⟩:=hrow B e.symm;rw [hs] at ho;cases ho;cases hc)).trans hs

theorem aGq(c:Cup)(s:Nat):(kV c s).size=62:=by unfold kV;rw [wU];unfold placesM;rw [placesUpTo_length]
theorem bFg(c:Cup)(s:Nat):(kV c s).size=bFf.size:=by rw [aGq];rfl
theorem aLa(c:Cup)(s:Nat):(kV c s).all (·.oneCell')=true:=bNw _ _
theorem E0(c:Cup)(s:Nat):(Tryz.prog.info? 125).map (·.size)=some (kV c s).size:=by rw [aGq];exact G3

theorem aUh(c:Cup)(a b:Nat)(w:World):Calls Tryz.prog 122 #[.agg (kV c a),.agg (kV c b)] w (Ret (.bool (betS c a b)) w):=by
 have h:∀ s,(placesM c s).length=61:=fun s=>by unfold placesM;rw [placesUpTo_length]
 exact better_any _ _ _ _ (h a) (h b) w

theorem Lf(a b c d e:Value):(Tryz.prog.info? 98).map (·.size)=some (#[a,b,c,d,e]:Array Value).size:=by
 have:(Tryz.prog.info? 98).map (·.size)=some 5:=by kernel_rfl
 exact this

theorem Tl(p q:Nat)(a b:Value)(t:Array Value):(#[p,q].zip #[a,b]).foldl (fun t (x:Nat × Value)=>t.setIfInBounds x.1 x.2) t=(t.setIfInBounds p a).setIfInBounds q b:=by simp

theorem jL(B:Nat){W W':World}(h:Below W.heap.size W W'):KeepsFrom B W W':=⟨h.size,fun k o _ hk _=>(h.block k (lt_of_block hk)).trans hk⟩

attribute [local go_sem] Oper.semAt_some

set_option maxRecDepth 1000000 in
set_option maxHeartbeats 4000000 in
theorem bVn(c:Cup)(hV:Valid c)(v:Value)(s:Nat)(w:World)(hv:aGm w v c)(hs:(s:Int)<c.sk) :
    Calls Tryz.prog 59 #[v,.int .i64 s] w (Ret (.int .i64 (rankM c s)) w):=by
  have HC:=hid hv;obtain ⟨vp,vd,rfl,hp,hd⟩:=hv;have HP:=hid hp;have HD:=hid hd;obtain ⟨pd,cd,rfl,Hq,Nu,_⟩:=hd.open;obtain ⟨pp,cp,rfl,G6,Q6,_⟩:=hp.open;unfold maxLen at Nu Q6
  clear hp hd;obtain ⟨vp,hvp⟩:∃ vp,vp=Value.slice pp c.pts.length cp:=⟨_,rfl⟩;obtain ⟨vd,hvd⟩:∃ vd,vd=Value.slice pd c.done.length cd:=⟨_,rfl⟩;have HBX:=hid (((Below.refl w.heap.size w).alloc (Nat.le_refl _) (iK c (Value.slice pp c.pts.length cp) (Value.slice pd c.done.length cd))));have HF:=hid (aUf c hV _ s (w.alloc (iK c (Value.slice pp c.pts.length cp) (Value.slice pd c.done.length cd))) (HC.out.below HBX.out) hs);refine (callsIn_wide (n:=3)).1 ?_;refine callsIn_of_wp_marks Tryz.func59 rfl trivial ?_ rfl;simp only [Tryz.ntmps59,List.size_toArray,List.length_cons,List.length_nil,Nat.reduceAdd,Nat.reduceSub,Array.replicate_succ,Array.replicate_zero,List.push_toArray,List.append_toArray,List.nil_append,List.cons_append];have HPX:=hid (fun W (h:Below w.heap.size w W)=>aGk HP.out h)
  have HDX:=hid (fun W (h:Below w.heap.size w W)=>aGl HD.out h)
  clear hvp hvd
  gi_wp2_with (first
    | (refine ⟨trivial,?_⟩;gi_at_call 58;refine (callsIn_wide.2 HF.out).mono ?_;clear HF;rintro e w1 ⟨rfl,B5⟩;have HB1:=hid B5;clear B5)
    | (with_reducible apply aGp bFf Ik rfl)
    | ((with_reducible apply vK (hg:=heap_alloc_new _ _) (hi:=E0 c s) (hsz:=bFg c s) (h1:=aLa c s));rfl;rfl;intro w2 h2 Hp
       have H5:=hid h2;have HG2:=hid Hp;clear h2 Hp;have HB2:=hid (show Below w1.heap.size w1 w2 from (((Below.refl _ w1).alloc (Nat.le_refl _) _).grown HG2.out (by simp) (fun q hq=>by cases hq;exact Nat.le_refl _)))
       have Fu:w.heap.size+1≤w1.heap.size:=by have:=HB1.out.size;simpa using this
       have I8:w1.heap.size+1≤w2.heap.size:=by have:=HG2.out.size;simpa using this
       have Xd:=HB1.out.size;have HBW2:=hid (show Below w.heap.size w w2 from (HBX.out.trans (HB1.out.mono (by simp))).trans (HB2.out.mono (by omega)))
       have H2:=hid (show w2.heap[w.heap.size]? = some (iK c (Value.slice pp c.pts.length cp) (Value.slice pd c.done.length cd)) from by rw [HB2.out.block _ (by omega),HB1.out.block _ (by simp)];exact heap_alloc_new w _)
       have H2A:=hid (show (w2.alloc (.cells #[.int .i64 1] 3)).heap[w.heap.size]? = some (iK c (Value.slice pp c.pts.length cp) (Value.slice pd c.done.length cd)) from ((World.grownBy_alloc w2 _ none).block w.heap.size (by omega) (by simp)).trans H2.out))
    | ((with_reducible apply rH (hg:=H2A.out) (hu:=Tryz.underlying98) (hi:=Lf _ _ _ _ _));rfl;rfl)
    | (refine ⟨trivial,?_⟩;gi_at_call 121;refine (callsIn_wide.2 (bAu c _ _ s _ (HPX.out _ (HBW2.out.alloc (by omega) _)) (HDX.out _ (HBW2.out.alloc (by omega) _)))).mono ?_;rintro e w' ⟨rfl,rfl⟩))
  obtain ⟨W0,Il⟩:∃ W0,W0=((w2.alloc (.cells #[.int .i64 1] 3)).alloc (iK c (Value.slice pp c.pts.length cp) (Value.slice pd c.done.length cd))).alloc (.cells #[.int .i64 s] 3):=⟨_,rfl⟩;have HW0:=hid Il;have Xe:W0.heap.size=w2.heap.size+3:=by rw [Il];simp
  have HBW0:=hid (show Below w2.heap.size w2 W0 from by rw [Il];exact (((Below.refl _ w2).alloc (Nat.le_refl _) _).alloc (by simp) _).alloc (by simp;omega) _)
  have HBWW:=hid (show Below w.heap.size w W0 from HBW2.out.trans (HBW0.out.mono (by omega)))
  have b6:Boxed W0 w2.heap.size 3 (.int .i64 1):=by rw [Il];exact ((Boxed.new w2 3 _).alloc _).alloc _
  have hbD:W0.heap[w2.heap.size+1]? = some (iK c (Value.slice pp c.pts.length cp) (Value.slice pd c.done.length cd)):=by
    rw [Il];refine ((World.grownBy_alloc _ _ none).block _ (by simp) (by simp)).trans ?_
    have:=heap_alloc_new (w2.alloc (.cells #[.int .i64 1] 3)) (iK c (Value.slice pp c.pts.length cp) (Value.slice pd c.done.length cd));simpa using this
  have hbS:W0.heap[w2.heap.size+1+1]? = some (.cells #[.int .i64 s] 3 (0,0)):=by
    rw [Il];have:=heap_alloc_new ((w2.alloc (.cells #[.int .i64 1] 3)).alloc (iK c (Value.slice pp c.pts.length cp) (Value.slice pd c.done.length cd))) (.cells #[.int .i64 s] 3);simpa using this
  have h5:W0.heap[w1.heap.size]? = some (.cells (kV c s) 125 (0,0)):=(HBW0.out.block _ (by omega)).trans H5.out
  rw [← Il];have HRB:=hid (fun pre=>bOz c s pre)
  have HOL:=hid (bCe s c.sk.toNat);have Xf:=hV.sk2;have Tk:=hV.sk1;clear Il HW0 H2A H2 HB1 HBX HPX HDX HP HD Hq Nu G6 Q6;refine wpIn_rangeFunc_ownH rfl (by omega) (gf:=175) (lb := #[.pointer (some ⟨w2.heap.size+1,0,none⟩),.pointer (some ⟨w2.heap.size+1+1,0,none⟩)]) rfl trivial (enters_of Tryz.func175 (by kernel_rfl) rfl)
    (aOs c hV w _ _ HC.out (3-1) (w2.heap.size+1) (by omega) s W0 HBWW.out hbD hbS) (fun h k=>KpD.trans h k) (KpD.put (by omega) (by omega)) (Below.refl _ _) (fun _=>rfl)
    (fun pre W=>(Boxed W w2.heap.size 3 (.int .i64 (oZ c s pre))∧W.heap[w1.heap.size]? = some (.cells (kV c s) 125 (0,0)))∧(Below w.heap.size w W∧W0.heap.size≤W.heap.size))
    (fun _ _ _=>False)
    (OwnFrom.and (OwnFrom.and (Own.from (boxed_own _ _ (fun pre=>Value.int .i64 (oZ c s pre))) _) (Own.from (aKz _ (fun _=>kV c s) _ _) _)) (OwnFrom.and (ownFrom_below (Nat.le_refl _) (by omega)) (aOt _ _)))
    (fun _ _ _ _ _ hs _ _=>hs)
    ⟨⟨b6,h5⟩,HBWW.out,Nat.le_refl _⟩
    (fun x a' W=>∃ Bx,W.heap[Bx]? = some (.cells (kV c x) 125 (0,0))∧a'={ tmps := #[Value.agg #[Value.int .i64 c.sk,Value.int .i64 c.ra,Value.int .i64 c.be,Value.slice pp c.pts.length cp,Value.slice pd c.done.length cd],.int .i64 s,.pointer (some ⟨w.heap.size,0,none⟩),undef,.int .i64 0,.pointer (some ⟨w1.heap.size,0,none⟩),.pointer (some ⟨w2.heap.size,0,none⟩),undef,.pointer (some ⟨Bx,0,none⟩),undef,Value.agg #[Value.int .i64 c.sk,Value.int .i64 c.ra,Value.int .i64 c.be,Value.slice pp c.pts.length cp,Value.slice pd c.done.length cd],.int .i64 s,.agg (kV c s),Value.agg #[Value.int .i64 c.sk,Value.int .i64 c.ra,Value.int .i64 c.be,Value.slice pp c.pts.length cp,Value.slice pd c.done.length cd],.int .i64 s,.func (.func 175) #[] #[.pointer (some ⟨w2.heap.size+1,0,none⟩),.pointer (some ⟨w2.heap.size+1+1,0,none⟩)],.int .i64 x,.agg (kV c x),undef,undef,undef,undef,undef,undef,undef,undef],defers:=[] })
    (fun x a' _ X Y row hs hg hr=>by obtain ⟨Bx,h2,h3⟩:=hs;exact ⟨Bx,aKz Bx (fun (_:Unit)=>kV c x) _ _ () X Y row h2 hg (fun r e=>(hr r e).2),h3⟩)
    ?assign ?body ?done ?stop
  case assign =>
    rintro l pre x W K ⟨⟨Md,Qh⟩,Lg,hZ⟩ hK;have hsW:=Lg.size;have Rx:=Md.lt;have Fw:=lt_of_block Qh;refine wpIn_region_lit ?_;rw [show (#[16,17].zip #[Value.int .i64 x,.agg (kV c x)]).foldl _ _=_ from Tl 16 17 _ _ _]
    simp only [List.setIfInBounds_toArray,List.set_cons_succ,List.set_cons_zero];refine aGp bFf Ik rfl ?_;refine vK (hg:=heap_alloc_new _ _) (hi:=E0 c x) (hsz:=bFg c x) (h1:=aLa c x) ?_ ?_ ?_
    · rfl
    · rfl
    intro w4 h4 Uq;have H4:=hid h4;have HG4:=hid Uq;clear h4 Uq;have hBW:RowKit.Below W.heap.size W w4:=(((Below.refl _ W).alloc (Nat.le_refl _) _).grown HG4.out (by simp) (fun q hq=>by cases hq;exact Nat.le_refl _))
    refine wpListIn_nil ?_;exact hK _ _ (jL _ hBW) (KpD.of_below hBW Lg.size (by omega)) ⟨⟨(hBW.block _ Rx).trans Md,(hBW.block _ Fw).trans Qh⟩,Lg.trans (hBW.mono hsW),Nat.le_trans hZ hBW.size⟩ ⟨W.heap.size,H4.out,rfl⟩
  case body =>
    rintro l pre x a' W hl ⟨r,hr⟩ ⟨⟨Md,Qh⟩,Lg,hZ⟩ ⟨Bx,hBx,rfl⟩ hlt;have hsW:=Lg.size;have HBET:=hid (fun W=>aUh c x s W)
    obtain ⟨bet,hbet⟩:∃ bet,bet=betS c x s:=⟨_,rfl⟩;rw [← hbet] at HBET
    have HBETE:=hid hbet;obtain ⟨ru,hru⟩:∃ ru,ru=oZ c s pre:=⟨_,rfl⟩;obtain ⟨Hl,Ep⟩:=HRB.out pre;have hol:=HOL.out;rw [← hru] at Hl Ep Md
    have HRU:=hid hru;have HX:=hid hBx;have H51:=hid Qh;clear hbet hru hBx Qh
    gi_wp2_with (first
      | ((with_reducible apply rH (hg:=HX.out) (hu:=Tryz.underlying125) (hi:=E0 c x));rfl;rfl)
      | ((with_reducible apply rH (hg:=H51.out) (hu:=Tryz.underlying125) (hi:=E0 c s));rfl;rfl)
      | (refine ⟨trivial,?_⟩;gi_at_call 122;refine (CallsIn.inRound l (callsIn_wide.2 (HBET.out _))).mono ?_;rintro e w4 ⟨rfl,J0⟩;have HB4:=hid J0;have Q7:Boxed w4 w2.heap.size 3 (.int .i64 ru):=(J0.block _ Md.lt).trans Md;have cS4:=Q7.cell;have fS4:=Q7.frozen;clear J0))
    · have HS:=aBx c s pre x
      rw [← HBETE.out,← HRU.out] at HS
      have Ni:=bNx w4 w2.heap.size 0 (.int .i64 (ru+1));have Fw:=lt_of_block H51.out;refine ⟨(jL _ HB4.out).trans (KeepsFrom.of_grownBy Ni (fun q hq=>by cases hq;omega)),(KpD.of_below HB4.out hsW (by omega)).trans ⟨(Below.refl _ w4).grown Ni (by have:=HB4.out.size;omega) (fun q hq=>by cases hq;omega),Ni.block _ (by have:=HB4.out.size;omega) (by simp),Ni.block _ (by have:=HB4.out.size;omega) (by simp;omega)⟩,⟨?_,?_⟩,?_,?_⟩
      · rw [HS,if_pos (by assumption)];exact Q7.set _
      · exact (Ni.block _ (by have:=HB4.out.size;omega) (by simp;omega)).trans ((HB4.out.block _ Fw).trans H51.out)
      · exact (Lg.trans (HB4.out.mono hsW)).grown Ni (by have:=HB4.out.size;omega) (fun q hq=>by cases hq;omega)
      · exact Nat.le_trans hZ (Nat.le_trans HB4.out.size Ni.size)
    · have HS:=aBx c s pre x
      rw [← HBETE.out,← HRU.out] at HS
      have Fw:=lt_of_block H51.out;refine ⟨jL _ HB4.out,KpD.of_below HB4.out hsW (by omega),⟨?_,(HB4.out.block _ Fw).trans H51.out⟩,Lg.trans (HB4.out.mono hsW),Nat.le_trans hZ HB4.out.size⟩
      rw [HS,if_neg (by first | assumption | (intro hh;simp_all))];exact Q7
  case done =>
    rintro D zs W hD rfl ⟨⟨Md,_⟩,Lg,_⟩ hK;have cS:=Md.cell
    gi_wp2
    refine ⟨by simp,.inl ⟨_,_,rfl,run_takeDeferred hK,?_⟩⟩
    exact ⟨_,results_tmp rfl _ _ _,rfl,Lg.trans (belowK_b (w:=w) (Nat.le_refl _) W D _ _ (by omega) hK rfl rfl)⟩
  case stop =>
    rintro D c pre W _ _ h _;exact h.elim
end KC
end Go.Proofs

end
end
section
namespace Go.Proofs
open Go.RowKit Go.Lib Go.Sort Go.Shelf
namespace KV
open Tryz
namespace CU
open KC
attribute [local go_sem] Oper.semAt_some

theorem repVi{F:Nat→Prop}{w:World}{n:Int}{u:Value}(h:bQ F w (aA n) u):u = .int .i64 n:=by unfold aA at h;cases h;rfl
theorem Tj{vs:Array Value}{a b c d e:Value}(hs:vs.size=5)(h0:vs.getD 0 undef=a)(h1:vs.getD 1 undef=b)(h2:vs.getD 2 undef=c)(h3:vs.getD 3 undef=d)(h4:vs.getD 4 undef=e):vs = #[a,b,c,d,e]:=by
 apply Array.ext
 ·simpa using hs
 ·intro i h5 h6
  have:i=0∨i=1∨i=2∨i=3∨i=4:=by omega
  rcases this with rfl | rfl | rfl | rfl | rfl <;> simp_all [Bn]
theorem cKf{F:Nat→Prop}{w:World}{c:Cup}{u:Value}(hF:∀ b,F b→b<w.heap.size)(h:bQ F w (bU c) u):∃ vp vd,u = .agg #[.int .i64 c.sk,.int .i64 c.ra,.int .i64 c.be,vp,vd]∧KC.Ints w vp c.pts∧KC.Rows w vd c.done∧bQ F w (aE c.pts) vp∧bQ F w (aV c.done) vd:=by
 cases h with
 | agg cs vs h0 h1 h2 =>
  have e0:=repVi (h2 0 (by simp))
  have e1:=repVi (h2 1 (by simp))
  have e2:=repVi (h2 2 (by simp))
  have e3:=h2 3 (by simp)
  have e4:=h2 4 (by simp)
  exact ⟨_,_,congrArg Value.agg (Tj h1 e0 e1 e2 rfl rfl),⟨F,hF,e3⟩,⟨F,hF,e4⟩,e3,e4⟩

theorem aDa(c:Cup)(hV:Valid c)(s:Nat)(hs:(s:Int)<c.sk){base:Nat}:FV Tp 59 [.p (bU c),.p (aA (s:Int))] base (.p (aA (rankM c s))) []:=by
 refine ⟨.p (aA (rankM c s)),[],fun C w us hus hM n => ?_,rfl⟩
 obtain ⟨u,v,rfl,hu,hv⟩:=yC hus;cases hu with
 | p _ _ hu =>
  cases hv with
  | p _ _ hv =>
   rw [repVi hv];obtain ⟨vp,vd,rfl,h1,h2,_⟩:=cKf hM.Fs hu;refine (callsIn_wide.2 (bVn c hV _ s w ⟨vp,vd,rfl,h1,h2⟩ hs)).mono ?_;rintro e w' ⟨rfl,hb⟩;obtain ⟨f1,m1⟩:=wX (C:=C) (M:=([]:Mem)) (w:=w) (w':=w') (kb:=none) hM hb.os hb.tape hb.output hb.size (fun b Ar=>hb.block b Ar)
   exact ⟨_,rfl,_,f1,m1,.p _ _ (.v _)⟩
end CU
end KV
end Go.Proofs
end
section
namespace Go.Proofs
open Go.RowKit
namespace KV
open Tryz
variable {o:List Int}{i s i' Aw base:Nat}
namespace CU
noncomputable abbrev aOp:Code:=sub (cd Tryz.f80) [1,1,0,1,0,0]
noncomputable abbrev aOq:Code:=sub (cd Tryz.f150) [1,1,1,0,1,0,0]
def tot_S0(c:KC.Cup)(i on:Nat)(oc:List PV):St:=⟨fr 20 [(1,(.ptr 0 0)),(2,(.p cR)),(3,(.own 1)),(7,(pI c.sk)),(8,(pI (i:Int)))],[some (.box 98 [(pI c.sk),(pI c.ra),(pI c.be),(.p (aE c.pts)),(.p (aV c.done))]),some (.row 3 on oc)]⟩
theorem tot_p0{c:KC.Cup}{A5:List Int}(hl0:aF Tp 0 aOp (tot_S0 c 0 0 []) (.exit 0) (tot_S0 c Aw A5.length (A5.map aA))):FV Tp 80 [(.p (bU c))] base (.p (aE A5)) []:=FV.frz (FMM.fi 0 ⟨[],[],[1],[]⟩ func80 [hl0.k 8 (gN [0,1,4,3,9,10] [0,1] [(3,3)])] (gc hl0.code gn)) (by kernel_rfl)
theorem tot_L0_p0{c:KC.Cup}{o':List Int}(h0:(i:Int)<c.sk)(h1:KC.Valid c)(h2:((i:Nat):Int)<c.sk)(h3:[(aA (KC.totalM c i))].length=1*1∧o.length+1≤1000000)(h4:dv i)(Ak:i'=(i+1))(A6:o'.length=(o.length+1))(A7:o'.map aA=((o.map aA)++[(aA (KC.totalM c i))])):aB Tp 0 aOp (tot_S0 c i o.length (o.map aA)) .normal (tot_S0 c i' o'.length (o'.map aA)):=by
 subst Ak;have k1:=fk 2 (yV c h1 i h2) rfl;rw [A6,A7];exact aB.fi (gI [0,1,4,3,9,10] [0,3]) [bT,k1.o] (gc h4 (gc h3 (gc k1 (g0 h0))))
theorem tot_L0_p1{c:KC.Cup}(h0:c.sk≤(i:Int)):aB Tp 0 aOp (tot_S0 c i o.length (o.map aA)) (.exit 0) (tot_S0 c i o.length (o.map aA)):=aB.fi (gI [0,1,4,3,9,10] [0,1]) [bF] (gc (aQ h0) gn)
theorem bNs(c:KC.Cup)(hV:KC.Valid c){base:Nat}:FV Tp 80 [.p (bU c)] base (.p (aE (KC.totalsM c))) []:=by
 have h1:=hV.sk1;have h2:=hV.sk2;have h:=aF.times (P:=Tp) (k:=0) (b:=aOp) (e := .exit 0) (fun i (o:List Int)=>tot_S0 c i o.length (o.map aA)) (fun o=>tot_S0 c c.sk.toNat o.length (o.map aA)) (fun _ i=>KC.totalsUp c (i+1)) (fun i o=>o=KC.totalsUp c i) (by simp) c.sk.toNat (a0:=KC.totalsUp c 0) rfl
  (fun i o hi hI=>by
   subst hI;have hl:=KC.totalsUp_length c i;exact ⟨rfl,tot_L0_p0 (by omega) hV (by omega) (by rw [hl];simp;omega) (aI (by omega)) rfl (by rw [KC.totalsUp_length,hl]) (by rw [KC.totalsUp_succ];simp)⟩)
  (fun o _=>tot_L0_p1 (by omega))
 have e0:∀ n:Nat,(List.range n).foldl (fun (_:List Int) (i:Nat)=>KC.totalsUp c (i+1)) (KC.totalsUp c 0)=KC.totalsUp c n:=by
  intro n
  induction n with
  | zero=>rfl
  | succ n ih=>rw [List.range_succ,xX,ih];rfl
 rw [e0] at h
 exact tot_p0 h
theorem cKc{c:KC.Cup}{I6:Nat}{Fa:List PV}(h0:0≤c.sk∧c.sk≤c.sk∧c.sk≤1000000)(h1:0≤(s:Int)∧(s:Int)<((c.sk.toNat:Nat):Int))(h2:(s*1)<(List.replicate c.sk.toNat (aA 0)).length)(H3:I6=c.sk.toNat)(El:Fa=((List.replicate c.sk.toNat (aA 0)).set (s*1) (aA 1))):FV Tp 197 [(.rp [(aA c.sk),(aA c.ra),(aA c.be),(aE c.pts),(aV c.done)] 0),(.rp [(aA (s:Int))] 0)] base (.own base) [(base,(.row 3 I6 Fa))]:=by
 subst H3 El;exact FV.fi func197 [.x (aA c.sk),.x (aA (s:Int))] (gc h2 (gc h1 (gr (aA (s:Int)) (gc h0 (gr (aA c.sk) gn)))))
theorem bNt{id ty n:Nat}{l:List Int}:aPq [(id,.row ty n (l.map aA))]=true:=by
 have hp:∀ l:List Int,aAu (l.map aA)=true:=fun l=>by
  induction l with
  | nil=>rfl
  | cons x l ih=>exact ih
 show (match aAu (l.map aA) with | true=>aPq [] | false=>false)=true
 rw [hp];rfl
theorem cKd(c:KC.Cup)(hV:KC.Valid c)(s:Nat)(hs:(s:Int)<c.sk){base:Nat}:FV Tp 197 [.rp (cMu c) 0,.rp [aA (s:Int)] 0] base (.own base) [(base,.row 3 (KC.wonRace c.sk.toNat s).length ((KC.wonRace c.sk.toNat s).map aA))] :=
 have h1:=hV.sk1;have h2:=hV.sk2
 cKc (by omega) (by omega) (by simp;omega) (by simp [KC.wonRace]) (by simp [KC.wonRace,List.map_set])
def tK(c:KC.Cup)(s i on:Nat)(oc:List PV):St:=⟨fr 25 [(4,(.p cR)),(5,(.fn 197 [] [(.ptr 0 0),(.ptr 1 0)])),(6,(.own 2)),(15,(pI (c.ra-(c.done.length:Int)))),(16,(pI (i:Int)))],[some (.box 98 [(pI c.sk),(pI c.ra),(pI c.be),(.p (aE c.pts)),(.p (aV c.done))]),some (.box 3 [(pI (s:Int))]),some (.row 31 on oc)]⟩
theorem cKe{c:KC.Cup}{A5:Lqq}(h0:inR (c.ra-(c.done.length:Int)))(hl1:aF Tp 0 aOq (tK c s 0 0 []) (.exit 0) (tK c s Aw A5.length (A5.map aE))):FV Tp 150 [(.p (bU c)),(pI (s:Int))] base (.p (aV A5)) []:=FV.frz (FMM.fi 0 ⟨[],[],[2],[]⟩ func150 [hl1.k 10 (gN [0,4,7,8,17,7] [0,1,2] [(6,31)])] (gc hl1.code (gc h0 gn))) (by kernel_rfl)
theorem bNu{c:KC.Cup}{o o':Lqq}(h0:(i:Int)<(c.ra-(c.done.length:Int)))(h1:KC.Valid c)(h2:((s:Nat):Int)<c.sk)(h3:[(aE (KC.wonRace c.sk.toNat s))].length=1*1∧o.length+1≤1000000)(h4:dv i)(Ak:i'=(i+1))(A6:o'.length=(o.length+1))(A7:o'.map aE=((o.map aE)++[(aE (KC.wonRace c.sk.toNat s))])):aB Tp 0 aOq (tK c s i o.length (o.map aE)) .normal (tK c s i' o'.length (o'.map aE)):=by
 subst Ak;rw [A6,A7];exact aB.fi (gI [0,4,7,8,17,7] [0,1,5]) [bT,.c (.own 3) [(3,(.row 3 ((KC.wonRace c.sk.toNat s).length) ((KC.wonRace c.sk.toNat s).map aA)))]] (gc h4 (gc h3 (gt (FC Tp 197 [(.ptr 0 0),(.ptr 1 0)] [(0,(.box 98 [(pI c.sk),(pI c.ra),(pI c.be),(.p (aE c.pts)),(.p (aV c.done))])),(1,(.box 3 [(pI (s:Int))]))] 3 (.own 3) [(3,(.row 3 ((KC.wonRace c.sk.toNat s).length) ((KC.wonRace c.sk.toNat s).map aA)))]) (FV.view (A9:=[(.rp [(aA c.sk),(aA c.ra),(aA c.be),(aE c.pts),(aV c.done)] 0),(.rp [(aA (s:Int))] 0)]) (cKd c h1 s h2) (by kernel_rfl) (by kernel_rfl) bNt) (g0 h0))))
theorem bNv{c:KC.Cup}{o:Lqq}(h0:(c.ra-(c.done.length:Int))≤(i:Int)):aB Tp 0 aOq (tK c s i o.length (o.map aE)) (.exit 0) (tK c s i o.length (o.map aE)):=aB.fi (gI [0,4,7,8,17,7] [0,1,2]) [bF] (gc (aQ h0) gn)
theorem aOr(c:KC.Cup)(hV:KC.Valid c)(s:Nat)(hs:(s:Int)<c.sk){base:Nat}:FV Tp 150 [.p (bU c),.p (aA (s:Int))] base (.p (aV (KC.wonM c s))) []:=by
 have h1:=hV.ra1;have h2:=hV.ra2;have h3:=hV.dn;have h:=aF.times (P:=Tp) (k:=0) (b:=aOq) (e := .exit 0) (fun i (o:Lqq)=>tK c s i o.length (o.map aE)) (fun o=>tK c s (c.ra.toNat-c.done.length) o.length (o.map aE)) (fun o _=>o++[KC.wonRace c.sk.toNat s]) (fun i o=>o=List.replicate i (KC.wonRace c.sk.toNat s)) (by simp) (c.ra.toNat-c.done.length) (a0:=[]) rfl
  (fun i o hi hI=>by
   subst hI;exact ⟨KC.replicate_snoc _ _,bNu (by omega) hV hs (by rw [List.length_replicate];simp;omega) (aI (by omega)) rfl (by simp) (by simp)⟩)
  (fun o _=>bNv (by omega))
 have e0:∀ n:Nat,(List.range n).foldl (fun (o:Lqq) (_:Nat)=>o++[KC.wonRace c.sk.toNat s]) []=List.replicate n (KC.wonRace c.sk.toNat s):=by
  intro n
  induction n with
  | zero=>rfl
  | succ n ih=>rw [List.range_succ,xX,ih];exact KC.replicate_snoc _ _
 rw [e0] at h
 exact cKe (by show _∧_;omega) h
end CU
end KV
end Go.Proofs
end
namespace Go.Proofs
namespace KV
open Tryz
section
variable {k r0:Int}{L fs:Lqq}{i base:Nat}
namespace CU
open KC
noncomputable abbrev aOo:Code:=pS (cd Tryz.f56) 6 [0,1,0,0]
def oF(c:KC.Cup)(fs:Lqq)(i Ln:Nat)(Lc:List PV):St:=⟨fr 56 [(4,(.ptr 0 0)),(5,(.ptr 1 0)),(40,(.own 3)),(41,(pI (((c.done.length+fs.length):Nat):Int))),(42,(pI (i:Int)))],[some (.box 98 [(pI 0),(pI 0),(pI 0),(.p cR),(.p cR)]),some (.box 34 [(pI c.sk),(pI c.ra),(pI c.be),(.own 2),(.own 3)]),some (.row 3 c.pts.length (c.pts.map aA)),some (.row 31 Ln Lc)]⟩
theorem cCf{c:KC.Cup}{Aw:Nat}{L'1:Lqq}(h0:c.pts.length≤1000)(h1:inR (((c.done.length+fs.length):Nat):Int))(h2:0≤(c.done.length:Int)∧(c.done.length:Int)≤(((c.done.length+fs.length):Nat):Int)∧(((c.done.length+fs.length):Nat):Int)≤1000000)(h3:(fs.map aE).length=fs.length*1∧c.done.length+fs.length≤1000000)(Jm:aF Tp 0 aOo (oF c fs 0 (c.done.length+fs.length) ((c.done.map aE)++(fs.map aE))) (.exit 0) (oF c fs Aw L'1.length (L'1.map aE))):FV Tp 56 [(.p (bU c)),(.p (aV fs))] base (.p (.agg [(aA c.sk),(aA c.ra),(aA c.be),(aE c.pts),(aV L'1)])) []:=have k1:=fk 3 (uO c.pts h0) rfl;FV.fi func56 [k1.o,Jm.k 10 (gI [0,4,6,34,43,11] [1,2,3,5])] (gc Jm.code (gc h3 (gt ((c.done.map aE).length=c.done.length∧c.done.length=c.done.length) (by simp) (gc h2 (gc h1 (gc k1 gn))))))
theorem bAr{c:KC.Cup}{Ad:List Int}{i':Nat}{L':Lqq}(h0:(i:Int)<(((c.done.length+fs.length):Nat):Int))(h1:L[i]? = some Ad)(h2:Ad.length≤1000)(h3:(i*1)<(L.map aE).length)(h4:dv i)(Ak:i'=(i+1))(Dx:L'.length=L.length)(Dy:L'.map aE=((L.map aE).set (i*1) (aE Ad))):aB Tp 0 aOo (oF c fs i L.length (L.map aE)) .normal (oF c fs i' L'.length (L'.map aE)):=by
 subst Ak;have k1:=fk 4 (uO Ad h2) rfl;rw [Dx,Dy];exact aB.fi (gI [0,4,6,34,43,11] du) [bT,.x (aE Ad),k1.o] (gc h4 (gc h3 (gc (aX (i:=(i:Int)) (C7 _) h1) (gc k1 (gc (atm aE h1) (gc (aX (i:=(i:Int)) (C7 _) h1) (g0 h0)))))))
theorem bAs{c:KC.Cup}(h0:(((c.done.length+fs.length):Nat):Int)≤(i:Int)):aB Tp 0 aOo (oF c fs i L.length (L.map aE)) (.exit 0) (oF c fs i L.length (L.map aE)):=aB.fi (gI [0,4,6,34,43,11] du) [bF] (gc (aQ h0) gn)
theorem yU(c:KC.Cup)(fs:Lqq)(hpl:c.pts.length≤1000)(hdl:c.done.length+fs.length≤1000)(hrl:∀ r∈c.done++fs,r.length≤1000){base:Nat} :
  FV Tp 56 [.p (bU c),.p (aV fs)] base (.p (bU (withC c fs))) []:=by
 have h:=aF.range (P:=Tp) (k:=0) (b:=aOo) (e := .exit 0) (fun i (_:Unit)=>oF c fs i (c.done++fs).length ((c.done++fs).map aE)) (fun _=>oF c fs (c.done++fs).length (c.done++fs).length ((c.done++fs).map aE)) (fun a _=>a) (fun _ _=>True) (by simp) (c.done++fs) (a0:=()) trivial
  (fun i x _ hx _=>⟨trivial,bAr (by have:=aT hx;rw [jT] at this;omega) hx (hrl x (Bp hx)) (by have:=aT hx;simpa using this) (aI (by have:=aT hx;rw [jT] at this;omega)) rfl rfl (by
   apply List.ext_getElem?;intro j;rw [List.getElem?_set,Nat.mul_one]
   split
   ·rename_i e;subst e
    have:=aT hx;rw [jU,hx,if_pos (by simpa using this)];rfl
   ·rfl)⟩)
  (fun _ _=>bAs (L:=c.done++fs) (by rw [jT];omega))
 refine cCf (L'1:=c.done++fs) (Aw:=(c.done++fs).length) hpl (aI (by omega)) (by omega) (by simp;omega) ?_
 simpa using h
theorem bVi{c:KC.Cup}(h0:KC.Small c)(Aq:r0=(KC.checkP c)):FV Tp 41 [(.p (bU c))] base (.tup [(.p (bU c)),(pI r0)]) []:=by
 subst Aq;have k1:=fk 2 (aUk c h0) rfl;exact FV.fi func41 [k1.o] (gc k1 gn)
theorem lX(c:KC.Cup)(hS:KC.Small c){base:Nat}:FV Tp 41 [.p (bU c)] base (.tup [.p (bU c),.p (aA (KC.checkP c))]) []:=bVi hS rfl
section
variable{c:KC.Cup}(h0:KC.Small c)(h1:(KC.checkP c)=0)(h2:inR (c.sk-1))
include h0 h1 h2
theorem bVj(h3:(within k 0 (c.sk-1))=false):FV Tp 125 [(.p (bU c)),(pI k)] base (.tup [(.p (bU c)),(pI 1)]) []:=have k1:=fk 2 (lX c h0) rfl;have k2:=fk 3 (bB k 0 (c.sk-1)) rfl;FV.fi func125 ([k1.o]++rT 5++[k2.o,bT,bT,bT]) (gc (cA h3) (Az (cT h1) (gc k2 (gc (cT h1) (gc h2 (A4 (cT h1) (gc k1 gn)))))))
theorem bVk(h3:(within k 0 (c.sk-1))=true)(Aq:r0=(KC.checkP c)):FV Tp 125 [(.p (bU c)),(pI k)] base (.tup [(.p (bU c)),(pI r0)]) []:=by
 subst Aq;have k1:=fk 2 (lX c h0) rfl;have k2:=fk 3 (bB k 0 (c.sk-1)) rfl;exact FV.fi func125 ([k1.o]++rT 5++[k2.o,bT,bT,bF]) (gc (aL h3) (Az (cT h1) (gc k2 (gc (cT h1) (gc h2 (A4 (cT h1) (gc k1 gn)))))))
end
theorem bVl{c:KC.Cup}(h0:KC.Small c)(h1:(KC.checkP c)≠0)(Aq:r0=(KC.checkP c)):FV Tp 125 [(.p (bU c)),(pI k)] base (.tup [(.p (bU c)),(pI r0)]) []:=by
 subst Aq;have k1:=fk 2 (lX c h0) rfl;exact FV.fi func125 ([k1.o]++rF 7) (Et (bE h1) (gc k1 gn))
theorem within_iff{n lo hi:Int}:within n lo hi=true↔lo≤n∧n≤hi:=by unfold within;simp
def namedE(c:KC.Cup)(k:Int):Int:=if KC.checkP c≠0 then KC.checkP c else if within k 0 (c.sk-1) then 0 else 1
theorem aGj(c:KC.Cup)(hS:KC.Small c)(k:Int){base:Nat}:FV Tp 125 [.p (bU c),.p (aA k)] base (.tup [.p (bU c),.p (aA (namedE c k))]) []:=by
 unfold namedE
 by_cases h:KC.checkP c=0
 ·have hV:=(KC.valid_iff c).1 h
  have h1:=hV.sk1;have h2:=hV.sk2;rw [if_neg (by simpa using h)]
  cases hw:within k 0 (c.sk-1) with
  | true=>exact bVk hS h (by show _∧_;omega) hw (by simp [h])
  | false=>exact bVj hS h (by show _∧_;omega) hw
 ·rw [if_pos h];exact bVl hS h rfl
theorem bVm{c:KC.Cup}(h0:KC.Small c)(h1:(KC.checkP c)=0)(h2:(fs.length:Int)≤20)(h3:c.pts.length≤1000)(h4:c.done.length+fs.length≤1000)(h5:∀ r∈c.done++fs,r.length≤1000)(h6:KC.Small (KC.withC c fs))(h7:(KC.checkP (KC.withC c fs))=0):FV Tp 18 [(.p (bU c)),(.p (aV fs))] base (.tup [(.p (.agg [(aA ((KC.withC c fs).sk)),(aA ((KC.withC c fs).ra)),(aA ((KC.withC c fs).be)),(aE ((KC.withC c fs).pts)),(aV ((KC.withC c fs).done))])),(pI 0)]) []:=have k1:=fk 2 (lX c h0) rfl;have k2:=fk 3 (yU c fs h3 h4 h5) rfl;have k3:=fk 4 (aUk (KC.withC c fs) h6) rfl;FV.frz (FMM.fi 0 gE func18 [k1.o,bF,bF,k2.o,k3.o,bF] (gc (fW h7) (gc k3 (gt (0+5≤[(aA ((KC.withC c fs).sk)),(aA ((KC.withC c fs).ra)),(aA ((KC.withC c fs).be)),(aE ((KC.withC c fs).pts)),(aV ((KC.withC c fs).done))].length) (by first | decide | simp) (gc k2 (gc (aQ h2) (gc (fW h1) (gc k1 gn)))))))) (by kernel_rfl)
def whoM(p:Nat→Bool)(n:Nat):List Int:=((List.range n).filter p).map fun (s:Nat)=>(s:Int)
theorem after_ok(c:KC.Cup)(fs:Lqq)(hV:KC.Valid c)(hl:fs.length≤20)(Fv:KC.Valid (KC.withC c fs)){base:Nat}:FV Tp 18 [.p (bU c),.p (aV fs)] base (.tup [.p (bU (KC.withC c fs)),.p (aA 0)]) [] :=
 bVm hV.small ((KC.valid_iff c).2 hV) (by omega) hV.small.pts (by have:=Fv.small.done;simpa [KC.withC] using this) Fv.small.rows Fv.small ((KC.valid_iff _).2 Fv)

end CU
end
end KV
end Go.Proofs
section
namespace Go.Proofs
open Go.RowKit
namespace KV
open Tryz
variable {i s i' Aw base:Nat}
namespace CU
noncomputable abbrev wS:Code:=sub (cd Tryz.f151) [1,0,1,0,0]
theorem cJw{c:KC.Cup}{r0:Bool}(h0:KC.Valid c)(h1:((s:Nat):Int)<c.sk)(h2:c.pts.length≤1000)(h3:c.done.length+(KC.wonM c s).length≤1000)(h4:∀ r∈c.done++(KC.wonM c s),r.length≤1000)(h5:KC.Valid (KC.withC c (KC.wonM c s)))(h6:((s:Nat):Int)<(KC.withC c (KC.wonM c s)).sk)(Aq:r0=((KC.rankM (KC.withC c (KC.wonM c s)) s) == 1)):FV Tp 86 [(.p (bU c)),(pI (s:Int))] base (pB r0) []:=by
 subst Aq;have k1:=fk 1 (aOr c h0 s h1) rfl;have k2:=fk 9 (yU c (KC.wonM c s) h2 h3 h4) rfl;have k3:=fk 17 (aDa (KC.withC c (KC.wonM c s)) h5 s h6) rfl;exact FV.fi func86 [k1.o,k2.o,k3.o] (gc k3 (gc k2 (gc k1 gn)))
theorem aKy{c:KC.Cup}(hV:KC.Valid c){s:Nat}(hs:(s:Int)<c.sk):c.pts.length≤1000∧c.done.length+(KC.wonM c s).length≤1000∧∀ r∈c.done++KC.wonM c s,r.length≤1000:=by
 have h:=(KC.valid_won hV hs).small;refine ⟨hV.small.pts,?_,h.rows⟩;have:=h.done
 rwa [show (KC.withC c (KC.wonM c s)).done=c.done++KC.wonM c s from rfl,jT] at this
theorem bVg(c:KC.Cup)(hV:KC.Valid c)(s:Nat)(hs:(s:Int)<c.sk){base:Nat}:FV Tp 86 [.p (bU c),.p (aA (s:Int))] base (pB (KC.canM c s)) [] :=
 have h:=aKy hV hs
 cJw hV hs h.1 h.2.1 h.2.2 (KC.valid_won hV hs) hs rfl
def jK(c:KC.Cup)(s i:Nat):St:=⟨fr 30 [(1,(pI (s:Int))),(2,(.ptr 0 0)),(10,(pI c.sk)),(11,(pI (i:Int)))],[some (.box 98 [(pI c.sk),(pI c.ra),(pI c.be),(.p (aE c.pts)),(.p (aV c.done))])]⟩
theorem cJx{c:KC.Cup}(hl0:aF Tp 0 wS (jK c s 0) (.exit 0) (jK c s Aw)):FV Tp 151 [(.p (bU c)),(pI (s:Int))] base (.tup [(.p cR),(pB false)]) []:=FV.fi func151 [hl0.k 6 (gI cx [0])] (gc hl0.code gn)
theorem cJy{c:KC.Cup}(hl0:aF Tp 0 wS (jK c s 0) .ret (cD (jK c s Aw) [(4,(.p (aV (KC.wonM c Aw)))),(5,(.kb true))])):FV Tp 151 [(.p (bU c)),(pI (s:Int))] base (.tup [(.p (aV (KC.wonM c Aw))),(pB true)]) []:=FV.fi func151 [hl0.k 6 (gI cx [0])] (gc hl0.code gn)
section
variable{c:KC.Cup}(h0:(i:Int)<c.sk)(h1:KC.Valid c)(h2:((i:Nat):Int)<c.sk)(h3:(i:Int)≠(s:Int))(h4:c.pts.length≤1000)(h5:c.done.length+(KC.wonM c i).length≤1000)(h6:∀ r∈c.done++(KC.wonM c i),r.length≤1000)(h7:KC.Valid (KC.withC c (KC.wonM c i)))(h8:((s:Nat):Int)<(KC.withC c (KC.wonM c i)).sk)
include h0 h1 h2 h3 h4 h5 h6 h7 h8
theorem bNo(h9:(1:Int)<(KC.rankM (KC.withC c (KC.wonM c i)) s)):aB Tp 0 wS (jK c s i) .ret (cD (jK c s i) [(4,(.p (aV (KC.wonM c i)))),(5,(.kb true))]):=have k1:=fk 1 (aOr c h1 i h2) rfl;have k2:=fk 1 (yU c (KC.wonM c i) h4 h5 h6) rfl;have k3:=fk 1 (aDa (KC.withC c (KC.wonM c i)) h7 s h8) rfl;aB.fi (gI [0,1,3,1,6,4,12,18] [0]) [bT,k1.o,bT,bT,bT,k2.o,bT,bT,k3.o,bT,bT,bT] (gc (bG h9) (Az (kS h3) (gc k3 (Az (kS h3) (gc k2 (Ay (kS h3) (gc k1 (g0 h0))))))))
theorem bNp(h9:(KC.rankM (KC.withC c (KC.wonM c i)) s)≤1)(A0:dv i)(Ak:i'=(i+1)):aB Tp 0 wS (jK c s i) .normal (jK c s i'):=by
 subst Ak;have k1:=fk 1 (aOr c h1 i h2) rfl;have k2:=fk 1 (yU c (KC.wonM c i) h4 h5 h6) rfl;have k3:=fk 1 (aDa (KC.withC c (KC.wonM c i)) h7 s h8) rfl;exact aB.fi (gI cx [0]) [bT,k1.o,bT,bT,bT,k2.o,bT,bT,k3.o,bT,bT,bF] (gc A0 (gc (aQ h9) (Az (kS h3) (gc k3 (Az (kS h3) (gc k2 (Ay (kS h3) (gc k1 (g0 h0)))))))))
end
theorem bNq{c:KC.Cup}(h0:(i:Int)<c.sk)(h1:KC.Valid c)(h2:((i:Nat):Int)<c.sk)(h3:(i:Int)=(s:Int))(h4:dv i)(Ak:i'=(i+1)):aB Tp 0 wS (jK c s i) .normal (jK c s i'):=by
 subst Ak;have k1:=fk 1 (aOr c h1 i h2) rfl;exact aB.fi (gI cx [0]) ([bT,k1.o]++rF 7) (gc h4 (Et (fW h3) (gc k1 (g0 h0))))
theorem bNr{c:KC.Cup}(h0:c.sk≤(i:Int)):aB Tp 0 wS (jK c s i) (.exit 0) (jK c s i):=aB.fi (gI cx [0]) [bF] (gc (aQ h0) gn)
theorem bVh{n i x:Nat}(h:(List.range n)[i]? = some x):x=i∧i<n:=by
 have hi:i<n:=by
  have:=aT h;simpa using this
 rw [bRc hi] at h
 exact ⟨(Option.some.inj h).symm,hi⟩
theorem passes_iff{c:KC.Cup}{s k:Nat}:KC.passes c s k=true↔k≠s∧1<KC.rankM (KC.withC c (KC.wonM c k)) s:=by
 unfold KC.passes;simp
theorem yT{c:KC.Cup}{s:Nat}:∀ f k,(KC.againstAt c s f k).isSome=true↔∃ j,k≤j∧j<k+f∧KC.passes c s j=true
 | 0,k=>by
  constructor
  ·intro h;cases h
  ·rintro ⟨j,h1,h2,_⟩;omega
 | f+1,k=>by
  rw [KC.againstAt_step]
  by_cases h:KC.passes c s k=true
  ·rw [if_pos h]
   exact ⟨fun _=>⟨k,dG _,by omega,h⟩,fun _=>rfl⟩
  ·rw [if_neg h,yT f (k+1)]
   constructor
   ·rintro ⟨j,h1,h2,h3⟩;exact ⟨j,by omega,by omega,h3⟩
   ·rintro ⟨j,h1,h2,h3⟩
    refine ⟨j,?_,by omega,h3⟩
    rcases Nat.lt_or_ge k j with h4 | h4
    ·exact h4
    ·obtain rfl:j=k:=by omega
     exact absurd h3 h
theorem sure_iff{c:KC.Cup}{s:Nat}:KC.sureM c s=true↔∀ k,k<c.sk.toNat→KC.passes c s k=false:=by
 unfold KC.sureM KC.againstM;have h:=yT (c:=c) (s:=s) c.sk.toNat 0;constructor
 ·intro h1 k hk
  cases hp:KC.passes c s k with
  | false=>rfl
  | true =>
   rw [h.2 ⟨k,by omega,by omega,hp⟩] at h1
   cases h1
 ·intro h1
  cases hq:(KC.againstAt c s c.sk.toNat 0).isSome with
  | false=>rfl
  | true =>
   obtain ⟨j,_,h3,h4⟩:=h.1 hq;rw [h1 j (by omega)] at h4
   cases h4
theorem cJz(c:KC.Cup)(hV:KC.Valid c)(s:Nat)(hs:(s:Int)<c.sk) :
  (∃ k,k<c.sk.toNat∧KC.passes c s k=true∧∀ base:Nat,FV Tp 151 [.p (bU c),.p (aA (s:Int))] base (.tup [.p (aV (KC.wonM c k)),.p (blP true)]) []) ∨
  ((∀ k,k<c.sk.toNat→KC.passes c s k=false)∧∀ base:Nat,FV Tp 151 [.p (bU c),.p (aA (s:Int))] base (.tup [.p cR,.p (blP false)]) []):=by
 have s1:=hV.sk1;have s2:=hV.sk2;have hW:∀ i:Nat,(i:Int)<c.sk→KC.Valid (KC.withC c (KC.wonM c i)):=fun i hi=>KC.valid_won hV hi
 have hw:=fun i (hi:((i:Nat):Int)<c.sk)=>aKy hV hi
 rcases aF.find (P:=Tp) (k:=0) (b:=wS) (fun i=>jK c s i) (fun i _=>cD (jK c s i) [(4,(.p (aV (KC.wonM c i)))),(5,(.kb true))]) (jK c s c.sk.toNat) .ret (.exit 0) (by simp) (by simp) (fun k=>KC.passes c s k) (List.range c.sk.toNat)
  (fun i x hx hp=>by
   obtain ⟨rfl,hi⟩:=bVh hx;have Bi:(x:Int)<c.sk:=by omega
   by_cases e:x=s
   ·exact bNq Bi hV Bi (by omega) (aI (by omega)) rfl
   ·have hq:¬ (1<KC.rankM (KC.withC c (KC.wonM c x)) s):=fun h=>by
     rw [passes_iff.2 ⟨e,h⟩] at hp;cases hp
    exact bNp Bi hV Bi (by omega) (hw x Bi).1 (hw x Bi).2.1 (hw x Bi).2.2 (hW x Bi) hs (by omega) (aI (by omega)) rfl)
  (fun i x hx hp=>by
   obtain ⟨rfl,hi⟩:=bVh hx;have Bi:(x:Int)<c.sk:=by omega
   obtain ⟨q1,q2⟩:=passes_iff.1 hp;exact bNo Bi hV Bi (by omega) (hw x Bi).1 (hw x Bi).2.1 (hw x Bi).2.2 (hW x Bi) hs q2)
  (by rw [aRl];exact bNr (by omega)) with ⟨i,x,h1,h2,h3,h4⟩ | ⟨h1,h2,h3⟩
 ·obtain ⟨rfl,hi⟩:=bVh h1
  exact .inl ⟨x,hi,h3,fun base=>cJy h4⟩
 ·exact .inr ⟨fun k hk=>by
   have:=List.any_eq_false.1 h2 k (lC.2 hk);simpa using this,fun base=>cJx h3⟩
theorem cKa{c:KC.Cup}{k0:Nat}(h0:∀ base:Nat,FV Tp 151 [.p (bU c),.p (aA (s:Int))] base (.tup [(.p (aV (KC.wonM c k0))),(pB true)]) []):FV Tp 87 [(.p (bU c)),(pI (s:Int))] base (pB false) []:=FV.fi func87 [.c (.tup [(.p (aV (KC.wonM c k0))),(pB true)]) []] (gc (fk 1 (h0 _) rfl) gn)
theorem cKb{c:KC.Cup}(h0:∀ base:Nat,FV Tp 151 [.p (bU c),.p (aA (s:Int))] base (.tup [(.p cR),(pB false)]) []):FV Tp 87 [(.p (bU c)),(pI (s:Int))] base (pB true) []:=FV.fi func87 [.c (.tup [(.p cR),(pB false)]) []] (gc (fk 1 (h0 _) rfl) gn)
theorem bFe(c:KC.Cup)(hV:KC.Valid c)(s:Nat)(hs:(s:Int)<c.sk){base:Nat}:FV Tp 87 [.p (bU c),.p (aA (s:Int))] base (pB (KC.sureM c s)) []:=by
 rcases cJz c hV s hs with ⟨k,h1,h2,h3⟩ | ⟨h1,h2⟩
 ·have e:KC.sureM c s=false:=by
   cases h:KC.sureM c s with
   | false=>rfl
   | true=>rw [sure_iff.1 h k h1] at h2;cases h2
  rw [e];exact cKa h3
 ·rw [sure_iff.2 h1]
  exact cKb h2
end CU
end KV
end Go.Proofs
end
namespace Go.Proofs
namespace KV
open Tryz
section
variable {o o' A5:List Int}{i i' Aw base:Nat}
namespace CU
open KC
noncomputable abbrev lO:Code:=sub (cd Tryz.f43) [1,1,0,1,0,0]
theorem cCb:FV Tp 42 [] base (.agg [(.fn 86 [] [])]) []:=FV.fi func42 [] gn
def lP(c:KC.Cup)(i on:Nat)(oc:List PV):St:=⟨fr 24 [(2,(.ptr 0 0)),(3,(.ptr 1 0)),(4,(.p cR)),(5,(.own 2)),(9,(pI c.sk)),(10,(pI (i:Int)))],[some (.box 103 [(.fn 86 [] [])]),some (.box 98 [(pI c.sk),(pI c.ra),(pI c.be),(.p (aE c.pts)),(.p (aV c.done))]),some (.row 3 on oc)]⟩
theorem cCc{c:KC.Cup}(hl0:aF Tp 0 lO (lP c 0 0 []) (.exit 0) (lP c Aw A5.length (A5.map aA))):FV Tp 43 [(.agg [(.fn 86 [] [])]),(.p (bU c))] base (.p (aE A5)) []:=FV.frz (FMM.fi 0 ⟨[],[],[2],[]⟩ func43 [hl0.k 8 (gN cy [0,1,2] [(5,3)])] (gc hl0.code gn)) (by kernel_rfl)
section
variable{c:KC.Cup}(h0:(i:Int)<c.sk)(h1:KC.Valid c)(h2:((i:Nat):Int)<c.sk)
include h0 h1 h2
theorem bAo(h3:(KC.canM c i)=true)(h4:[(aA (i:Int))].length=1*1∧o.length+1≤1000000)(h5:dv i)(Ak:i'=(i+1))(A6:o'.length=(o.length+1))(A7:o'.map aA=((o.map aA)++[(aA (i:Int))])):aB Tp 0 lO (lP c i o.length (o.map aA)) .normal (lP c i' o'.length (o'.map aA)):=by
 subst Ak;have k1:=fk 3 (bVg c h1 i h2) rfl;rw [A6,A7];exact aB.fi (gI cy [0,1,4]) [bT,k1.o,bT] (gc h5 (gc h4 (gc h3 (gc k1 (g0 h0)))))
theorem bAp(h3:(KC.canM c i)=false)(h4:dv i)(Ak:i'=(i+1)):aB Tp 0 lO (lP c i o.length (o.map aA)) .normal (lP c i' o.length (o.map aA)):=by
 subst Ak;have k1:=fk 3 (bVg c h1 i h2) rfl;exact aB.fi (gI cy [0,1,2]) [bT,k1.o,bF] (gc h4 (gc h3 (gc k1 (g0 h0))))
end
theorem bAq{c:KC.Cup}(h0:c.sk≤(i:Int)):aB Tp 0 lO (lP c i o.length (o.map aA)) (.exit 0) (lP c i o.length (o.map aA)):=aB.fi (gI cy [0,1,2]) [bF] (gc (aQ h0) gn)
theorem cCd(c:KC.Cup)(hV:KC.Valid c){base:Nat}:FV Tp 43 [.agg [.fn 86 [] []],.p (bU c)] base (.p (aE (whoM (KC.canM c) c.sk.toNat))) []:=by
 have h1:=hV.sk1;have h2:=hV.sk2;have h:=aF.times (P:=Tp) (k:=0) (b:=lO) (e := .exit 0) (fun i (o:List Int)=>lP c i o.length (o.map aA)) (fun o=>lP c c.sk.toNat o.length (o.map aA)) (fun acc s=>if KC.canM c s then acc++[(s:Int)] else acc) (fun i o=>o.length≤i) (by simp) c.sk.toNat (a0:=[]) (by simp)
  (fun i o hi hI=>by
   cases hc:KC.canM c i with
   | true=>exact ⟨by simp;omega,bAo (by omega) hV (by omega) hc (by simp;omega) (aI (by omega)) rfl (by simp) (by simp)⟩
   | false=>exact ⟨by simp;omega,bAp (by omega) hV (by omega) hc (aI (by omega)) rfl⟩)
  (fun o _=>bAq (by omega))
 rw [qU] at h
 exact cCc h
theorem cCe{c:KC.Cup}(h0:KC.Small c)(h1:(KC.checkP c)=0)(h2:KC.Valid c):FV Tp 11 [(.p (bU c))] base (.tup [(.p (aE (whoM (KC.canM c) c.sk.toNat))),(pI 0)]) []:=have k1:=fk 1 (lX c h0) rfl;have k2:=fk 2 cCb rfl;have k3:=fk 10 (cCd c h2) rfl;FV.frz (FMM.fi 0 gE func11 [k1.o,bF,k2.o,k3.o] (gc k3 (gc k2 (gc (fW h1) (gc k1 gn))))) (by kernel_rfl)
theorem canE_ok(c:KC.Cup)(hV:KC.Valid c){base:Nat}:FV Tp 11 [.p (bU c)] base (.tup [.p (aE (whoM (KC.canM c) c.sk.toNat)),.p (aA 0)]) []:=cCe hV.small ((KC.valid_iff c).2 hV) hV
theorem bVc:FV Tp 44 [] base (.agg [(.fn 87 [] [])]) []:=FV.fi func44 [] gn
def jA(c:KC.Cup)(i on:Nat)(oc:List PV):St:=⟨fr 24 [(2,(.ptr 0 0)),(3,(.ptr 1 0)),(4,(.p cR)),(5,(.own 2)),(9,(pI c.sk)),(10,(pI (i:Int)))],[some (.box 103 [(.fn 87 [] [])]),some (.box 98 [(pI c.sk),(pI c.ra),(pI c.be),(.p (aE c.pts)),(.p (aV c.done))]),some (.row 3 on oc)]⟩
theorem bVd{c:KC.Cup}(hl0:aF Tp 0 lO (jA c 0 0 []) (.exit 0) (jA c Aw A5.length (A5.map aA))):FV Tp 43 [(.agg [(.fn 87 [] [])]),(.p (bU c))] base (.p (aE A5)) []:=FV.frz (FMM.fi 0 ⟨[],[],[2],[]⟩ func43 [hl0.k 8 (gN cy [0,1,2] [(5,3)])] (gc hl0.code gn)) (by kernel_rfl)
section
variable{c:KC.Cup}(h0:(i:Int)<c.sk)(h1:KC.Valid c)(h2:((i:Nat):Int)<c.sk)
include h0 h1 h2
theorem aUc(h3:(KC.sureM c i)=true)(h4:[(aA (i:Int))].length=1*1∧o.length+1≤1000000)(h5:dv i)(Ak:i'=(i+1))(A6:o'.length=(o.length+1))(A7:o'.map aA=((o.map aA)++[(aA (i:Int))])):aB Tp 0 lO (jA c i o.length (o.map aA)) .normal (jA c i' o'.length (o'.map aA)):=by
 subst Ak;have k1:=fk 3 (bFe c h1 i h2) rfl;rw [A6,A7];exact aB.fi (gI cy [0,1,4]) [bT,k1.o,bT] (gc h5 (gc h4 (gc h3 (gc k1 (g0 h0)))))
theorem aUd(h3:(KC.sureM c i)=false)(h4:dv i)(Ak:i'=(i+1)):aB Tp 0 lO (jA c i o.length (o.map aA)) .normal (jA c i' o.length (o.map aA)):=by
 subst Ak;have k1:=fk 3 (bFe c h1 i h2) rfl;exact aB.fi (gI cy [0,1,2]) [bT,k1.o,bF] (gc h4 (gc h3 (gc k1 (g0 h0))))
end
theorem aUe{c:KC.Cup}(h0:c.sk≤(i:Int)):aB Tp 0 lO (jA c i o.length (o.map aA)) (.exit 0) (jA c i o.length (o.map aA)):=aB.fi (gI cy [0,1,2]) [bF] (gc (aQ h0) gn)
theorem bVe(c:KC.Cup)(hV:KC.Valid c){base:Nat}:FV Tp 43 [.agg [.fn 87 [] []],.p (bU c)] base (.p (aE (whoM (KC.sureM c) c.sk.toNat))) []:=by
 have h1:=hV.sk1;have h2:=hV.sk2;have h:=aF.times (P:=Tp) (k:=0) (b:=lO) (e := .exit 0) (fun i (o:List Int)=>jA c i o.length (o.map aA)) (fun o=>jA c c.sk.toNat o.length (o.map aA)) (fun acc s=>if KC.sureM c s then acc++[(s:Int)] else acc) (fun i o=>o.length≤i) (by simp) c.sk.toNat (a0:=[]) (by simp)
  (fun i o hi hI=>by
   cases hc:KC.sureM c i with
   | true=>exact ⟨by simp;omega,aUc (by omega) hV (by omega) hc (by simp;omega) (aI (by omega)) rfl (by simp) (by simp)⟩
   | false=>exact ⟨by simp;omega,aUd (by omega) hV (by omega) hc (aI (by omega)) rfl⟩)
  (fun o _=>aUe (by omega))
 rw [qU] at h
 exact bVd h
theorem bVf{c:KC.Cup}(h0:KC.Small c)(h1:(KC.checkP c)=0)(h2:KC.Valid c):FV Tp 12 [(.p (bU c))] base (.tup [(.p (aE (whoM (KC.sureM c) c.sk.toNat))),(pI 0)]) []:=have k1:=fk 1 (lX c h0) rfl;have k2:=fk 2 bVc rfl;have k3:=fk 10 (bVe c h2) rfl;FV.frz (FMM.fi 0 gE func12 [k1.o,bF,k2.o,k3.o] (gc k3 (gc k2 (gc (fW h1) (gc k1 gn))))) (by kernel_rfl)
theorem sureE_ok(c:KC.Cup)(hV:KC.Valid c){base:Nat}:FV Tp 12 [.p (bU c)] base (.tup [.p (aE (whoM (KC.sureM c) c.sk.toNat)),.p (aA 0)]) []:=bVf hV.small ((KC.valid_iff c).2 hV) hV
end CU
end
section
variable {j a0 a1 b0 b1 j' r0 Br Bb A8 Be B0 Bc Fe Ff Fy:Int}{L M l L' M' L'1 M'101:Lqq}{i i' Aw base:Nat}
namespace CU
open KC
noncomputable abbrev aGh:Code:=sub (cd Tryz.f176) [1,0,0,1,0,0,1,0,0]
noncomputable abbrev aGi:Code:=sub (cd Tryz.f217) [1,0,0,1,0,0,1,0,0]
noncomputable abbrev aOm:Code:=sub (cd Tryz.f176) [1,0,0]
noncomputable abbrev aOn:Code:=sub (cd Tryz.f217) [1,0,0]
def ltK(f:Nat)(x y:List Int):Bool:=decide (cmpI (x.getD f 0) (y.getD f 0)<0)
theorem aTm{a2 a3 b2 b3:Int}(Aq:r0=(cmpI a1 b1)):FV Tp 61 [(.p (.agg [(aA a0),(aA a1),(aA a2),(aA a3)])),(.p (.agg [(aA b0),(aA b1),(aA b2),(aA b3)]))] base (pI r0) []:=by
 subst Aq;have k1:=fk 2 (cmp_ok a1 b1) rfl;exact FV.fi func61 [k1.o] (gc k1 gn)
def lV(l:Lqq)(i Ln:Nat)(Lc:List PV):St:=⟨fr 53 [(0,(.own 0)),(1,(pI 0)),(2,(pI (l.length:Int))),(3,(.fn 61 [] [])),(8,(pI (i:Int)))],[some (.row 54 Ln Lc)]⟩
theorem aTn(hl0:aF Tp 1 aOm (lV l 1 l.length (l.flatten.map aA)) (.exit 0) (lV l Aw L'1.length (L'1.flatten.map aA))):FMM Tp 176 [(.own 0),(pI 0),(pI (l.length:Int)),(.fn 61 [] [])] [some (.row 54 l.length (l.flatten.map aA))] (.tup []) [some (.row 54 L'1.length (L'1.flatten.map aA))]:=FMM.fi 1 gE func176 [hl0.k 3 (gZ dr)] (gc hl0.code (gt (inR 1) (by show _∧_;omega) gn))
def iY(l:Lqq)(i:Nat)(j:Int)(Mn:Nat)(Mc:List PV):St:=⟨fr 53 [(0,(.own 0)),(1,(pI 0)),(2,(pI (l.length:Int))),(3,(.fn 61 [] [])),(8,(pI (i:Int))),(9,(pI j)),(12,(pI (i:Int))),(13,(pI (l.length:Int))),(14,(pB (decide ((i:Int)<(l.length:Int))))),(17,(pI (i:Int)))],[some (.row 54 Mn Mc)]⟩
theorem aTo(h0:(i:Int)<(l.length:Int))(hl1:aF Tp 1 aGh (iY l i (i:Int) L.length (L.flatten.map aA)) (.exit 2) (iY l i Fy M'101.length (M'101.flatten.map aA)))(h2:dv i)(Ak:i'=(i+1))(Dx:L'.length=M'101.length)(Dy:L'.flatten.map aA=(M'101.flatten.map aA)):aB Tp 1 aOm (lV l i L.length (L.flatten.map aA)) .normal (lV l i' L'.length (L'.flatten.map aA)):=by
 subst Ak;rw [Dx,Dy];exact aB.fi (gZ dr) [bT,hl1.k 5 (gZ cq)] (gc h2 (gc hl1.code (g0 h0)))
theorem aBv(h0:(l.length:Int)≤(i:Int)):aB Tp 1 aOm (lV l i L.length (L.flatten.map aA)) (.exit 0) (lV l i L.length (L.flatten.map aA)):=aB.fi (gZ dr) [bF] (gc (aQ h0) gn)
section
variable(h0:(0:Int)<j)(h1:M[j.toNat]? = some [Br,Bb,A8,Be])(h2:0≤j)(h3:uni 4 M)(h4:inR (j-1))(h5:M[(j-1).toNat]? = some [B0,Bc,Fe,Ff])(h6:0≤(j-1))
include h0 h1 h2 h3 h4 h5 h6
theorem aTp(h7:(cmpI Bb Bc)<0)(h8:[(aA B0),(aA Bc),(aA Fe),(aA Ff)].length=4∧(j.toNat*4)+4≤(M.flatten.map aA).length)(h9:0≤(j-1)∧(j-1)<(M.length:Int))(A0:[(aA Br),(aA Bb),(aA A8),(aA Be)].length=4∧((j-1).toNat*4)+4≤((M.flatten.map aA).take (j.toNat*4)++[(aA B0),(aA Bc),(aA Fe),(aA Ff)]++(M.flatten.map aA).drop ((j.toNat*4)+4)).length)(Du:j'=(j-1))(H7:M'.length=M.length)(H8:M'.flatten.map aA=(((M.flatten.map aA).take (j.toNat*4)++[(aA B0),(aA Bc),(aA Fe),(aA Ff)]++(M.flatten.map aA).drop ((j.toNat*4)+4)).take ((j-1).toNat*4)++[(aA Br),(aA Bb),(aA A8),(aA Be)]++((M.flatten.map aA).take (j.toNat*4)++[(aA B0),(aA Bc),(aA Fe),(aA Ff)]++(M.flatten.map aA).drop ((j.toNat*4)+4)).drop (((j-1).toNat*4)+4))):aB Tp 1 aGh (iY l i j M.length (M.flatten.map aA)) .normal (iY l i j' M'.length (M'.flatten.map aA)):=by
 subst Du;rw [H7,H8];exact aB.fi (gZ cq) (rT 5++[.x (.agg [(aA Br),(aA Bb),(aA A8),(aA Be)])]++rT 5++[.x (.agg [(aA B0),(aA Bc),(aA Fe),(aA Ff)]),bT,.c (pI (cmpI Bb Bc)) [],bT,bT,bT,.x (.agg [(aA B0),(aA Bc),(aA Fe),(aA Ff)]),.x (.agg [(aA Br),(aA Bb),(aA A8),(aA Be)])]) (gc h4 (gc A0 (gc h9 (gc h8 (gc (aX (i:=j) h2 h1) (gc (dE (i:=j.toNat) h3 h1) (gc (eA (i:=j.toNat) h3 h1) (gc (aX (i:=j) h2 h1) (gc (dE (i:=(j-1).toNat) h3 h5) (gc (eA (i:=(j-1).toNat) h3 h5) (gc (aX (i:=(j-1)) h6 h5) (Az h4 (gc (bG h7) (Az (bG h0) (gt (FC Tp 61 [(.p (.agg [(aA Br),(aA Bb),(aA A8),(aA Be)])),(.p (.agg [(aA B0),(aA Bc),(aA Fe),(aA Ff)]))] [] 1 (pI (cmpI Bb Bc)) []) (FV.fc (aTm rfl) rfl) (gc (bG h0) (gc (dE (i:=(j-1).toNat) h3 h5) (gc (eA (i:=(j-1).toNat) h3 h5) (gc (bG h0) (gc (aX (i:=(j-1)) h6 h5) (gc (bG h0) (gc h4 (Ay (bG h0) (gc (dE (i:=j.toNat) h3 h1) (gc (eA (i:=j.toNat) h3 h1) (gc (bG h0) (gc (aX (i:=j) h2 h1) (Ay (bG h0) (g0 h0)))))))))))))))))))))))))))))
theorem aTq(h7:(0:Int)≤(cmpI Bb Bc)):aB Tp 1 aGh (iY l i j M.length (M.flatten.map aA)) (.exit 2) (iY l i j M.length (M.flatten.map aA)):=aB.fi (gZ cq) (rT 5++[.x (.agg [(aA Br),(aA Bb),(aA A8),(aA Be)])]++rT 5++[.x (.agg [(aA B0),(aA Bc),(aA Fe),(aA Ff)]),bT,.c (pI (cmpI Bb Bc)) [],bT,bT,bF]) (gc (aQ h7) (Az (bG h0) (gt (FC Tp 61 [(.p (.agg [(aA Br),(aA Bb),(aA A8),(aA Be)])),(.p (.agg [(aA B0),(aA Bc),(aA Fe),(aA Ff)]))] [] 1 (pI (cmpI Bb Bc)) []) (FV.fc (aTm rfl) rfl) (gc (bG h0) (gc (dE (i:=(j-1).toNat) h3 h5) (gc (eA (i:=(j-1).toNat) h3 h5) (gc (bG h0) (gc (aX (i:=(j-1)) h6 h5) (gc (bG h0) (gc h4 (Ay (bG h0) (gc (dE (i:=j.toNat) h3 h1) (gc (eA (i:=j.toNat) h3 h1) (gc (bG h0) (gc (aX (i:=j) h2 h1) (Ay (bG h0) (g0 h0)))))))))))))))))
end
theorem aTr(h0:j≤0):aB Tp 1 aGh (iY l i j M.length (M.flatten.map aA)) (.exit 2) (iY l i j M.length (M.flatten.map aA)):=aB.fi (gZ cq) (rF 13) (Ia (aQ h0) (Cf (aQ h0) gn))
theorem cBx(l:Lqq)(i:Nat)(A R:Lqq)(hA:A.length<1000)(hi:i=A.length)(x0 x1 x2 x3:Int)(hu:uni 4 (A++[x0,x1,x2,x3]::R)):∀ m,m≤A.length→(∀ t (h:t<A.length),m≤t→ltK 1 [x0,x1,x2,x3] A[t]=true) →
  aF Tp 1 aGh (iY l i (m:Int) (mv A [x0,x1,x2,x3] m R).length ((mv A [x0,x1,x2,x3] m R).flatten.map aA)) (.exit 2) (iY l i (insPos (ltK 1) [x0,x1,x2,x3] A:Int) (ins (ltK 1) A [x0,x1,x2,x3]++R).length ((ins (ltK 1) A [x0,x1,x2,x3]++R).flatten.map aA)):=by
 have huA:∀ y∈A,y.length=4:=fun y hy=>hu y (mK _ hy)
 have huM:∀ m,uni 4 (mv A [x0,x1,x2,x3] m R):=fun m y hy=>by
  unfold mv at hy
  rcases fV.1 hy with h | h
  ·exact huA y (List.mem_of_mem_take h)
  ·rcases gK.1 h with rfl | h
   ·rfl
   ·rcases fV.1 h with h | h
    ·exact huA y (List.mem_of_mem_drop h)
    ·exact hu y (zQ _ (Cj _ h))
 intro m
 induction m with
 | zero =>
  intro _ hlt;have e:=insPos_eq (ltK 1) [x0,x1,x2,x3] A 0 (Nat.zero_le _) hlt (.inl rfl);rw [← mv_ins,e];exact .exit (aTr (by simp)) (by simp)
 | succ m ih =>
  intro hm hlt;have hy:=Av (show m<A.length by omega)
  generalize A[m]=y at hy
  obtain ⟨y0,y1,y2,y3,rfl⟩:=N9 (huA y (Bp hy));have e1:((m+1:Nat):Int).toNat=m+1:=by omega
  have e2:(((m+1:Nat):Int)-1).toNat=m:=by omega
  have hl:=mv_length A [x0,x1,x2,x3] (m+1) R hm;have g1:(mv A [x0,x1,x2,x3] (m+1) R)[m+1]? = some [x0,x1,x2,x3]:=by rw [mv_get A _ _ R hm];simp
  have g2:(mv A [x0,x1,x2,x3] (m+1) R)[m]? = some [y0,y1,y2,y3]:=by rw [mv_get A _ _ R hm,if_pos (by omega)];exact hy
  by_cases hc:cmpI x1 y1<0
  ·have st:=kE (k:=4) (i:=m+1) (x:=[y0,y1,y2,y3]) (huM (m+1)) (by omega) rfl
   have Fu:uni 4 ((mv A [x0,x1,x2,x3] (m+1) R).set (m+1) [y0,y1,y2,y3]):=aCr (huM _) rfl;have st2:=kE (k:=4) (i:=m) (x:=[x0,x1,x2,x3]) Fu (by rw [zS];omega) rfl
   have gm:((mv A [x0,x1,x2,x3] (m+1) R).set (m+1) [y0,y1,y2,y3])[m]? = some [y0,y1,y2,y3]:=by rw [List.getElem?_set,if_neg (by omega)];exact g2
   have hsw:=mv_swap A [x0,x1,x2,x3] (m+1) R hm (by omega) [y0,y1,y2,y3] (by simpa using hy)
   rw [Nat.add_sub_cancel] at hsw
   simp only [iB,List.map_nil] at st st2
   refine .step (aTp (j:=((m+1:Nat):Int)) (j':=(m:Int)) (M':=mv A [x0,x1,x2,x3] m R) (by omega) (by rw [e1];exact g1) (by omega) (huM _) (by show _∧_;omega) (by rw [e2];exact g2) (by omega) hc ⟨rfl,by rw [e1];exact eA (huM _) g1⟩ ⟨by omega,by omega⟩ ⟨rfl,?_⟩ (by omega) (by rw [hl,mv_length A _ _ R (by omega)]) ?_) (ih (by omega) fun t ht h1 => ?_)
   ·rw [e1,e2,st];exact eA Fu gm
   ·rw [e1,e2,st,st2,hsw]
   ·by_cases h2:t=m
    ·subst h2
     have h3:=hy;rw [Av ht,Option.some.injEq] at h3
     rw [h3];simpa [ltK] using hc
    ·exact hlt t ht (by omega)
  ·have e:=insPos_eq (ltK 1) [x0,x1,x2,x3] A (m+1) hm hlt (.inr ⟨[y0,y1,y2,y3],by simpa using hy,by simpa [ltK] using hc⟩)
   rw [← mv_ins,e];exact .exit (aTq (by omega) (by rw [e1];exact g1) (by omega) (huM _) (by show _∧_;omega) (by rw [e2];exact g2) (by omega) (by omega)) (by simp)
theorem bUu(l:Lqq)(hu:uni 4 l)(hn:l.length<1000):FMM Tp 176 [.own 0,.p (aA 0),.p (aA (l.length:Int)),.fn 61 [] []] [some (.row 54 l.length (l.flatten.map aA))] (.tup []) [some (.row 54 (isort (ltK 1) l).length ((isort (ltK 1) l).flatten.map aA))]:=by
 have hui:∀ i,uni 4 (isort (ltK 1) (l.take i)):=fun i y hy=>hu y (List.mem_of_mem_take ((isort_mem (ltK 1) _ y).1 hy))
 have key:∀ d i,i+d=l.length→1≤i→aF Tp 1 aOm (lV l i (isort (ltK 1) (l.take i)++l.drop i).length ((isort (ltK 1) (l.take i)++l.drop i).flatten.map aA)) (.exit 0) (lV l l.length (isort (ltK 1) l).length ((isort (ltK 1) l).flatten.map aA)):=by
  intro d
  induction d with
  | zero =>
   intro i hi _;obtain rfl:i=l.length:=by omega
   rw [List.take_length,List.drop_length,List.append_nil];exact .exit (aBv (by omega)) (by simp)
  | succ d ih =>
   intro i hi h1;have hlt:i<l.length:=by omega
   have hx:=hu l[i] (fG hlt);generalize hxx:l[i]=x at hx
   obtain ⟨x0,x1,x2,x3,rfl⟩:=N9 hx;have hAl:(isort (ltK 1) (l.take i)).length=i:=by rw [isort_length,jV];omega
   have hdr:l.drop i=[x0,x1,x2,x3]::l.drop (i+1):=by rw [aRk hlt,hxx]
   have hin:=cBx l i (isort (ltK 1) (l.take i)) (l.drop (i+1)) (by omega) hAl.symm x0 x1 x2 x3 (by
    intro y hy
    rcases fV.1 hy with h | h
    ·exact hui i y h
    ·rcases gK.1 h with rfl | h
     ·rfl
     ·exact hu y (List.mem_of_mem_drop h)) i (by omega) (fun t ht h2=>by omega)
   have hmv:mv (isort (ltK 1) (l.take i)) [x0,x1,x2,x3] i (l.drop (i+1))=isort (ltK 1) (l.take i)++l.drop i:=by
    have:=mv_end (isort (ltK 1) (l.take i)) [x0,x1,x2,x3] (l.drop (i+1));rw [hAl] at this;rw [this,hdr]
   have hsn:=isort_snoc (ltK 1) l i hlt;rw [hxx] at hsn
   rw [hmv,← hsn] at hin
   exact .step (aTo (by omega) hin (by show _∧_;omega) rfl rfl rfl) (ih (i+1) (by omega) (by omega))
 rcases Nat.eq_zero_or_pos l.length with h0 | hp
 ·have:l=[]:=uS h0
  subst this;exact aTn (aF.exit (aBv (l:=[]) (L:=[]) (i:=1) (by simp)) (by simp))
 ·have:=key (l.length-1) 1 (by omega) (by omega)
  have e1:isort (ltK 1) (l.take 1)++l.drop 1=l:=by
   cases l with
   | nil=>simp at hp
   | cons x r=>simp [isort,ins,insPos]
  rw [e1] at this
  exact aTn this
def yP(l:Lqq):St:=⟨fr 63 [(0,(.own 0)),(1,(pI (l.length:Int))),(2,(.fn 61 [] [])),(6,(pI 20)),(7,(pI 0)),(8,(pI 20))],[some (.row 54 l.length (l.flatten.map aA))]⟩
def yQ(l:Lqq):St:=⟨fr 63 [(0,(.own 0)),(1,(pI (l.length:Int))),(2,(.fn 61 [] [])),(6,(pI 20)),(7,(pI 0)),(8,(pI 20))],[some (.row 54 ((isort (ltK 1) l).length) ((isort (ltK 1) l).flatten.map aA))]⟩
theorem bUv(hl0:aF Tp 1 (sub (cd Tryz.f123) dj) (yP l) (.exit 0) (yP l))(h1:uni 4 l)(h2:l.length<1000)(B6:aF Tp 1 (sub (cd Tryz.f123) de) (yQ l) (.exit 2) (yQ l)):FMM Tp 123 [(.own 0),(pI (l.length:Int)),(.fn 61 [] [])] [some (.row 54 l.length (l.flatten.map aA))] (.tup []) [some (.row 54 ((isort (ltK 1) l).length) ((isort (ltK 1) l).flatten.map aA))]:=have k1:=mq [0] 1 (bUu l h1 h2);FMM.fi 1 gE func123 [hl0.k 6 (gZ az),k1.o,B6.k 1 (gZ dp)] (gc B6.code (gc k1 (gc hl0.code gn)))
theorem aTs(h0:(l.length:Int)<20):aB Tp 1 (sub (cd Tryz.f123) dj) (yP l) (.exit 0) (yP l):=aB.fi (gZ az) [bF] (gc (kT h0) gn)
theorem aTt(h0:(l.length:Int)≤20):aB Tp 1 (sub (cd Tryz.f123) de) (yQ l) (.exit 2) (yQ l):=aB.fi (gZ dp) [bF] (gc (aQ h0) gn)
theorem bUw(l:Lqq)(hu:uni 4 l)(hn:l.length<20):FMM Tp 123 [.own 0,.p (aA (l.length:Int)),.fn 61 [] []] [some (.row 54 l.length (l.flatten.map aA))] (.tup []) [some (.row 54 (isort (ltK 1) l).length ((isort (ltK 1) l).flatten.map aA))] := 
 bUv (aF.exit (aTs (by omega)) (by simp)) hu (by omega) (aF.exit (aTt (by omega)) (by simp))
theorem bUx(h0:uni 4 l)(h1:l.length<20):FMM Tp 60 [(.own 0),(.fn 61 [] [])] [some (.row 54 l.length (l.flatten.map aA))] (.tup []) [some (.row 54 ((isort (ltK 1) l).length) ((isort (ltK 1) l).flatten.map aA))]:=have k1:=mq [0] 1 (bUw l h0 h1);FMM.fi 1 gE func60 [k1.o] (gc k1 gn)
theorem cBy(l:Lqq)(hu:uni 4 l)(hn:l.length<20):FMM Tp 60 [.own 0,.fn 61 [] []] [some (.row 54 l.length (l.flatten.map aA))] (.tup []) [some (.row 54 (isort (ltK 1) l).length ((isort (ltK 1) l).flatten.map aA))]:=bUx hu hn
theorem aTu(Aq:r0=(cmpI a1 b1)):FV Tp 128 [(.p (.agg [(aA a0),(aA a1)])),(.p (.agg [(aA b0),(aA b1)]))] base (pI r0) []:=by
 subst Aq;have k1:=fk 2 (cmp_ok a1 b1) rfl;exact FV.fi func128 [k1.o] (gc k1 gn)
def lW(l:Lqq)(i Ln:Nat)(Lc:List PV):St:=⟨fr 53 [(0,(.own 0)),(1,(pI 0)),(2,(pI (l.length:Int))),(3,(.fn 128 [] [])),(8,(pI (i:Int)))],[some (.row 133 Ln Lc)]⟩
theorem aTv(hl0:aF Tp 1 aOn (lW l 1 l.length (l.flatten.map aA)) (.exit 0) (lW l Aw L'1.length (L'1.flatten.map aA))):FMM Tp 217 [(.own 0),(pI 0),(pI (l.length:Int)),(.fn 128 [] [])] [some (.row 133 l.length (l.flatten.map aA))] (.tup []) [some (.row 133 L'1.length (L'1.flatten.map aA))]:=FMM.fi 1 gE func217 [hl0.k 3 (gZ dr)] (gc hl0.code (gt (inR 1) (by show _∧_;omega) gn))
def iZ(l:Lqq)(i:Nat)(j:Int)(Mn:Nat)(Mc:List PV):St:=⟨fr 53 [(0,(.own 0)),(1,(pI 0)),(2,(pI (l.length:Int))),(3,(.fn 128 [] [])),(8,(pI (i:Int))),(9,(pI j)),(12,(pI (i:Int))),(13,(pI (l.length:Int))),(14,(pB (decide ((i:Int)<(l.length:Int))))),(17,(pI (i:Int)))],[some (.row 133 Mn Mc)]⟩
theorem aTw(h0:(i:Int)<(l.length:Int))(hl1:aF Tp 1 aGi (iZ l i (i:Int) L.length (L.flatten.map aA)) (.exit 2) (iZ l i Fy M'101.length (M'101.flatten.map aA)))(h2:dv i)(Ak:i'=(i+1))(Dx:L'.length=M'101.length)(Dy:L'.flatten.map aA=(M'101.flatten.map aA)):aB Tp 1 aOn (lW l i L.length (L.flatten.map aA)) .normal (lW l i' L'.length (L'.flatten.map aA)):=by
 subst Ak;rw [Dx,Dy];exact aB.fi (gZ dr) [bT,hl1.k 5 (gZ cq)] (gc h2 (gc hl1.code (g0 h0)))
theorem aBw(h0:(l.length:Int)≤(i:Int)):aB Tp 1 aOn (lW l i L.length (L.flatten.map aA)) (.exit 0) (lW l i L.length (L.flatten.map aA)):=aB.fi (gZ dr) [bF] (gc (aQ h0) gn)
section
variable(h0:(0:Int)<j)(h1:M[j.toNat]? = some [Br,Bb])(h2:0≤j)(h3:uni 2 M)(h4:inR (j-1))(h5:M[(j-1).toNat]? = some [A8,Be])(h6:0≤(j-1))
include h0 h1 h2 h3 h4 h5 h6
theorem aTx(h7:(cmpI Bb Be)<0)(h8:[(aA A8),(aA Be)].length=2∧(j.toNat*2)+2≤(M.flatten.map aA).length)(h9:0≤(j-1)∧(j-1)<(M.length:Int))(A0:[(aA Br),(aA Bb)].length=2∧((j-1).toNat*2)+2≤((M.flatten.map aA).take (j.toNat*2)++[(aA A8),(aA Be)]++(M.flatten.map aA).drop ((j.toNat*2)+2)).length)(Du:j'=(j-1))(H7:M'.length=M.length)(H8:M'.flatten.map aA=(((M.flatten.map aA).take (j.toNat*2)++[(aA A8),(aA Be)]++(M.flatten.map aA).drop ((j.toNat*2)+2)).take ((j-1).toNat*2)++[(aA Br),(aA Bb)]++((M.flatten.map aA).take (j.toNat*2)++[(aA A8),(aA Be)]++(M.flatten.map aA).drop ((j.toNat*2)+2)).drop (((j-1).toNat*2)+2))):aB Tp 1 aGi (iZ l i j M.length (M.flatten.map aA)) .normal (iZ l i j' M'.length (M'.flatten.map aA)):=by
 subst Du;rw [H7,H8];exact aB.fi (gZ cq) (rT 5++[.x (.agg [(aA Br),(aA Bb)])]++rT 5++[.x (.agg [(aA A8),(aA Be)]),bT,.c (pI (cmpI Bb Be)) [],bT,bT,bT,.x (.agg [(aA A8),(aA Be)]),.x (.agg [(aA Br),(aA Bb)])]) (gc h4 (gc A0 (gc h9 (gc h8 (gc (aX (i:=j) h2 h1) (gc (dE (i:=j.toNat) h3 h1) (gc (eA (i:=j.toNat) h3 h1) (gc (aX (i:=j) h2 h1) (gc (dE (i:=(j-1).toNat) h3 h5) (gc (eA (i:=(j-1).toNat) h3 h5) (gc (aX (i:=(j-1)) h6 h5) (Az h4 (gc (bG h7) (Az (bG h0) (gt (FC Tp 128 [(.p (.agg [(aA Br),(aA Bb)])),(.p (.agg [(aA A8),(aA Be)]))] [] 1 (pI (cmpI Bb Be)) []) (FV.fc (aTu rfl) rfl) (gc (bG h0) (gc (dE (i:=(j-1).toNat) h3 h5) (gc (eA (i:=(j-1).toNat) h3 h5) (gc (bG h0) (gc (aX (i:=(j-1)) h6 h5) (gc (bG h0) (gc h4 (Ay (bG h0) (gc (dE (i:=j.toNat) h3 h1) (gc (eA (i:=j.toNat) h3 h1) (gc (bG h0) (gc (aX (i:=j) h2 h1) (Ay (bG h0) (g0 h0)))))))))))))))))))))))))))))
theorem aTy(h7:(0:Int)≤(cmpI Bb Be)):aB Tp 1 aGi (iZ l i j M.length (M.flatten.map aA)) (.exit 2) (iZ l i j M.length (M.flatten.map aA)):=aB.fi (gZ cq) (rT 5++[.x (.agg [(aA Br),(aA Bb)])]++rT 5++[.x (.agg [(aA A8),(aA Be)]),bT,.c (pI (cmpI Bb Be)) [],bT,bT,bF]) (gc (aQ h7) (Az (bG h0) (gt (FC Tp 128 [(.p (.agg [(aA Br),(aA Bb)])),(.p (.agg [(aA A8),(aA Be)]))] [] 1 (pI (cmpI Bb Be)) []) (FV.fc (aTu rfl) rfl) (gc (bG h0) (gc (dE (i:=(j-1).toNat) h3 h5) (gc (eA (i:=(j-1).toNat) h3 h5) (gc (bG h0) (gc (aX (i:=(j-1)) h6 h5) (gc (bG h0) (gc h4 (Ay (bG h0) (gc (dE (i:=j.toNat) h3 h1) (gc (eA (i:=j.toNat) h3 h1) (gc (bG h0) (gc (aX (i:=j) h2 h1) (Ay (bG h0) (g0 h0)))))))))))))))))
end
theorem aTz(h0:j≤0):aB Tp 1 aGi (iZ l i j M.length (M.flatten.map aA)) (.exit 2) (iZ l i j M.length (M.flatten.map aA)):=aB.fi (gZ cq) (rF 13) (Ia (aQ h0) (Cf (aQ h0) gn))
theorem cBz(l:Lqq)(i:Nat)(A R:Lqq)(hA:A.length<1000)(hi:i=A.length)(x0 x1:Int)(hu:uni 2 (A++[x0,x1]::R)):∀ m,m≤A.length→(∀ t (h:t<A.length),m≤t→ltK 1 [x0,x1] A[t]=true) →
  aF Tp 1 aGi (iZ l i (m:Int) (mv A [x0,x1] m R).length ((mv A [x0,x1] m R).flatten.map aA)) (.exit 2) (iZ l i (insPos (ltK 1) [x0,x1] A:Int) (ins (ltK 1) A [x0,x1]++R).length ((ins (ltK 1) A [x0,x1]++R).flatten.map aA)):=by
 have huA:∀ y∈A,y.length=2:=fun y hy=>hu y (mK _ hy)
 have huM:∀ m,uni 2 (mv A [x0,x1] m R):=fun m y hy=>by
  unfold mv at hy
  rcases fV.1 hy with h | h
  ·exact huA y (List.mem_of_mem_take h)
  ·rcases gK.1 h with rfl | h
   ·rfl
   ·rcases fV.1 h with h | h
    ·exact huA y (List.mem_of_mem_drop h)
    ·exact hu y (zQ _ (Cj _ h))
 intro m
 induction m with
 | zero =>
  intro _ hlt;have e:=insPos_eq (ltK 1) [x0,x1] A 0 (Nat.zero_le _) hlt (.inl rfl);rw [← mv_ins,e];exact .exit (aTz (by simp)) (by simp)
 | succ m ih =>
  intro hm hlt;have hy:=Av (show m<A.length by omega)
  generalize A[m]=y at hy
  obtain ⟨y0,y1,rfl⟩:=len2 (huA y (Bp hy));have e1:((m+1:Nat):Int).toNat=m+1:=by omega
  have e2:(((m+1:Nat):Int)-1).toNat=m:=by omega
  have hl:=mv_length A [x0,x1] (m+1) R hm;have g1:(mv A [x0,x1] (m+1) R)[m+1]? = some [x0,x1]:=by rw [mv_get A _ _ R hm];simp
  have g2:(mv A [x0,x1] (m+1) R)[m]? = some [y0,y1]:=by rw [mv_get A _ _ R hm,if_pos (by omega)];exact hy
  by_cases hc:cmpI x1 y1<0
  ·have st:=kE (k:=2) (i:=m+1) (x:=[y0,y1]) (huM (m+1)) (by omega) rfl
   have Fu:uni 2 ((mv A [x0,x1] (m+1) R).set (m+1) [y0,y1]):=aCr (huM _) rfl;have st2:=kE (k:=2) (i:=m) (x:=[x0,x1]) Fu (by rw [zS];omega) rfl
   have gm:((mv A [x0,x1] (m+1) R).set (m+1) [y0,y1])[m]? = some [y0,y1]:=by rw [List.getElem?_set,if_neg (by omega)];exact g2
   have hsw:=mv_swap A [x0,x1] (m+1) R hm (by omega) [y0,y1] (by simpa using hy)
   rw [Nat.add_sub_cancel] at hsw
   simp only [iB,List.map_nil] at st st2
   refine .step (aTx (j:=((m+1:Nat):Int)) (j':=(m:Int)) (M':=mv A [x0,x1] m R) (by omega) (by rw [e1];exact g1) (by omega) (huM _) (by show _∧_;omega) (by rw [e2];exact g2) (by omega) hc ⟨rfl,by rw [e1];exact eA (huM _) g1⟩ ⟨by omega,by omega⟩ ⟨rfl,?_⟩ (by omega) (by rw [hl,mv_length A _ _ R (by omega)]) ?_) (ih (by omega) fun t ht h1 => ?_)
   ·rw [e1,e2,st];exact eA Fu gm
   ·rw [e1,e2,st,st2,hsw]
   ·by_cases h2:t=m
    ·subst h2
     have h3:=hy;rw [Av ht,Option.some.injEq] at h3
     rw [h3];simpa [ltK] using hc
    ·exact hlt t ht (by omega)
  ·have e:=insPos_eq (ltK 1) [x0,x1] A (m+1) hm hlt (.inr ⟨[y0,y1],by simpa using hy,by simpa [ltK] using hc⟩)
   rw [← mv_ins,e];exact .exit (aTy (by omega) (by rw [e1];exact g1) (by omega) (huM _) (by show _∧_;omega) (by rw [e2];exact g2) (by omega) (by omega)) (by simp)
theorem bUy(l:Lqq)(hu:uni 2 l)(hn:l.length<1000):FMM Tp 217 [.own 0,.p (aA 0),.p (aA (l.length:Int)),.fn 128 [] []] [some (.row 133 l.length (l.flatten.map aA))] (.tup []) [some (.row 133 (isort (ltK 1) l).length ((isort (ltK 1) l).flatten.map aA))]:=by
 have hui:∀ i,uni 2 (isort (ltK 1) (l.take i)):=fun i y hy=>hu y (List.mem_of_mem_take ((isort_mem (ltK 1) _ y).1 hy))
 have key:∀ d i,i+d=l.length→1≤i→aF Tp 1 aOn (lW l i (isort (ltK 1) (l.take i)++l.drop i).length ((isort (ltK 1) (l.take i)++l.drop i).flatten.map aA)) (.exit 0) (lW l l.length (isort (ltK 1) l).length ((isort (ltK 1) l).flatten.map aA)):=by
  intro d
  induction d with
  | zero =>
   intro i hi _;obtain rfl:i=l.length:=by omega
   rw [List.take_length,List.drop_length,List.append_nil];exact .exit (aBw (by omega)) (by simp)
  | succ d ih =>
   intro i hi h1;have hlt:i<l.length:=by omega
   have hx:=hu l[i] (fG hlt);generalize hxx:l[i]=x at hx
   obtain ⟨x0,x1,rfl⟩:=len2 hx;have hAl:(isort (ltK 1) (l.take i)).length=i:=by rw [isort_length,jV];omega
   have hdr:l.drop i=[x0,x1]::l.drop (i+1):=by rw [aRk hlt,hxx]
   have hin:=cBz l i (isort (ltK 1) (l.take i)) (l.drop (i+1)) (by omega) hAl.symm x0 x1 (by
    intro y hy
    rcases fV.1 hy with h | h
    ·exact hui i y h
    ·rcases gK.1 h with rfl | h
     ·rfl
     ·exact hu y (List.mem_of_mem_drop h)) i (by omega) (fun t ht h2=>by omega)
   have hmv:mv (isort (ltK 1) (l.take i)) [x0,x1] i (l.drop (i+1))=isort (ltK 1) (l.take i)++l.drop i:=by
    have:=mv_end (isort (ltK 1) (l.take i)) [x0,x1] (l.drop (i+1));rw [hAl] at this;rw [this,hdr]
   have hsn:=isort_snoc (ltK 1) l i hlt;rw [hxx] at hsn
   rw [hmv,← hsn] at hin
   exact .step (aTw (by omega) hin (by show _∧_;omega) rfl rfl rfl) (ih (i+1) (by omega) (by omega))
 rcases Nat.eq_zero_or_pos l.length with h0 | hp
 ·have:l=[]:=uS h0
  subst this;exact aTv (aF.exit (aBw (l:=[]) (L:=[]) (i:=1) (by simp)) (by simp))
 ·have:=key (l.length-1) 1 (by omega) (by omega)
  have e1:isort (ltK 1) (l.take 1)++l.drop 1=l:=by
   cases l with
   | nil=>simp at hp
   | cons x r=>simp [isort,ins,insPos]
  rw [e1] at this
  exact aTv this
def yR(l:Lqq):St:=⟨fr 63 [(0,(.own 0)),(1,(pI (l.length:Int))),(2,(.fn 128 [] [])),(6,(pI 20)),(7,(pI 0)),(8,(pI 20))],[some (.row 133 l.length (l.flatten.map aA))]⟩
def yS(l:Lqq):St:=⟨fr 63 [(0,(.own 0)),(1,(pI (l.length:Int))),(2,(.fn 128 [] [])),(6,(pI 20)),(7,(pI 0)),(8,(pI 20))],[some (.row 133 ((isort (ltK 1) l).length) ((isort (ltK 1) l).flatten.map aA))]⟩
theorem bUz(hl0:aF Tp 1 (sub (cd Tryz.f178) dj) (yR l) (.exit 0) (yR l))(h1:uni 2 l)(h2:l.length<1000)(B6:aF Tp 1 (sub (cd Tryz.f178) de) (yS l) (.exit 2) (yS l)):FMM Tp 178 [(.own 0),(pI (l.length:Int)),(.fn 128 [] [])] [some (.row 133 l.length (l.flatten.map aA))] (.tup []) [some (.row 133 ((isort (ltK 1) l).length) ((isort (ltK 1) l).flatten.map aA))]:=have k1:=mq [0] 1 (bUy l h1 h2);FMM.fi 1 gE func178 [hl0.k 6 (gZ az),k1.o,B6.k 1 (gZ dp)] (gc B6.code (gc k1 (gc hl0.code gn)))
theorem aUa(h0:(l.length:Int)<20):aB Tp 1 (sub (cd Tryz.f178) dj) (yR l) (.exit 0) (yR l):=aB.fi (gZ az) [bF] (gc (kT h0) gn)
theorem aUb(h0:(l.length:Int)≤20):aB Tp 1 (sub (cd Tryz.f178) de) (yS l) (.exit 2) (yS l):=aB.fi (gZ dp) [bF] (gc (aQ h0) gn)
theorem bVa(l:Lqq)(hu:uni 2 l)(hn:l.length<20):FMM Tp 178 [.own 0,.p (aA (l.length:Int)),.fn 128 [] []] [some (.row 133 l.length (l.flatten.map aA))] (.tup []) [some (.row 133 (isort (ltK 1) l).length ((isort (ltK 1) l).flatten.map aA))] := 
 bUz (aF.exit (aUa (by omega)) (by simp)) hu (by omega) (aF.exit (aUb (by omega)) (by simp))
theorem bVb(h0:uni 2 l)(h1:l.length<20):FMM Tp 127 [(.own 0),(.fn 128 [] [])] [some (.row 133 l.length (l.flatten.map aA))] (.tup []) [some (.row 133 ((isort (ltK 1) l).length) ((isort (ltK 1) l).flatten.map aA))]:=have k1:=mq [0] 1 (bVa l h0 h1);FMM.fi 1 gE func127 [k1.o] (gc k1 gn)
theorem cCa(l:Lqq)(hu:uni 2 l)(hn:l.length<20):FMM Tp 127 [.own 0,.fn 128 [] []] [some (.row 133 l.length (l.flatten.map aA))] (.tup []) [some (.row 133 (isort (ltK 1) l).length ((isort (ltK 1) l).flatten.map aA))]:=bVb hu hn
end CU
end
end KV
end Go.Proofs
section
namespace Go.Proofs
namespace KC

theorem pA:∀ (r:List Int) (v:Int) (k:Nat),(v::r).Pairwise (· ≤ ·) →
  ((∃ f,clashLoop (some v) (v+k) r=some f∧f≤61)↔(v+k+(r.count v:Nat)≤61∧∀ q∈r,v<q→v+k+(r.count v:Nat)≤q)∧∀ p∈r,v<p→p+(r.count p:Nat)≤61∧∀ q∈r,p<q→p+(r.count p:Nat)≤q)
 | [],v,k,_=>by simp [clashLoop]
 | x::r,v,k,hs=>by
  obtain ⟨h1,h2⟩:=List.pairwise_cons.1 hs;have hx:v≤x:=h1 x (by simp)
  obtain ⟨h3,h4⟩:=List.pairwise_cons.1 h2;have hr:∀ q∈r,x≤q:=h3;unfold clashLoop
  by_cases he:v=x
  ·subst he
   rw [if_pos rfl];have ih:=pA r v (k+1) h2;have e:v+((k+1:Nat):Int)=v+k+1:=by omega
   rw [e] at ih
   rw [ih];have c1:(((v::r).count v:Nat):Int)=(r.count v:Nat)+1:=by rw [List.count_cons_self];omega
   rw [c1];have c2:∀ p,v<p→(v::r).count p=r.count p:=fun p hp=>List.count_cons_of_ne (by omega)
   constructor
   ·rintro ⟨⟨q1,q2⟩,q3⟩
    refine ⟨⟨by omega,fun q hq hv => ?_⟩,fun p hp hv => ?_⟩
    ·rcases List.mem_cons.1 hq with rfl | hq
     ·omega
     ·have:=q2 q hq hv;omega
    ·rcases List.mem_cons.1 hp with rfl | hp
     ·omega
     ·rw [c2 p hv]
      obtain ⟨q4,q5⟩:=q3 p hp hv;refine ⟨q4,fun q hq F8 => ?_⟩
      rcases List.mem_cons.1 hq with rfl | hq
      ·omega
      ·exact q5 q hq F8
   ·rintro ⟨⟨q1,q2⟩,q3⟩
    refine ⟨⟨by omega,fun q hq hv => ?_⟩,fun p hp hv => ?_⟩
    ·have:=q2 q (List.mem_cons_of_mem _ hq) hv;omega
    ·obtain ⟨q4,q5⟩:=q3 p (List.mem_cons_of_mem _ hp) hv
     rw [c2 p hv] at q4 q5
     exact ⟨q4,fun q hq F8=>q5 q (List.mem_cons_of_mem _ hq) F8⟩
  ·have hlt:v<x:=by omega
   rw [if_neg (by simpa using he)]
   have c0:(x::r).count v=0:=List.count_eq_zero.2 fun hm=>by
    rcases List.mem_cons.1 hm with h | h
    ·omega
    ·have:=hr v h;omega
   rw [c0]
   by_cases hc:x<v+k
   ·rw [if_pos hc]
    constructor
    ·rintro ⟨f,h,_⟩;cases h
    ·rintro ⟨⟨_,q2⟩,_⟩
     have:=q2 x (by simp) hlt
     simp at this
     omega
   ·rw [if_neg hc]
    have ih:=pA r x 1 h2;have e:x+((1:Nat):Int)=x+1:=rfl;rw [e] at ih
    rw [ih];have c1:(((x::r).count x:Nat):Int)=(r.count x:Nat)+1:=by rw [List.count_cons_self];omega
    have c2:∀ p,x<p→(x::r).count p=r.count p:=fun p hp=>List.count_cons_of_ne (by omega)
    constructor
    ·rintro ⟨⟨q1,q2⟩,q3⟩
     refine ⟨⟨by simp;omega,fun q hq hv => ?_⟩,fun p hp hv => ?_⟩
     ·rcases List.mem_cons.1 hq with rfl | hq
      ·simp;omega
      ·have:=hr q hq;simp;omega
     ·have hpx:p=x∨(p∈r∧x<p):=by
       rcases List.mem_cons.1 hp with h | h
       ·exact .inl h
       ·have:=hr p h
        by_cases hpx:p=x
        ·exact .inl hpx
        ·exact .inr ⟨h,by omega⟩
      rcases hpx with rfl | ⟨hp,hxp⟩
      ·rw [c1]
       refine ⟨by omega,fun q hq F8 => ?_⟩
       rcases List.mem_cons.1 hq with rfl | hq
       ·omega
       ·have:=q2 q hq F8;omega
      ·rw [c2 p hxp]
       obtain ⟨q4,q5⟩:=q3 p hp hxp;refine ⟨q4,fun q hq F8 => ?_⟩
       rcases List.mem_cons.1 hq with rfl | hq
       ·omega
       ·exact q5 q hq F8
    ·rintro ⟨⟨q1,q2⟩,q3⟩
     obtain ⟨q4,q5⟩:=q3 x (by simp) hlt
     rw [c1] at q4 q5
     refine ⟨⟨by omega,fun q hq hv => ?_⟩,fun p hp hv => ?_⟩
     ·have:=q5 q (List.mem_cons_of_mem _ hq) hv;omega
     ·obtain ⟨q6,q7⟩:=q3 p (List.mem_cons_of_mem _ hp) (by omega)
      rw [c2 p hv] at q6 q7
      exact ⟨q6,fun q hq F8=>q7 q (List.mem_cons_of_mem _ hq) F8⟩

def NoClash(race:List Int):Prop:=∀ p∈race,p≠0→p+(race.count p:Nat)≤61∧∀ q∈race,p<q→p+(race.count p:Nat)≤q

theorem aLh:∀ a b c:Int,leB a b=true→leB b c=true→leB a c=true:=fun a b c h1 h2=>by simp [leB,KL.leB] at *;omega
theorem aLi:∀ a b:Int,(leB a b || leB b a)=true:=fun a b=>by simp [leB,KL.leB];omega

theorem clash_iff(race:List Int)(h0:∀ x∈race,0≤x):clashR race=false↔NoClash race:=by
 have hs:(placesOf race).Pairwise (· ≤ ·):=by
  have:=List.pairwise_mergeSort aLh aLi (race.filter fun x => !nz x)
  exact this.imp (fun h=>by simpa [leB,KL.leB] using h)
 have hm:∀ x,x∈placesOf race↔x∈race∧x≠0:=fun x=>by
  unfold placesOf;rw [List.mem_mergeSort,List.mem_filter];simp [nz]
 have hc:∀ x,x≠0→(placesOf race).count x=race.count x:=fun x hx=>by
  unfold placesOf;rw [(List.mergeSort_perm _ _).count_eq,List.count_filter];simp [nz,hx]
 have key:clashR race=false↔∃ f,clashLoop none 1 (placesOf race)=some f∧f≤61:=by
  unfold clashR;cases h:clashLoop none 1 (placesOf race) with
  | none=>simp
  | some f=>simp
 rw [key];have fin:∀ l:List Int,(∀ x,x∈l↔x∈race∧x≠0)→(∀ x,x≠0→l.count x=race.count x)→((∀ p∈l,p+(l.count p:Nat)≤61∧∀ q∈l,p<q→p+(l.count p:Nat)≤q)↔NoClash race):=fun l hm hc=>by
  constructor
  ·intro h p hp Gs
   obtain ⟨h1,h2⟩:=h p ((hm p).2 ⟨hp,Gs⟩);rw [hc p Gs] at h1 h2
   exact ⟨h1,fun q hq hlt=>h2 q ((hm q).2 ⟨hq,by have:=h0 p hp;omega⟩) hlt⟩
  ·intro h p hp
   obtain ⟨h1,h2⟩:=(hm p).1 hp;rw [hc p h2];obtain ⟨h3,h4⟩:=h p h1 h2;exact ⟨h3,fun q hq hlt=>h4 q ((hm q).1 hq).1 hlt⟩
 rw [← fin _ hm hc];cases hl:placesOf race with
 | nil=>simp [clashLoop]
 | cons x r =>
  rw [hl] at hs hm
  have Nt:1≤x:=by
   obtain ⟨h1,h2⟩:=(hm x).1 (by simp)
   have:=h0 x h1;omega
  unfold clashLoop;rw [if_neg (by simp),if_neg (by omega)]
  have:=pA r x 1 hs;rw [show x+((1:Nat):Int)=x+1 from rfl] at this
  rw [this];obtain ⟨h3,_⟩:=List.pairwise_cons.1 hs;have c1:(((x::r).count x:Nat):Int)=(r.count x:Nat)+1:=by rw [List.count_cons_self];omega
  have c2:∀ p,x<p→(x::r).count p=r.count p:=fun p hp=>List.count_cons_of_ne (by omega)
  constructor
  ·rintro ⟨⟨q1,q2⟩,q3⟩ p hp
   have hpx:p=x∨(p∈r∧x<p):=by
    rcases List.mem_cons.1 hp with h | h
    ·exact .inl h
    ·have:=h3 p h
     by_cases hpx:p=x
     ·exact .inl hpx
     ·exact .inr ⟨h,by omega⟩
   rcases hpx with rfl | ⟨hp,hxp⟩
   ·rw [c1]
    refine ⟨by omega,fun q hq F8 => ?_⟩
    rcases List.mem_cons.1 hq with rfl | hq
    ·omega
    ·have:=q2 q hq F8;omega
   ·rw [c2 p hxp]
    obtain ⟨q4,q5⟩:=q3 p hp hxp;refine ⟨q4,fun q hq F8 => ?_⟩
    rcases List.mem_cons.1 hq with rfl | hq
    ·omega
    ·exact q5 q hq F8
  ·intro h
   obtain ⟨q4,q5⟩:=h x (by simp)
   rw [c1] at q4 q5
   refine ⟨⟨by omega,fun q hq hv => ?_⟩,fun p hp hv => ?_⟩
   ·have:=q5 q (List.mem_cons_of_mem _ hq) hv;omega
   ·obtain ⟨q6,q7⟩:=h p (List.mem_cons_of_mem _ hp)
    rw [c2 p hv] at q6 q7
    exact ⟨q6,fun q hq F8=>q7 q (List.mem_cons_of_mem _ hq) F8⟩

def race2(n o:Nat)(p:Int)(s:Nat)(w:Int):List Int:=((List.replicate n (0:Int)).set o p).set s w
theorem race2_length(n o:Nat)(p:Int)(s:Nat)(w:Int):(race2 n o p s w).length=n:=by simp [race2]
theorem aLj{n o s:Nat}{p w x:Int}(h:x∈race2 n o p s w):x=0∨x=p∨x=w:=by
 unfold race2 at h
 rcases List.mem_or_eq_of_mem_set h with h | h
 ·rcases List.mem_or_eq_of_mem_set h with h | h
  ·rw [List.mem_replicate] at h;exact .inl h.2
  ·exact .inr (.inl h)
 ·exact .inr (.inr h)
theorem count_set_le{l:List Int}{i:Nat}{x y:Int}:(l.set i x).count y≤l.count y+if x=y then 1 else 0:=by
 by_cases hi:i<l.length
 ·rw [List.count_set hi]
  split <;> split <;> simp_all <;> omega
 ·rw [List.set_eq_of_length_le (by omega)];omega
theorem aIw{n o s:Nat}{p w:Int}(hp:0≤p∧p≤60)(hw:0≤w∧w≤60)(hne:p=0∨w=0∨p≠w):NoClash (race2 n o p s w):=by
 have hcnt:∀ x,x≠0→(race2 n o p s w).count x≤1:=fun x hx=>by
  have h1:=count_set_le (l:=(List.replicate n (0:Int)).set o p) (i:=s) (x:=w) (y:=x);have h2:=count_set_le (l:=List.replicate n (0:Int)) (i:=o) (x:=p) (y:=x);have h3:(List.replicate n (0:Int)).count x=0:=by rw [List.count_replicate];simp;omega
  unfold race2
  by_cases e1:w=x <;> by_cases e2:p=x <;> simp [e1,e2] at h1 h2 ⊢ <;> omega
 intro x hx h0;have:=hcnt x h0;refine ⟨?_,fun q hq hlt=>by omega⟩
 rcases aLj hx with h | h | h <;> omega
theorem valid_race{c:Cup}(hV:Valid c)(hd:(c.done.length:Int)<c.ra){race:List Int}(hl:(race.length:Int)=c.sk)(h0:∀ x∈race,0≤x∧x≤60)(hn:NoClash race):Valid (withC c [race]):=by
 refine valid_with hV (by simp;omega) (fun r hr => ?_) (fun r hr => ?_) ?_
 ·rw [List.mem_singleton] at hr;subst hr;exact hl
 ·rw [List.mem_singleton] at hr;subst hr;exact h0
 ·simp [(clash_iff race fun x hx=>(h0 x hx).1).2 hn]
theorem valid_race2{c:Cup}(hV:Valid c)(hd:(c.done.length:Int)<c.ra){o s:Nat}{p w:Int}(hp:0≤p∧p≤60)(hw:0≤w∧w≤60)(hne:p=0∨w=0∨p≠w):Valid (withC c [race2 c.sk.toNat o p s w]) :=
 valid_race hV hd (by rw [race2_length];have:=hV.sk1;omega) (fun x hx=>by rcases aLj hx with h | h | h <;> omega) (aIw hp hw hne)
end KC
end Go.Proofs
end
namespace Go.Proofs
namespace KV
open Tryz
section
variable {k p nx r0 rk Q4 Aa Ab Eo:Int}{o o' A5:Lqq}{rc:List Int}{i s i' Aw base:Nat}
namespace CU
open KC
noncomputable abbrev wQ:Code:=sub (cd Tryz.f64) [1,1,0,1,0,0]
noncomputable abbrev wR:Code:=sub (cd Tryz.f64) [1,1,0,1,0,0,1,1,0,0,1,1,1,0,0,0]
noncomputable abbrev aAk:Code:=pS (cd Tryz.f21) 5 [0,1,0,0]
noncomputable abbrev aOl:Code:=sub (cd Tryz.f19) [1,1,1,1,0,1,0,0]
theorem aTe{n i x:Nat}(h:(List.range n)[i]? = some x):x=i∧i<n:=by
 obtain ⟨h1,h2⟩:=Bs.1 h;rw [List.getElem_range] at h2
 exact ⟨h2.symm,by simpa using h1⟩
section
variable{c:KC.Cup}(h0:KC.Small c)(h1:(namedE c k)=0)(h2:inR (c.ra-(c.done.length:Int)))
include h0 h1 h2
theorem cBt(h3:(c.ra-(c.done.length:Int))≠1):FV Tp 63 [(.p (bU c)),(pI k)] base (.tup [(.p (bU c)),(pI 9)]) []:=have k1:=fk 2 (aGj c h0 k) rfl;FV.fi func63 ([k1.o]++rT 11) (gc (kS h3) (Az (cT h1) (gc h2 (Ia (cT h1) (gc k1 gn)))))
theorem cBu(h3:(c.ra-(c.done.length:Int))=1)(Aq:r0=(namedE c k)):FV Tp 63 [(.p (bU c)),(pI k)] base (.tup [(.p (bU c)),(pI r0)]) []:=by
 subst Aq;have k1:=fk 2 (aGj c h0 k) rfl;exact FV.fi func63 ([k1.o]++rT 10++[bF]) (gc (fW h3) (Az (cT h1) (gc h2 (Ia (cT h1) (gc k1 gn)))))
end
theorem cBv{c:KC.Cup}(h0:KC.Small c)(h1:(namedE c k)≠0)(Aq:r0=(namedE c k)):FV Tp 63 [(.p (bU c)),(pI k)] base (.tup [(.p (bU c)),(pI r0)]) []:=by
 subst Aq;have k1:=fk 2 (aGj c h0 k) rfl;exact FV.fi func63 ([k1.o]++rF 10) (Ia (bE h1) (Az (bE h1) (gc k1 gn)))
def lastE(c:KC.Cup)(k:Int):Int:=if namedE c k≠0 then namedE c k else if c.ra-(c.done.length:Int)≠1 then 9 else 0
theorem aBu{c:KC.Cup}{k:Int}(h:namedE c k=0):KC.Valid c∧0≤k∧k<c.sk:=by
 unfold namedE at h
 by_cases h1:KC.checkP c=0
 ·rw [if_neg (by simpa using h1)] at h
  cases h2:within k 0 (c.sk-1) with
  | true=>obtain ⟨h3,h4⟩:=within_iff.1 h2;exact ⟨(KC.valid_iff c).1 h1,h3,by omega⟩
  | false=>rw [h2] at h;simp at h
 ·rw [if_pos h1] at h;exact absurd h h1
theorem cBw(c:KC.Cup)(hS:KC.Small c)(k:Int){base:Nat}:FV Tp 63 [.p (bU c),.p (aA k)] base (.tup [.p (bU c),.p (aA (lastE c k))]) []:=by
 unfold lastE
 by_cases h:namedE c k=0
 ·have hV:=(aBu h).1
  have h1:=hV.ra1;have h2:=hV.ra2;have h3:=hV.dn;rw [if_neg (by simpa using h)]
  by_cases h4:c.ra-(c.done.length:Int)=1
  ·rw [if_neg (by simpa using h4)];exact cBu hS h (by show _∧_;omega) h4 h.symm
  ·rw [if_pos h4];exact cBt hS h (by show _∧_;omega) h4
 ·rw [if_pos h];exact cBv hS h rfl
theorem bAl{c:KC.Cup}{k:Int}(h:lastE c k=0):KC.Valid c∧0≤k∧k<c.sk∧c.ra=(c.done.length:Int)+1:=by
 unfold lastE at h
 by_cases h1:namedE c k=0
 ·obtain ⟨h2,h3,h4⟩:=aBu h1
  rw [if_neg (by simpa using h1)] at h
  by_cases h5:c.ra-(c.done.length:Int)=1
  ·exact ⟨h2,h3,h4,by omega⟩
  ·rw [if_pos h5] at h;cases h
 ·rw [if_pos h1] at h;exact absurd h h1
theorem bUo{c:KC.Cup}{o:Nat}{w:Int}{l0:Lqq}{r0:Bool}(h0:0≤c.sk∧c.sk≤c.sk∧c.sk≤1000000)(h1:0≤(o:Int)∧(o:Int)<((c.sk.toNat:Nat):Int))(h2:(o*1)<(List.replicate c.sk.toNat (aA 0)).length)(h3:0≤(s:Int)∧(s:Int)<((c.sk.toNat:Nat):Int))(h4:(s*1)<((List.replicate c.sk.toNat (aA 0)).set (o*1) (aA p)).length)(h5:1=l0.length)(h6:[(.sl c.sk.toNat (((List.replicate c.sk.toNat (aA 0)).set (o*1) (aA p)).set (s*1) (aA w)))]=l0.map aE)(h7:c.pts.length≤1000)(h8:c.done.length+l0.length≤1000)(h9:∀ r∈c.done++l0,r.length≤1000)(A0:KC.Valid (KC.withC c l0))(Bu:((o:Nat):Int)<(KC.withC c l0).sk)(Bh:((s:Nat):Int)<(KC.withC c l0).sk)(Aq:r0=(KC.betterF (KC.totalM (KC.withC c l0) o) (KC.totalM (KC.withC c l0) s) (KC.placesM (KC.withC c l0) o) (KC.placesM (KC.withC c l0) s))):FV Tp 126 [(.p (bU c)),(pI (o:Int)),(pI p),(pI (s:Int)),(pI w)] base (pB r0) []:=by
 subst Aq;have k1:=fk 4 (yV (KC.withC c l0) A0 o Bu) rfl;have k2:=fk 12 (yV (KC.withC c l0) A0 s Bh) rfl;have k3:=fk 20 (bNy (KC.withC c l0) (KC.withC c l0) o s) rfl;exact FV.fi func126 [.c (.p (.agg [(aA ((KC.withC c l0).sk)),(aA ((KC.withC c l0).ra)),(aA ((KC.withC c l0).be)),(aE ((KC.withC c l0).pts)),(aV ((KC.withC c l0).done))])) [(2,.dead)],k1.o,k2.o,k3.o] (gc k3 (gc k2 (gc k1 (gt (FC Tp 56 [(.p (bU c)),(.own 2)] [(2,(.row 31 1 [(.sl c.sk.toNat (((List.replicate c.sk.toNat (aA 0)).set (o*1) (aA p)).set (s*1) (aA w)))]))] 3 (.p (.agg [(aA ((KC.withC c l0).sk)),(aA ((KC.withC c l0).ra)),(aA ((KC.withC c l0).be)),(aE ((KC.withC c l0).pts)),(aV ((KC.withC c l0).done))])) [(2,.dead)]) (FV.close (ids:=[2]) (A9:=[(.p (bU c)),(.p (.sl 1 [(.sl c.sk.toNat (((List.replicate c.sk.toNat (aA 0)).set (o*1) (aA p)).set (s*1) (aA w)))]))]) (by rw [show ((.sl 1 [(.sl c.sk.toNat (((List.replicate c.sk.toNat (aA 0)).set (o*1) (aA p)).set (s*1) (aA w)))]):PV)=aV l0 from bDo h5 h6];exact (yU c l0 h7 h8 h9)) (by kernel_rfl)) (gc h4 (gc h3 (gc h2 (gc h1 (gc h0 gn)))))))))
def eR(c:KC.Cup)(o:Nat)(p:Int)(s:Nat)(w:Int):Bool:=KC.betS (KC.withC c [KC.race2 c.sk.toNat o p s w]) o s
structure oE (c:KC.Cup) (o:Nat) (p:Int) (s:Nat) (w:Int):Prop where
 hv:KC.Valid c
 hd:(c.done.length:Int)<c.ra
 ho:(o:Int)<c.sk
 hs:(s:Int)<c.sk
 hp:0≤p∧p≤60
 hw:0≤w∧w≤60
 hn:p=0∨w=0∨p≠w
theorem tH(c:KC.Cup)(o:Nat)(p:Int)(s:Nat)(w:Int)(h:oE c o p s w){base:Nat}:FV Tp 126 [.p (bU c),.p (aA (o:Int)),.p (aA p),.p (aA (s:Int)),.p (aA w)] base (pB (eR c o p s w)) []:=by
 have hV:=h.hv;have h1:=hV.sk1;have h2:=hV.sk2;have h3:=hV.ra2;have ho:=h.ho;have hs:=h.hs;have hd:=h.hd;have Ep:=KC.valid_race2 hV h.hd (o:=o) (s:=s) h.hp h.hw h.hn;have hS:=Ep.small;refine bUo (l0:=[KC.race2 c.sk.toNat o p s w]) (by omega) (by omega) (by simp;omega) (by omega) (by simp;omega) rfl ?_ hV.small.pts (by simp;omega) hS.rows Ep (by show (o:Int)<c.sk;omega) (by show (s:Int)<c.sk;omega) rfl
 show [_]=[PV.sl (KC.race2 c.sk.toNat o p s w).length ((KC.race2 c.sk.toNat o p s w).map aA)];rw [KC.race2_length];simp [KC.race2,List.map_set]
def kP(c:KC.Cup)(s i on:Nat)(oc:List PV):St:=⟨fr 45 [(1,(pI (s:Int))),(2,(.ptr 0 0)),(4,(.p cR)),(5,(.own 1)),(10,(pI c.sk)),(11,(pI (i:Int)))],[some (.box 98 [(pI c.sk),(pI c.ra),(pI c.be),(.p (aE c.pts)),(.p (aV c.done))]),some (.row 133 on oc)]⟩
theorem cJt{c:KC.Cup}(hl0:aF Tp 0 wQ (kP c s 0 0 []) (.exit 0) (kP c s Aw A5.length (A5.flatten.map aA)))(h1:uni 2 A5)(h2:A5.length<20):FV Tp 64 [(.p (bU c)),(pI (s:Int))] base (.p (.sl ((isort (ltK 1) A5).length) ((isort (ltK 1) A5).flatten.map aA))) []:=have k1:=mq [1] 2 (cCa A5 h1 h2);FV.frz (FMM.fi 0 ⟨[],[],[1],[]⟩ func64 [hl0.k 8 (gN bl [0,1] [(5,133)]),k1.o] (gc k1 (gc hl0.code gn))) (by kernel_rfl)
def kQ(c:KC.Cup)(s i:Nat)(o:Lqq)(p:Int):St:=⟨fr 45 [(1,(pI (s:Int))),(2,(.ptr 0 0)),(4,(.p cR)),(5,(.own 1)),(6,(pI (i:Int))),(7,(pI p)),(10,(pI c.sk)),(11,(pI (i:Int))),(12,(pB (decide ((i:Int)<c.sk)))),(13,(pI (i:Int))),(14,(pI (i:Int))),(15,(pI (s:Int))),(16,(pB ((i:Int) == (s:Int))))],[some (.box 98 [(pI c.sk),(pI c.ra),(pI c.be),(.p (aE c.pts)),(.p (aV c.done))]),some (.row 133 o.length (o.flatten.map aA))]⟩
theorem bNg{c:KC.Cup}(h0:(i:Int)<c.sk)(h1:(i:Int)=(s:Int))(h2:dv i)(Ak:i'=(i+1)):aB Tp 0 wQ (kP c s i o.length (o.flatten.map aA)) .normal (kP c s i' o.length (o.flatten.map aA)):=by
 subst Ak;exact aB.fi (gI bl [0,1]) [bT,bT] (gc h2 (gc (cT h1) (g0 h0)))
section
variable{c:KC.Cup}(h0:(i:Int)<c.sk)(h1:(i:Int)≠(s:Int))(hl2:aF Tp 0 wR (kQ c s i o 0) (.exit 2) (kQ c s i o Eo))(h3:oE c i 0 s 0)
include h0 h1 hl2 h3
theorem bNh(h4:(eR c i 0 s 0)=true)(h5:[(aA (i:Int)),(aA 61)].length=1*2∧o.length+1≤1000000)(h6:dv i)(Ak:i'=(i+1))(A6:o'.length=(o.length+1))(A7:o'.flatten.map aA=((o.flatten.map aA)++[(aA (i:Int)),(aA 61)])):aB Tp 0 wQ (kP c s i o.length (o.flatten.map aA)) .normal (kP c s i' o'.length (o'.flatten.map aA)):=by
 subst Ak;have k1:=fk 2 (tH c i 0 s 0 h3) rfl;rw [A6,A7];exact aB.fi (gI bl [0,3]) [bT,bF,hl2.k 4 (gI bm [0,1]),k1.o,bT,bT] (gc h6 (gc h5 (gt ([(aA (i:Int)),(aA 61)].length=2) (by first | decide | simp) (gt ((decide ((61:Int) > 0))=true) (by first | decide | simp) (gc h4 (gc k1 (gc hl2.code (gc (bE h1) (g0 h0)))))))))
theorem bNi(h4:(eR c i 0 s 0)=false)(h5:(0:Int)<Eo)(h6:[(aA (i:Int)),(aA Eo)].length=1*2∧o.length+1≤1000000)(h7:dv i)(Ak:i'=(i+1))(A6:o'.length=(o.length+1))(A7:o'.flatten.map aA=((o.flatten.map aA)++[(aA (i:Int)),(aA Eo)])):aB Tp 0 wQ (kP c s i o.length (o.flatten.map aA)) .normal (kP c s i' o'.length (o'.flatten.map aA)):=by
 subst Ak;have k1:=fk 2 (tH c i 0 s 0 h3) rfl;rw [A6,A7];exact aB.fi (gI bl [0,3]) [bT,bF,hl2.k 4 (gI bm [0,1]),k1.o,bF,bT] (gc h7 (gc h6 (gt ([(aA (i:Int)),(aA Eo)].length=2) (by first | decide | simp) (gc (bG h5) (gc h4 (gc k1 (gc hl2.code (gc (bE h1) (g0 h0)))))))))
theorem bNj(h4:(eR c i 0 s 0)=false)(h5:Eo≤0)(h6:dv i)(Ak:i'=(i+1)):aB Tp 0 wQ (kP c s i o.length (o.flatten.map aA)) .normal (kP c s i' o.length (o.flatten.map aA)):=by
 subst Ak;have k1:=fk 2 (tH c i 0 s 0 h3) rfl;exact aB.fi (gI bl [0,1]) [bT,bF,hl2.k 4 (gI bm [0,1]),k1.o,bF,bF] (gc h6 (gc (aQ h5) (gc h4 (gc k1 (gc hl2.code (gc (bE h1) (g0 h0)))))))
end
theorem bNk{c:KC.Cup}(h0:c.sk≤(i:Int)):aB Tp 0 wQ (kP c s i o.length (o.flatten.map aA)) (.exit 0) (kP c s i o.length (o.flatten.map aA)):=aB.fi (gI bl [0,1]) [bF] (gc (aQ h0) gn)
section
variable{c:KC.Cup}(h0:p<60)(h1:inR (p+1))(h2:oE c i (p+1) s 0)
include h0 h1 h2
theorem bNl{p':Int}(h3:(eR c i (p+1) s 0)=true)(Xc:p'=(p+1)):aB Tp 0 wR (kQ c s i o p) .normal (kQ c s i o p'):=by
 subst Xc;have k1:=fk 2 (tH c i (p+1) s 0 h2) rfl;exact aB.fi (gI bm [0,1]) (rT 6++[k1.o,bT,bT]) (gc h1 (gc h3 (gc (bG h0) (gc k1 (Az (bG h0) (gc h1 (Ay (bG h0) (g0 h0))))))))
theorem bNm(h3:(eR c i (p+1) s 0)=false):aB Tp 0 wR (kQ c s i o p) (.exit 2) (kQ c s i o p):=have k1:=fk 2 (tH c i (p+1) s 0 h2) rfl;aB.fi (gI bm [0,1]) (rT 6++[k1.o,bT,bF]) (gc h3 (gc (bG h0) (gc k1 (Az (bG h0) (gc h1 (Ay (bG h0) (g0 h0)))))))
end
theorem bNn{c:KC.Cup}(h0:(60:Int)≤p):aB Tp 0 wR (kQ c s i o p) (.exit 2) (kQ c s i o p):=aB.fi (gI bm [0,1]) (rF 7) (Et (aQ h0) gn)
def upto(f:Int→Bool):Nat→Int→Int
 | 0,p=>p
 | n+1,p=>if f (p+1) then upto f n (p+1) else p
theorem aCz(f:Int→Bool):∀ n p,p≤upto f n p∧upto f n p≤p+n
 | 0,p=>by simp [upto]
 | n+1,p=>by
  unfold upto
  split
  ·have:=aCz f n (p+1);omega
  ·omega
def eP(c:KC.Cup)(s i:Nat):Int:=if eR c i 0 s 0 then 61 else upto (fun p=>eR c i p s 0) 60 0
def bAm(c:KC.Cup)(s i:Nat):Lqq:=if i=s then [] else if 0<eP c s i then [[(i:Int),eP c s i]] else []
def bAn(c:KC.Cup)(s:Nat):Lqq:=(List.range c.sk.toNat).flatMap (bAm c s)
def jJ(c:KC.Cup)(s:Nat):Lqq:=isort (ltK 1) (bAn c s)
structure cEd (c:KC.Cup) (s:Nat):Prop where
 hv:KC.Valid c
 hd:(c.done.length:Int)<c.ra
 hs:(s:Int)<c.sk
theorem bUp(c:KC.Cup)(s i:Nat):0≤eP c s i∧eP c s i≤61:=by
 unfold eP
 split
 ·omega
 ·have:=aCz (fun p=>eR c i p s 0) 60 0;omega
theorem aTf{c:KC.Cup}{s:Nat}{x:List Int}(h:x∈bAn c s):∃ i:Nat,(i:Int)<c.sk∧i≠s∧x=[(i:Int),eP c s i]∧0<eP c s i:=by
 unfold bAn at h
 rw [List.mem_flatMap] at h
 obtain ⟨i,hi,hx⟩:=h;rw [lC] at hi
 unfold bAm at hx
 split at hx
 ·simp at hx
 ·split at hx
  ·rename_i h1 h2
   rw [List.mem_singleton] at hx
   exact ⟨i,by omega,h1,hx,h2⟩
  ·simp at hx
theorem tI{α:Type}{g:Nat→List α}(h:∀ i,(g i).length≤1):∀ l:List Nat,(l.flatMap g).length≤l.length
 | []=>by simp
 | x::l=>by rw [List.flatMap_cons,jT,nM];have:=tI h l;have:=h x;omega
theorem vI{α:Type}{g:Nat→List α}:∀ (l:List Nat) (a:List α),l.foldl (fun acc s=>acc++g s) a=a++l.flatMap g
 | [],a=>by simp
 | x::l,a=>by rw [qT,vI l,List.flatMap_cons,List.append_assoc]
theorem aGf(c:KC.Cup)(s i:Nat):(bAm c s i).length≤1:=by
 unfold bAm
 split
 ·simp
 ·split <;> simp
theorem bUq(c:KC.Cup)(s i:Nat)(o:Lqq)(hk:∀ p:Int,0≤p→p≤60→oE c i p s 0):∀ (n:Nat) (p:Int),0≤p→p+n=60 →
  aF Tp 0 wR (kQ c s i o p) (.exit 2) (kQ c s i o (upto (fun p=>eR c i p s 0) n p))
 | 0,p,h0,h1=>by
  unfold upto;exact .exit (bNn (by omega)) (by simp)
 | n+1,p,h0,h1=>by
  unfold upto
  by_cases hb:eR c i (p+1) s 0=true
  ·rw [if_pos hb]
   exact .step (bNl (by omega) (by show _∧_;omega) (hk _ (by omega) (by omega)) hb rfl) (bUq c s i o hk n (p+1) (by omega) (by omega))
  ·rw [if_neg hb]
   exact .exit (bNm (by omega) (by show _∧_;omega) (hk _ (by omega) (by omega)) (by simpa using hb)) (by simp)
theorem cJu(c:KC.Cup)(s:Nat)(h:cEd c s){base:Nat}:FV Tp 64 [.p (bU c),.p (aA (s:Int))] base (.p (fS (jJ c s))) []:=by
 have hV:=h.hv;have h1:=hV.sk1;have h2:=hV.sk2;have hL:=aF.times (P:=Tp) (k:=0) (b:=wQ) (e := .exit 0) (fun i (o:Lqq)=>kP c s i o.length (o.flatten.map aA)) (fun o=>kP c s c.sk.toNat o.length (o.flatten.map aA)) (fun acc i=>acc++bAm c s i) (fun i o=>o.length≤i) (by simp) c.sk.toNat (a0:=[]) (by simp)
  (fun i o hi hI=>by
   have hgl:=aGf c s i;refine ⟨by rw [jT];omega,?_⟩
   have hk:∀ p:Int,0≤p→p≤60→oE c i p s 0:=fun p q1 q2=>⟨hV,h.hd,by omega,h.hs,⟨q1,q2⟩,by omega,.inr (.inl rfl)⟩
   unfold bAm
   by_cases his:i=s
   ·rw [if_pos his,List.append_nil]
    exact bNg (by omega) (by omega) (aI (by omega)) rfl
   ·rw [if_neg his]
    have hin:=bUq c s i o hk 60 0 (by omega) (by omega)
    have hbd:=aCz (fun p=>eR c i p s 0) 60 0
    by_cases hb:eR c i 0 s 0=true
    ·have e:eP c s i=61:=by unfold eP;rw [if_pos hb]
     rw [e,if_pos (by omega)]
     exact bNh (by omega) (by omega) hin (hk 0 (by omega) (by omega)) hb (by simp;omega) (aI (by omega)) rfl (by simp) (by simp)
    ·have hb:eR c i 0 s 0=false:=by simpa using hb
     have e:eP c s i=upto (fun p=>eR c i p s 0) 60 0:=by unfold eP;rw [hb];rfl
     rw [e]
     by_cases hp:0<upto (fun p=>eR c i p s 0) 60 0
     ·rw [if_pos hp]
      exact bNi (by omega) (by omega) hin (hk 0 (by omega) (by omega)) hb hp (by simp;omega) (aI (by omega)) rfl (by simp) (by simp)
     ·rw [if_neg hp,List.append_nil]
      exact bNj (by omega) (by omega) hin (hk 0 (by omega) (by omega)) hb (by omega) (aI (by omega)) rfl)
  (fun o _=>bNk (by omega))
 rw [vI,List.nil_append] at hL
 have hlen:=tI (aGf c s) (List.range c.sk.toNat);rw [aRl] at hlen
 exact cJt hL (fun x hx=>by obtain ⟨i,_,_,rfl,_⟩:=aTf hx;rfl) (by show (bAn c s).length<20;unfold bAn;omega)
def fX(c:KC.Cup)(s i:Nat)(rk nx:Int)(rcn:Nat)(rcc:List PV):St:=⟨fr 58 [(4,(pI 0)),(5,(.p cR)),(6,(pI 0)),(9,(.own 0)),(10,(pI rk)),(11,(pI nx)),(29,(.p (.sl ((jJ c s).length) ((jJ c s).flatten.map aA)))),(30,(pI ((jJ c s).length:Int))),(31,(pI (i:Int)))],[some (.row 3 rcn rcc)]⟩
theorem bUr{c:KC.Cup}{Qb Qc:Int}{Ng:List Int}(h0:KC.Small c)(h1:(lastE c (s:Int))=0)(h2:0≤c.sk∧c.sk≤c.sk∧c.sk≤1000000)(h3:cEd c s)(Jm:aF Tp 0 aAk (fX c s 0 1 1 c.sk.toNat (List.replicate c.sk.toNat (aA 0))) (.exit 0) (fX c s Aw Qb Qc Ng.length (Ng.map aA))):FV Tp 21 [(.p (bU c)),(pI (s:Int))] base (.tup [(pI Qb),(.p (aE Ng)),(pI 0)]) []:=have k1:=fk 1 (cBw c h0 (s:Int)) rfl;have k2:=fk 3 (cJu c s h3) rfl;FV.frz (FMM.fi 0 ⟨[],[],[0],[]⟩ func21 [k1.o,bF,k2.o,Jm.k 1 (gI bv [2])] (gc Jm.code (gc k2 (gc h2 (gc (fW h1) (gc k1 gn)))))) (by kernel_rfl)
section
variable{c:KC.Cup}(h0:(i:Int)<((jJ c s).length:Int))(h1:(jJ c s)[i]? = some [Aa,Ab])(h2:uni 2 (jJ c s))
include h0 h1 h2
theorem aTg(h3:(60:Int)<Ab)(h4:inR (rk+1))(h5:dv i)(Ak:i'=(i+1))(Nh:Q4=(rk+1)):aB Tp 0 aAk (fX c s i rk nx rc.length (rc.map aA)) .normal (fX c s i' Q4 nx rc.length (rc.map aA)):=by
 subst Ak Nh;exact aB.fi (gI bv [0]) [bT,.x (.agg [(aA Aa),(aA Ab)]),bT] (gc h5 (gc h4 (gc (bG h3) (gfl h2 h1 (g0 h0)))))
theorem aTh{Ci Hf:Int}{Q5:List Int}(h3:Ab≤60)(h4:nx≤Ab)(h5:rc[Aa.toNat]? = some Ci)(h6:0≤Aa)(h7:(Aa.toNat*1)<(rc.map aA).length)(h8:inR (nx+1))(h9:inR (rk+1))(A0:dv i)(Ak:i'=(i+1))(Nh:Q4=(rk+1))(Tg:Hf=(nx+1))(Qd:Q5.length=rc.length)(Qe:Q5.map aA=((rc.map aA).set (Aa.toNat*1) (aA nx))):aB Tp 0 aAk (fX c s i rk nx rc.length (rc.map aA)) .normal (fX c s i' Q4 Hf Q5.length (Q5.map aA)):=by
 subst Ak Nh Tg;rw [Qd,Qe];exact aB.fi (gI bv [0]) [bT,.x (.agg [(aA Aa),(aA Ab)]),bF,bT] (gc A0 (gc h9 (gc h8 (gc h7 (gc (aX (i:=Aa) h6 h5) (gc (aCh h4) (gc (aQ h3) (gfl h2 h1 (g0 h0)))))))))
theorem aTi(h3:Ab≤60)(h4:Ab<nx)(h5:dv i)(Ak:i'=(i+1)):aB Tp 0 aAk (fX c s i rk nx rc.length (rc.map aA)) .normal (fX c s i' rk nx rc.length (rc.map aA)):=by
 subst Ak;exact aB.fi (gI bv [0]) [bT,.x (.agg [(aA Aa),(aA Ab)]),bF,bF] (gc h5 (gc (kT h4) (gc (aQ h3) (gfl h2 h1 (g0 h0)))))
end
theorem aTj{c:KC.Cup}(h0:((jJ c s).length:Int)≤(i:Int)):aB Tp 0 aAk (fX c s i rk nx rc.length (rc.map aA)) (.exit 0) (fX c s i rk nx rc.length (rc.map aA)):=aB.fi (gI bv [0]) [bF] (gc (aQ h0) gn)
def lU(c:KC.Cup)(i on:Nat)(oc:List PV):St:=⟨fr 43 [(2,(.p cR)),(3,(pI 0)),(4,(.ptr 0 0)),(6,(.own 1)),(19,(pI c.sk)),(20,(pI (i:Int)))],[some (.box 98 [(pI c.sk),(pI c.ra),(pI c.be),(.p (aE c.pts)),(.p (aV c.done))]),some (.row 54 on oc)]⟩
theorem bUs{c:KC.Cup}(h0:KC.Small c)(h1:(KC.checkP c)=0)(hl2:aF Tp 0 aOl (lU c 0 0 []) (.exit 0) (lU c Aw A5.length (A5.flatten.map aA)))(h3:uni 4 A5)(h4:A5.length<20):FV Tp 19 [(.p (bU c))] base (.tup [(.p (.sl ((isort (ltK 1) A5).length) ((isort (ltK 1) A5).flatten.map aA))),(pI 0)]) []:=have k1:=fk 1 (lX c h0) rfl;have k2:=mq [1] 2 (cBy A5 h3 h4);FV.frz (FMM.fi 0 ⟨[],[],[1],[]⟩ func19 [k1.o,bF,hl2.k 6 (gN bf [1,2] [(6,54)]),k2.o] (gc k2 (gc hl2.code (gc (fW h1) (gc k1 gn))))) (by kernel_rfl)
theorem aTk{c:KC.Cup}{Ad:Int}(h0:(i:Int)<c.sk)(h1:KC.Valid c)(h2:((i:Nat):Int)<c.sk)(h3:((aA (KC.totalM c i))::((KC.placesM c i).map aA)).length=62)(h4:(KC.placesM c i)[1]? = some Ad)(h5:[(aA (i:Int)),(aA (KC.rankM c i)),(aA (KC.totalM c i)),(aA Ad)].length=1*4∧o.length+1≤1000000)(h6:dv i)(Ak:i'=(i+1))(A6:o'.length=(o.length+1))(A7:o'.flatten.map aA=((o.flatten.map aA)++[(aA (i:Int)),(aA (KC.rankM c i)),(aA (KC.totalM c i)),(aA Ad)])):aB Tp 0 aOl (lU c i o.length (o.flatten.map aA)) .normal (lU c i' o'.length (o'.flatten.map aA)):=by
 subst Ak;have k1:=fk 2 (yV c h1 i h2) rfl;have k2:=fk 3 (aDa c h1 i h2) rfl;rw [A6,A7];exact aB.fi (gI bf [0,12]) [bT,k1.o,k2.o,.x (aA (KC.totalM c i)),.x (aA Ad)] (gc h6 (gc h5 (gt ([(aA (i:Int)),(aA (KC.rankM c i)),(aA (KC.totalM c i)),(aA Ad)].length=4) (by first | decide | simp) (gt ((((aA (KC.totalM c i))::((KC.placesM c i).map aA))++[])[2]? = some (aA Ad)) (bRg (dF (i:=1) h4)) (gt (0≤(1:Int)∧(1:Int)<61) (by first | decide | simp) (gt ((((aA (KC.totalM c i))::((KC.placesM c i).map aA))++[])[0]? = some (aA (KC.totalM c i))) (bRg rfl) (gc k2 (gt (((aA (KC.totalM c i))::((KC.placesM c i).map aA)).length=62∧0+62≤[(aA 0),(aA 0),(aA 0),(aA 0),(aA 0),(aA 0),(aA 0),(aA 0),(aA 0),(aA 0),(aA 0),(aA 0),(aA 0),(aA 0),(aA 0),(aA 0),(aA 0),(aA 0),(aA 0),(aA 0),(aA 0),(aA 0),(aA 0),(aA 0),(aA 0),(aA 0),(aA 0),(aA 0),(aA 0),(aA 0),(aA 0),(aA 0),(aA 0),(aA 0),(aA 0),(aA 0),(aA 0),(aA 0),(aA 0),(aA 0),(aA 0),(aA 0),(aA 0),(aA 0),(aA 0),(aA 0),(aA 0),(aA 0),(aA 0),(aA 0),(aA 0),(aA 0),(aA 0),(aA 0),(aA 0),(aA 0),(aA 0),(aA 0),(aA 0),(aA 0),(aA 0),(aA 0)].length) ⟨h3,by first | decide | simp⟩ (gc k1 (g0 h0))))))))))
theorem aTl{c:KC.Cup}(h0:c.sk≤(i:Int)):aB Tp 0 aOl (lU c i o.length (o.flatten.map aA)) (.exit 0) (lU c i o.length (o.flatten.map aA)):=aB.fi (gI bf [0,1]) [bF] (gc (aQ h0) gn)
def aKx(a:Int × Int × List Int)(x:List Int):Int × Int × List Int:=if 60<x.getD 1 0 then (a.1+1,a.2.1,a.2.2) else if a.2.1≤x.getD 1 0 then (a.1+1,a.2.1+1,a.2.2.set (x.getD 0 0).toNat a.2.1) else a
def worstM(c:KC.Cup)(s:Nat):Int × Int × List Int:=(jJ c s).foldl aKx (1,1,List.replicate c.sk.toNat 0)
theorem tJ{c:KC.Cup}{s:Nat}{x:List Int}(h:x∈jJ c s):∃ i:Nat,(i:Int)<c.sk∧i≠s∧x=[(i:Int),eP c s i]∧0<eP c s i:=aTf ((isort_mem _ _ _).1 h)
theorem bUt(c:KC.Cup)(s:Nat):(jJ c s).length≤c.sk.toNat:=by
 unfold jJ;rw [isort_length];have:=tI (aGf c s) (List.range c.sk.toNat)
 rwa [aRl] at this
theorem worst_ok(c:KC.Cup)(s:Nat)(h:lastE c (s:Int)=0){base:Nat}:FV Tp 21 [.p (bU c),.p (aA (s:Int))] base (.tup [.p (aA (worstM c s).1),.p (aE (worstM c s).2.2),.p (aA 0)]) []:=by
 obtain ⟨hV,Mj,hs,hra⟩:=bAl h;have h1:=hV.sk1;have h2:=hV.sk2;have hu:uni 2 (jJ c s):=fun x hx=>by obtain ⟨i,_,_,rfl,_⟩:=tJ hx;rfl
 have hll:=bUt c s;have hL:=aF.range (P:=Tp) (k:=0) (b:=aAk) (e := .exit 0) (fun i (a:Int × Int × List Int)=>fX c s i a.1 a.2.1 a.2.2.length (a.2.2.map aA)) (fun a=>fX c s (jJ c s).length a.1 a.2.1 a.2.2.length (a.2.2.map aA)) aKx (fun i a=>0≤a.1∧a.1≤1+i∧0≤a.2.1∧a.2.1≤1+i∧a.2.2.length=c.sk.toNat) (by simp) (jJ c s) (a0:=(1,1,List.replicate c.sk.toNat 0)) (by simp)
  (fun i x a hx hI=>by
   obtain ⟨q1,q2,q3,q4,q5⟩:=hI;obtain ⟨k,hk,_,rfl,hp⟩:=tJ (Bp hx);have hi:=aT hx;have hbd:=bUp c s k;unfold aKx;simp only [List.getD_cons_succ,List.getD_cons_zero]
   by_cases c1:60<eP c s k
   ·rw [if_pos c1]
    exact ⟨⟨by simp;omega,by simp;omega,by simp;omega,by simp;omega,q5⟩,aTg (by omega) hx hu c1 (by show _∧_;omega) (aI (by omega)) rfl rfl⟩
   ·rw [if_neg c1]
    by_cases c2:a.2.1≤eP c s k
    ·rw [if_pos c2]
     have hkl:k<a.2.2.length:=by omega
     exact ⟨⟨by simp;omega,by simp;omega,by simp;omega,by simp;omega,by simpa using q5⟩,aTh (by omega) hx hu (by omega) c2 (Ci:=a.2.2[k]) (by rw [aHy];exact Av hkl) (by omega) (by simp;omega) (by show _∧_;omega) (by show _∧_;omega) (aI (by omega)) rfl rfl rfl (by simp) (by simp [List.map_set])⟩
    ·rw [if_neg c2]
     exact ⟨⟨by omega,by omega,by omega,by omega,q5⟩,aTi (by omega) hx hu (by omega) (by omega) (aI (by omega)) rfl⟩)
  (fun a _=>aTj (by omega))
 refine bUr (s:=s) hV.small h (by omega) ⟨hV,by omega,hs⟩ (Aw:=(jJ c s).length) (Qc:=(worstM c s).2.1) ?_
 simpa [worstM] using hL
def cJv(c:KC.Cup):Lqq:=(List.range c.sk.toNat).map fun (i:Nat)=>[(i:Int),KC.rankM c i,KC.totalM c i,(KC.placesM c i).getD 1 0]
def tableM(c:KC.Cup):Lqq:=isort (ltK 1) (cJv c)
theorem aGg{g:Nat→List Int}:∀ (l:List Nat) (a:Lqq),l.foldl (fun acc s=>acc++[g s]) a=a++l.map g
 | [],a=>by simp
 | x::l,a=>by rw [qT,aGg l];simp
theorem table_ok(c:KC.Cup)(hV:KC.Valid c){base:Nat}:FV Tp 19 [.p (bU c)] base (.tup [.p (fS (tableM c)),.p (aA 0)]) []:=by
 have h1:=hV.sk1;have h2:=hV.sk2;have hpl:∀ i,(KC.placesM c i).length=61:=fun i=>by unfold KC.placesM;rw [KC.placesUpTo_length]
 have hL:=aF.times (P:=Tp) (k:=0) (b:=aOl) (e := .exit 0) (fun i (o:Lqq)=>lU c i o.length (o.flatten.map aA)) (fun o=>lU c c.sk.toNat o.length (o.flatten.map aA)) (fun acc i=>acc++[[(i:Int),KC.rankM c i,KC.totalM c i,(KC.placesM c i).getD 1 0]]) (fun i o=>o.length≤i) (by simp) c.sk.toNat (a0:=[]) (by simp)
  (fun i o hi hI=>⟨by simp;omega,aTk (Ad:=(KC.placesM c i).getD 1 0) (by omega) hV (by omega) (by simp [hpl]) (by
   have:=hpl i;rw [Av (by omega),Bw,Av (by omega)];rfl) (by simp;omega) (aI (by omega)) rfl (by simp) (by simp)⟩)
  (fun o _=>aTl (by omega))
 rw [aGg,List.nil_append] at hL
 exact bUs hV.small ((KC.valid_iff c).2 hV) hL (fun x hx=>by obtain ⟨i,_,rfl⟩:=Bq.1 hx;rfl) (show (cJv c).length<20 by unfold cJv;simp;omega)
end CU
end
section
namespace CU
open KC
end CU
end
section
namespace CU
open KC
theorem bNf{c:KC.Cup}(h0:KC.Small c)(h1:(KC.checkP c)=0)(h2:KC.Valid c){base:Nat}:FV Tp 39 [(.p (bU c))] base (.tup [(.p (aE (KC.totalsM c))),(pI 0)]) []:=have k1:=fk 1 (lX c h0) rfl;have k2:=fk 2 (bNs c h2) rfl;FV.fi func39 [k1.o,bF,k2.o] (gc k2 (gc (fW h1) (gc k1 gn)))
theorem totals2_ok(c:KC.Cup)(hV:KC.Valid c){base:Nat}:FV Tp 39 [.p (bU c)] base (.tup [.p (aE (KC.totalsM c)),.p (aA 0)]) []:=bNf hV.small ((KC.valid_iff c).2 hV) hV
end CU
end
section
variable {Aa Ab Af Ah Ag Ai Hj Hk:Int}{a b:Lqq}{i Aw base:Nat}
namespace CU
open KC
noncomputable abbrev aAj:Code:=sub (cd Tryz.f23) [1,1,0,1,0,0]
def lI(a b:Lqq)(i:Nat):St:=⟨fr 26 [(0,(.p (fS a))),(1,(.p (fS b))),(12,(pI (a.length:Int))),(13,(pI (i:Int)))],[]⟩
theorem cJq(h0:(a.length:Int)≠(b.length:Int)):FV Tp 23 [(.p (fS a)),(.p (fS b))] base (pB false) []:=FV.fi func23 [bT] (gc (kS h0) gn)
theorem cJr(h0:(a.length:Int)=(b.length:Int))(hl1:aF Tp 0 aAj (lI a b 0) (.exit 0) (lI a b Aw)):FV Tp 23 [(.p (fS a)),(.p (fS b))] base (pB true) []:=FV.fi func23 [bF,hl1.k 4 (gZ dg)] (gc hl1.code (gc (fW h0) gn))
theorem cJs(h0:(a.length:Int)=(b.length:Int))(hl1:aF Tp 0 aAj (lI a b 0) .ret (cD (lI a b Aw) [(4,(.kb false))])):FV Tp 23 [(.p (fS a)),(.p (fS b))] base (pB false) []:=FV.fi func23 [bF,hl1.k 4 (gZ dg)] (gc hl1.code (gc (fW h0) gn))
section
variable(h0:(i:Int)<(a.length:Int))(h1:a[i]? = some [Aa,Ab,Af,Ah])(h2:uni 4 a)(h3:b[i]? = some [Ag,Ai,Hj,Hk])(h4:uni 4 b)(h5:lA [(aA Aa),(aA Ab),(aA Af),(aA Ah)] [(0,3,true),(1,3,true),(2,3,true),(3,3,true)]=true∧lA [(aA Ag),(aA Ai),(aA Hj),(aA Hk)] [(0,3,true),(1,3,true),(2,3,true),(3,3,true)]=true)
include h0 h1 h2 h3 h4 h5
theorem bNc(h6:(aEh [(aA Aa),(aA Ab),(aA Af),(aA Ah)] [(aA Ag),(aA Ai),(aA Hj),(aA Hk)] [(0,3,true),(1,3,true),(2,3,true),(3,3,true)])=false):aB Tp 0 aAj (lI a b i) .ret (cD (lI a b i) [(4,(.kb false))]):=aB.fi (gZ [2,2,5,7,14,12]) [bT,.x (.agg [(aA Aa),(aA Ab),(aA Af),(aA Ah)]),.x (.agg [(aA Ag),(aA Ai),(aA Hj),(aA Hk)]),bT] (gc (cA h6) (gc h5 (gfl h4 h3 (gfl h2 h1 (g0 h0)))))
theorem bNd{i':Nat}(h6:(aEh [(aA Aa),(aA Ab),(aA Af),(aA Ah)] [(aA Ag),(aA Ai),(aA Hj),(aA Hk)] [(0,3,true),(1,3,true),(2,3,true),(3,3,true)])=true)(h7:dv i)(Ak:i'=(i+1)):aB Tp 0 aAj (lI a b i) .normal (lI a b i'):=by
 subst Ak;exact aB.fi (gZ dg) [bT,.x (.agg [(aA Aa),(aA Ab),(aA Af),(aA Ah)]),.x (.agg [(aA Ag),(aA Ai),(aA Hj),(aA Hk)]),bF] (gc h7 (gc (aL h6) (gc h5 (gfl h4 h3 (gfl h2 h1 (g0 h0))))))
end
theorem bNe(h0:(a.length:Int)≤(i:Int)):aB Tp 0 aAj (lI a b i) (.exit 0) (lI a b i):=aB.fi (gZ dg) [bF] (gc (aQ h0) gn)
theorem cEc(y0 y1 y2 y3 z0 z1 z2 z3:Int):aEh [aA y0,aA y1,aA y2,aA y3] [aA z0,aA z1,aA z2,aA z3] [(0,3,true),(1,3,true),(2,3,true),(3,3,true)]=decide ([y0,y1,y2,y3]=[z0,z1,z2,z3]):=by
 rw [Bool.eq_iff_iff];simp [aEh,bHj,aA]
theorem eql_ok(a b:Lqq)(ha:a.length≤100000)(ua:uni 4 a)(ub:uni 4 b){base:Nat}:FV Tp 23 [.p (fS a),.p (fS b)] base (pB (decide (a=b))) []:=by
 by_cases hl:a.length=b.length
 ·have at':∀ (l:Lqq) (j:Nat),uni 4 l→j<l.length→∃ y0 y1 y2 y3,l[j]? = some [y0,y1,y2,y3]∧l.getD j []=[y0,y1,y2,y3]:=fun l j hu hj=>by
   have h:=hu l[j] (fG hj)
   match e:l[j],h with
   | [y0,y1,y2,y3],_=>exact ⟨y0,y1,y2,y3,by rw [Av hj,e],by rw [Bw,Av hj,e];rfl⟩
  rcases aF.find (P:=Tp) (k:=0) (b:=aAj) (fun i=>lI a b i) (fun i _=>cD (lI a b i) [(4,.kb false)]) (lI a b a.length) .ret (.exit 0) (by simp) (by simp) (fun j=>decide (a.getD j []≠b.getD j [])) (List.range a.length)
   (fun i x hx hp=>by
    obtain ⟨rfl,hi⟩:=aTe hx;obtain ⟨y0,y1,y2,y3,e1,e2⟩:=at' a x ua hi
    obtain ⟨z0,z1,z2,z3,e3,e4⟩:=at' b x ub (by omega)
    rw [e2,e4] at hp
    exact bNd (by omega) e1 ua e3 ub ⟨rfl,rfl⟩ (by rw [cEc];simpa using hp) (aI (by omega)) rfl)
   (fun i x hx hp=>by
    obtain ⟨rfl,hi⟩:=aTe hx;obtain ⟨y0,y1,y2,y3,e1,e2⟩:=at' a x ua hi
    obtain ⟨z0,z1,z2,z3,e3,e4⟩:=at' b x ub (by omega)
    rw [e2,e4] at hp
    exact bNc (by omega) e1 ua e3 ub ⟨rfl,rfl⟩ (by rw [cEc];exact decide_eq_false (of_decide_eq_true hp)))
   (by rw [aRl];exact bNe (by omega)) with ⟨i,x,h1,h2,h3,h4⟩ | ⟨h1,h2,h3⟩
  ·have hne:a≠b:=fun e=>by subst e;simp at h3
   rw [decide_eq_false hne];exact cJs (by omega) h4
  ·have he:a=b:=by
    refine List.ext_getElem hl fun j h5 h6 => ?_
    have h7:=List.any_eq_false.1 h2 j (lC.2 h5);have h8:a.getD j []=b.getD j []:=by simpa using h7
    rw [Bw,Bw,Av h5,Av h6] at h8
    exact h8
   rw [decide_eq_true he];exact cJr (by omega) h3
 ·have hne:a≠b:=fun e=>hl (by rw [e])
  rw [decide_eq_false hne];exact cJq (by omega)
end CU
end
section
namespace CU
open KC
abbrev threeC:KC.Cup:=⟨3,3,2,[10,6,4],[[1,2,3],[3,1,1]]⟩
theorem three_p0{base:Nat}:FV Tp 67 [] base (.p (.agg [(aA 3),(aA 3),(aA 2),(.sl 3 [(aA 10),(aA 6),(aA 4)]),(.sl 2 [(.sl 3 [(aA 1),(aA 2),(aA 3)]),(.sl 3 [(aA 3),(aA 1),(aA 1)])])])) []:=FV.frz (FMM.fi 0 ⟨[],[],[1,4],[]⟩ func67 [] gn) (by kernel_rfl)
end CU
end
end KV
end Go.Proofs
section
namespace Go.Proofs
namespace KC
def bAk(x:Int):List Int→List Int
 | []=>[x]
 | y::r=>if x≤y then x::y::r else y::bAk x r
def sortI:List Int→List Int
 | []=>[]
 | x::r=>bAk x (sortI r)
theorem aAi(x:Int):∀ l,(bAk x l).Perm (x::l)
 | [] => .refl _
 | y::r=>by
  unfold bAk
  split
  ·exact .refl _
  ·exact ((aAi x r).cons y).trans (List.Perm.swap x y r)
theorem sortI_perm:∀ l,(sortI l).Perm l
 | [] => .refl _
 | x::r=>(aAi x _).trans ((sortI_perm r).cons x)
theorem aBs(x:Int):∀ l,l.Pairwise (· ≤ ·)→(bAk x l).Pairwise (· ≤ ·)
 | [],_=>by simp [bAk]
 | y::r,h=>by
  obtain ⟨h1,h2⟩:=List.pairwise_cons.1 h;unfold bAk
  split
  ·rename_i hx
   exact List.pairwise_cons.2 ⟨fun z hz=>by
    rcases List.mem_cons.1 hz with rfl | hz
    ·exact hx
    ·have:=h1 z hz;omega,h⟩
  ·rename_i hx
   refine List.pairwise_cons.2 ⟨fun z hz => ?_,aBs x r h2⟩
   rcases List.mem_cons.1 ((aAi x r).mem_iff.1 hz) with rfl | hz
   ·omega
   ·exact h1 z hz
theorem yO:∀ l,(sortI l).Pairwise (· ≤ ·)
 | [] => .nil
 | x::r=>aBs x _ (yO r)
theorem aKw:∀ (a b:List Int),a.Perm b→a.Pairwise (· ≤ ·)→b.Pairwise (· ≤ ·)→a=b
 | [],b,h,_,_=>(List.nil_perm.1 h).symm
 | x::r,[],h,_,_=>absurd h.length_eq (by simp)
 | x::r,y::t,h,ha,hb=>by
  obtain ⟨h1,h2⟩:=List.pairwise_cons.1 ha;obtain ⟨h3,h4⟩:=List.pairwise_cons.1 hb;have e:x=y:=by
   have m1:x∈y::t:=h.mem_iff.1 (List.mem_cons_self ..);have m2:y∈x::r:=h.mem_iff.2 (List.mem_cons_self ..)
   rcases List.mem_cons.1 m1 with e | m1
   ·exact e
   ·rcases List.mem_cons.1 m2 with e | m2
    ·exact e.symm
    ·have:=h1 y m2;have:=h3 x m1;omega
  subst e;rw [aKw r t (List.Perm.cons_inv h) h2 h4]
theorem mergeSort_eq(l:List Int):l.mergeSort leB=sortI l:=by
 refine aKw _ _ ((List.mergeSort_perm _ _).trans (sortI_perm l).symm) ?_ (yO l);have:=List.pairwise_mergeSort aLh aLi l;exact this.imp (fun h=>by simpa [leB,KL.leB] using h)
end KC
namespace KV
open Tryz
namespace CU
open KC
theorem aBt(c:KC.Cup)(s:Nat):KC.countedL c s=KC.sortI ((KC.isort (KC.ltC (KC.cntCmp c s)) (KC.idx c.done.length)).take (min c.done.length c.be.toNat)):=by
 unfold KC.countedL;exact KC.mergeSort_eq _
def totK(c:KC.Cup)(s:Nat):Int:=((KC.sortI ((KC.isort (KC.ltC (KC.cntCmp c s)) (KC.idx c.done.length)).take (min c.done.length c.be.toNat))).map fun i=>KC.scoreAt c i.toNat s).sum
theorem totalM_eq(c:KC.Cup)(s:Nat):KC.totalM c s=totK c s:=by
 unfold KC.totalM totK;rw [aBt]
theorem aTd{race:List Int}(h0:∀ x∈race,0≤x)(h:KC.NoClash race):KC.clashR race=false:=(KC.clash_iff race h0).2 h
theorem valid_three:KC.Valid threeC where
 sk1:=by decide
 sk2:=by decide
 ra1:=by decide
 ra2:=by decide
 be1:=by decide
 be2:=by decide
 pt1:=by decide
 pt2:=by decide
 dn:=by decide
 len:=by decide
 pts:=by decide
 rows:=by decide
 falls:=by kernel_rfl
 clash:=by
  show (KC.clashR [1,2,3] || (KC.clashR [3,1,1] || false))=false
  rw [aTd (by decide) (by unfold KC.NoClash;decide),aTd (by decide) (by unfold KC.NoClash;decide)]
  rfl
end CU
end KV
end Go.Proofs
end
namespace Go.Proofs
namespace KV
open Tryz
section
variable {P:Program}
end
section

end
section
variable {F:Fence} {n:Nat} {P:Program}
end
section
section
variable {F:Fence} {n:Nat} {P:Program}
end
variable {P:Program} {T:TT} {E:Env}
end
section
end
section

end
end KV
end Go.Proofs
section
namespace Go.Proofs
open Go.RowKit
namespace KV
open Tryz
end KV
end Go.Proofs
end
namespace Go.Proofs
namespace KV
open Tryz
section
end
section

abbrev thD:List PV:=[(aA 1),(aA 0),(aA 0),(aA 1),(aA 300),(aA 0),(aA 2),(aA 7),(aA 10),(aA 0),(aA 0),(aA 1),(aA 3),(aA 9),(aA 40),(aA 0),(aA 0),(aA 2),(aA 4),(aA 5),(aA 50),(aA 0),(aA 0),(aA 3),(aA 5),(aA 6),(aA 60),(aA 0),(aA 100),(aA 1)]
abbrev thS:List PV:=[(aA 1),(aA 15000),(aA 2),(aA 15100),(aA 3),(aA 15200)]
abbrev cNk:AV:=(.p (.agg [(aA 30),(.sl 3 thS),(.sl 5 [(aA 1),(aA 0),(aA 0),(aA 1),(aA 300),(aA 0),(aA 2),(aA 7),(aA 10),(aA 0),(aA 0),(aA 1),(aA 3),(aA 9),(aA 40),(aA 0),(aA 0),(aA 2),(aA 4),(aA 5),(aA 50),(aA 0),(aA 0),(aA 3),(aA 5),(aA 6),(aA 60),(aA 0),(aA 100),(aA 1)])]))
theorem cCz{Fa:List PV}(h0:0≤(0:Int)∧(0:Int)≤5∧(5:Int)≤5)(El:Fa=((thD.drop 0).take (5*(thD.length / 5)))){base:Nat}:FV Tp 66 [(pI 5)] base (.p (.agg [(aA 30),(.sl 3 [(aA 1),(aA 15000),(aA 2),(aA 15100),(aA 3),(aA 15200)]),(.sl 5 Fa)])) []:=by
 subst El;have k1:=fk 1 (cIg (a:=(1:Int)) (b:=(1:Int)) (c:=(300:Int))) rfl;have k2:=fk 1 (aNw (a:=(2:Int)) (b:=(7:Int)) (c:=(1:Int)) (d:=(10:Int)) (e:=(0:Int))) rfl;have k3:=fk 1 (aNw (a:=(3:Int)) (b:=(9:Int)) (c:=(2:Int)) (d:=(40:Int)) (e:=(0:Int))) rfl;have k4:=fk 1 (aNw (a:=(4:Int)) (b:=(5:Int)) (c:=(3:Int)) (d:=(50:Int)) (e:=(0:Int))) rfl;have k5:=fk 1 (aNw (a:=(5:Int)) (b:=(6:Int)) (c:=(1:Int)) (d:=(60:Int)) (e:=(100:Int))) rfl;exact FV.frz (FMM.fi 0 ⟨[],[],[2,1],[]⟩ func66 [k1.o,k2.o,k3.o,k4.o,k5.o] (gc h0 (gc k5 (gc k4 (gc k3 (gc k2 (gc k1 gn))))))) (by kernel_rfl)
theorem cDa{base:Nat}:FV Tp 66 [.p (aA 5)] base cNk []:=cCz (by decide) rfl
end
end KV
end Go.Proofs
section
namespace Go.Proofs
namespace KL
end KL
namespace KV
open Tryz
abbrev Qk:List (List Int):=[[1,15000],[2,15100],[3,15200]]
abbrev Nw:List (List Int):=[[1,0,0,1,300,0],[2,7,10,0,0,1],[3,9,40,0,0,2],[4,5,50,0,0,3],[5,6,60,0,100,1]]
theorem aUm{l:List (List Int)}(h:l.Pairwise fun a b=>a.getD 0 0≤b.getD 0 0):aC l=l:=List.mergeSort_of_pairwise (h.imp fun h=>decide_eq_true h)
theorem srtS:aC Qk=Qk:=aUm (by decide)
theorem Ts:aC Nw=Nw:=aUm (by decide)
theorem Ql:cK 30 Qk Nw:=⟨by unfold uni;decide,by unfold uni;decide,by decide,by decide,by decide,by decide,by decide,by decide,by decide,by decide,by decide⟩
theorem Vh(base:Nat):FV Tryz.prog 65 [.p (.agg (kF 30 Qk Nw)),.p (aA 1)] base (.tup [.p (aA 15100),.p (blP false),.p (aA 0)]) []:=by
 obtain ⟨T',_,hT⟩:=cGr (dl:=30) (sk:=aC Qk) (dc:=aC Nw) (kK Ql) aNk 1 15000 (by decide) (T:=[]) cE.nil
 have:=cIb Ql (bib:=1) (i0:=0) (s1:=1) (s2:=15000) (by rw [srtS];decide +kernel) (by rw [srtS];rfl) hT (base:=base)
 rw [Ts,show cI 30 [] Nw 1 15000=(15100,false) from by decide +kernel] at this
 exact this
end KV
end Go.Proofs
end
namespace Go.Proofs
namespace KV
open Tryz
section

theorem cEu:((0:Int) == 0)=true:=by first | decide | simp
theorem bRq:((15100:Int) == 15100)=true:=by first | decide | simp
theorem cEv(h65_0:∀ base:Nat,FV Tp 65 [(.p (.agg [(aA 30),(.sl 3 [(aA 1),(aA 15000),(aA 2),(aA 15100),(aA 3),(aA 15200)]),(.sl 5 [(aA 1),(aA 0),(aA 0),(aA 1),(aA 300),(aA 0),(aA 2),(aA 7),(aA 10),(aA 0),(aA 0),(aA 1),(aA 3),(aA 9),(aA 40),(aA 0),(aA 0),(aA 2),(aA 4),(aA 5),(aA 50),(aA 0),(aA 0),(aA 3),(aA 5),(aA 6),(aA 60),(aA 0),(aA 100),(aA 1)])])),(pI 1)] base (.tup [(pI 15100),(pB false),(pI 0)]) [])(h39_1:∀ base:Nat,FV Tp 39 [(.p (.agg [(aA 3),(aA 3),(aA 2),(.sl 3 [(aA 10),(aA 6),(aA 4)]),(.sl 2 [(.sl 3 [(aA 1),(aA 2),(aA 3)]),(.sl 3 [(aA 3),(aA 1),(aA 1)])])]))] base (.tup [(.p (.sl 3 [(aA 14),(aA 14),(aA 12)])),(pI 0)]) [])(h38_2:∀ base:Nat,FV Tp 38 [(.p (.sl 3 [(aA 14),(aA 14),(aA 12)])),(.p (.sl 3 [(aA 14),(aA 14),(aA 12)]))] base (pB true) []){base:Nat}:FV Tp 24 [] base (pB true) []:=have k1:=fk 0 cDa rfl;have k2:=fk 0 CU.three_p0 rfl;FV.fi func24 ([k1.o,.c (.tup [(pI 15100),(pB false),(pI 0)]) [],k2.o,.c (.tup [(.p (.sl 3 [(aA 14),(aA 14),(aA 12)])),(pI 0)]) []]++rT 9++[.c (pB true) [],bT]) (gc bRq (gt (FC Tp 38 [(.p (.sl 3 [(aA 14),(aA 14),(aA 12)])),(.own 0)] [(0,(.row 3 3 [(aA 14),(aA 14),(aA 12)]))] 1 (pB true) []) (fv (h38_2 _)) (Ay bRq (Lr cEu (gc (fk 0 (h39_1 _) rfl) (gc k2 (gc (fk 0 (h65_0 _) rfl) (gc k1 gn))))))))
theorem bIk:KC.totalsM CU.threeC=[14,14,12]:=by
 have:KC.totalsM CU.threeC=(List.range 3).map (CU.totK CU.threeC):=by
  show (List.range 3).map (KC.totalM CU.threeC)=_;exact xW fun s _=>CU.totalM_eq _ s
 have h:(List.range 3).map (CU.totK CU.threeC)=[14,14,12]:=by kernel_rfl
 exact this.trans h
theorem bRr{base:Nat}:FV Tp 24 [] base (pB true) []:=cEv (fun base=>Vh base)
 (fun base=>by
  have:=CU.totals2_ok CU.threeC CU.valid_three (base:=base);rw [bIk] at this
  exact this)
 (fun base=>cIf [14,14,12] [14,14,12] (by decide))
end
end KV
end Go.Proofs
section
namespace Go.Proofs
namespace KC

structure RInv (ord:List Int) (n i:Nat) (o:List Int) (pl:Int) (la:List Int):Prop where
 len:o.length=n
 p1:1≤pl
 p2:pl≤1+3*(i:Int)
 nn:∀ x∈o,0≤x
 zero:∀ (j:Nat) (x:Int),i≤j→ord[j]? = some x→o.getD x.toNat 0=0
 cl:∀ p∈o,p≠0→p+(o.count p:Nat)≤pl∧∀ q∈o,p<q→p+(o.count p:Nat)≤q
 lst:∀ (y:Int) (r:List Int),la=y::r→0≤y∧y.toNat<n∧1≤o.getD y.toNat 0∧o.getD y.toNat 0+(o.count (o.getD y.toNat 0):Nat)=pl
 ll:la.length≤i

theorem count_pos'{o:List Int}{p:Int}(h:p∈o):1≤o.count p:=List.count_pos_iff.2 h
theorem rL{o:List Int}{k:Nat}{a p:Int}(hk:k<o.length)(h0:o.getD k 0=0)(hp:p≠0):(o.set k a).count p=o.count p+if a=p then 1 else 0:=by
 have hg:o[k]=0:=by rw [List.getD_eq_getElem?_getD,List.getElem?_eq_getElem hk] at h0;exact h0
 rw [List.count_set hk,hg];have:((0:Int) == p)=false:=by simpa using fun h=>hp h.symm
 rw [this]
 by_cases h:a=p
 ·subst h;simp
 ·have h':(a == p)=false:=by simpa using h
  rw [h',if_neg h];simp
theorem tQ{o:List Int}{k:Nat}{a x:Int}(h:x∈o.set k a):x∈o∨x=a:=List.mem_or_eq_of_mem_set h
theorem uP{o:List Int}{k j:Nat}{a:Int}(hk:k<o.length):(o.set k a).getD j 0=if k=j then a else o.getD j 0:=by
 rw [List.getD_eq_getElem?_getD,List.getElem?_set]
 by_cases h:k=j
 ·subst h;rw [if_pos rfl,if_pos rfl,if_pos hk];rfl
 ·rw [if_neg h,if_neg h,List.getD_eq_getElem?_getD]

variable {ord:List Int} {n i:Nat} {o:List Int} {pl:Int} {la:List Int}
theorem RInv.skip(h:RInv ord n i o pl la):RInv ord n (i+1) o pl la :=
 ⟨h.len,h.p1,by have:=h.p2;omega,h.nn,fun j x hj hx=>h.zero j x (by omega) hx,h.cl,h.lst,by have:=h.ll;omega⟩

theorem bVy{x y:Int}{j:Nat}(hnd:ord.Nodup)(hin:∀ x∈ord,0≤x)(hx:ord[i]? = some x)(hy:ord[j]? = some y)(hj:i<j):x.toNat≠y.toNat:=fun e=>by
 have h1:=hin x (List.mem_of_getElem? hx);have h2:=hin y (List.mem_of_getElem? hy);have h3:x=y:=by omega
 subst h3;obtain ⟨hi,e1⟩:=List.getElem?_eq_some_iff.1 hx;obtain ⟨Ce,e2⟩:=List.getElem?_eq_some_iff.1 hy;exact List.pairwise_iff_getElem.1 hnd i j hi Ce hj (e1.trans e2.symm)

theorem RInv.new(h:RInv ord n i o pl la)(hnd:ord.Nodup)(hin:∀ x∈ord,0≤x∧x.toNat<n){x d:Int}(hx:ord[i]? = some x)(hd:0≤d∧d≤2):RInv ord n (i+1) (o.set x.toNat (pl+d)) (pl+d+1) [x]:=by
 obtain ⟨x0,x1⟩:=hin x (List.mem_of_getElem? hx);have Ib:=h.p1;have hk:x.toNat<o.length:=by rw [h.len];exact x1
 have hz:=h.zero i x (Nat.le_refl _) hx;have hno:pl+d∉o:=fun hm=>by
  have:=(h.cl _ hm (by omega)).1
  have:=count_pos' hm;omega
 have hcq:(o.set x.toNat (pl+d)).count (pl+d)=1:=by
  rw [rL hk hz (by omega),if_pos rfl,List.count_eq_zero.2 hno]
 have hco:∀ p,p≠0→p≠pl+d→(o.set x.toNat (pl+d)).count p=o.count p:=fun p h0 h1=>by
  rw [rL hk hz h0,if_neg (fun e=>h1 e.symm)];rfl
 refine ⟨by simpa using h.len,by omega,by have:=h.p2;omega,fun y hy => ?_,fun j y hj hy => ?_,fun p hp h0 => ?_,fun y r e => ?_,by simp⟩
 ·rcases tQ hy with hm | rfl
  ·exact h.nn _ hm
  ·omega
 ·rw [uP hk,if_neg (bVy hnd (fun x hx=>(hin x hx).1) hx hy (by omega))]
  exact h.zero j y (by omega) hy
 ·by_cases he:p=pl+d
  ·subst he
   rw [hcq];refine ⟨by omega,fun q hq hlt => ?_⟩
   rcases tQ hq with hm | rfl
   ·have:=(h.cl _ hm (by omega)).1
    have:=count_pos' hm;omega
   ·omega
  ·rw [hco p h0 he]
   have hm:p∈o:=by
    rcases tQ hp with hm | e
    ·exact hm
    ·exact absurd e he
   obtain ⟨q1,q2⟩:=h.cl p hm h0;refine ⟨by omega,fun q hq hlt => ?_⟩
   rcases tQ hq with B8 | rfl
   ·exact q2 q B8 hlt
   ·omega
 ·cases e
  rw [uP hk,if_pos rfl,hcq];exact ⟨x0,x1,by omega,by omega⟩

theorem RInv.share(h:RInv ord n i o pl la)(hnd:ord.Nodup)(hin:∀ x∈ord,0≤x∧x.toNat<n){x y:Int}{r:List Int}(hx:ord[i]? = some x)(hla:la=y::r):RInv ord n (i+1) (o.set x.toNat (o.getD y.toNat 0)) (pl+1) (la++[x]):=by
 obtain ⟨x0,x1⟩:=hin x (List.mem_of_getElem? hx);obtain ⟨y0,y1,y2,y3⟩:=h.lst y r hla;have Ib:=h.p1;have hk:x.toNat<o.length:=by rw [h.len];exact x1
 have hz:=h.zero i x (Nat.le_refl _) hx;obtain ⟨q,hq⟩:∃ q,q=o.getD y.toNat 0:=⟨_,rfl⟩;rw [← hq] at y2 y3 ⊢
 have hxy:x.toNat≠y.toNat:=fun e=>by rw [e] at hz;omega
 have hqm:q∈o:=by
  rw [hq,List.getD_eq_getElem?_getD,List.getElem?_eq_getElem (by rw [h.len];exact y1)]
  exact List.getElem_mem _
 have hcq:(o.set x.toNat q).count q=o.count q+1:=by rw [rL hk hz (by omega),if_pos rfl]
 have hco:∀ p,p≠0→p≠q→(o.set x.toNat q).count p=o.count p:=fun p h0 h1=>by
  rw [rL hk hz h0,if_neg (fun e=>h1 e.symm)];rfl
 have hmem:∀ p,p∈o.set x.toNat q→p∈o:=fun p hp=>by
  rcases tQ hp with hm | rfl
  ·exact hm
  ·exact hqm
 refine ⟨by simpa using h.len,by omega,by have:=h.p2;omega,fun z hzm=>h.nn _ (hmem z hzm),fun j z hj hzz => ?_,fun p hp h0 => ?_,fun z r' e => ?_,by have:=h.ll;simp;omega⟩
 ·rw [uP hk,if_neg (bVy hnd (fun x hx=>(hin x hx).1) hx hzz (by omega))]
  exact h.zero j z (by omega) hzz
 ·obtain ⟨q1,q2⟩:=h.cl p (hmem p hp) h0
  by_cases he:p=q
  ·subst he
   rw [hcq];refine ⟨by omega,fun q' Qn hlt => ?_⟩
   have:=q2 q' (hmem _ Qn) hlt;have h5:=(h.cl q' (hmem _ Qn) (by omega)).1
   have:=count_pos' (hmem _ Qn);omega
  ·rw [hco p h0 he]
   exact ⟨by omega,fun q' Qn hlt=>q2 q' (hmem _ Qn) hlt⟩
 ·rw [hla] at e
  cases e;rw [uP hk,if_neg hxy,← hq,hcq];exact ⟨y0,y1,by omega,by omega⟩

structure RaceOK (n:Nat) (race:List Int):Prop where
 len:race.length=n
 bd:∀ x∈race,0≤x∧x≤60
 cl:NoClash race
theorem RInv.race(h:RInv ord n i o pl la)(hi:i≤15):RaceOK n o:=by
 have G6:=h.p2;refine ⟨h.len,fun x hx=>⟨h.nn x hx,?_⟩,fun p hp h0 => ?_⟩
 ·by_cases h0:x=0
  ·omega
  ·have:=(h.cl x hx h0).1;omega
 ·obtain ⟨q1,q2⟩:=h.cl p hp h0
  exact ⟨by omega,q2⟩
theorem RInv.start{n:Nat}:RInv ord n 0 (List.replicate n 0) 1 [] :=
 ⟨by simp,by omega,by omega,fun x hx=>by rw [List.mem_replicate] at hx;omega,fun j x _ _=>by
  rw [List.getD_eq_getElem?_getD,List.getElem?_replicate];split <;> rfl,fun p hp h0=>by rw [List.mem_replicate] at hp;exact absurd hp.2 h0,fun y r e=>(by cases e),by simp⟩
end KC
end Go.Proofs
end
namespace Go.Proofs
namespace KV
open Tryz
section
variable {sh:Bool}{n mx nx pl st tt Cm E5 Ed Ad Au:Int}{l o la o' Dc:List Int}{i i':Nat}
namespace CU
open KC
noncomputable abbrev mD:Code:=sub (cd Tryz.f10) [1,1,1,1,0,1,0,0]
def cF(n:Int)(sh:Bool)(l:List Int)(nx st:Int)(i on:Nat)(oc:List PV)(pl:Int)(lan:Nat)(lac:List PV)(mx tt:Int):St:=⟨fr 65 [(0,(.ptr 0 0)),(2,(pB sh)),(6,(.p cR)),(7,(.own 1)),(8,(pI pl)),(9,(.own 3)),(16,(.own 2)),(17,(pI (((cJ n l nx st).1).length:Int))),(18,(pI (i:Int)))],[some (.box 96 [(.p (.sl l.length (l.map bW))),(pI mx),(.p (.v (.int .u32 tt)))]),some (.row 3 on oc),some (.row 3 (((cJ n l nx st).1).length) (((cJ n l nx st).1).map aA)),some (.row 3 lan lac)]⟩
theorem bVx{Aw:Nat}{A5:List Int}{Qm:Int}{Nj:List Int}{Iq Ir:Int}(h0:0≤n∧n≤n∧n≤1000000)(h1:0≤nx∧nx≤1000000)(h2:0≤n∧n≤1000)(B6:aF Tp 1 mD (cF n sh l nx st 0 n.toNat (List.replicate n.toNat (aA 0)) 1 0 [] ((cJ n l nx st).2.1) ((cJ n l nx st).2.2)) (.exit 0) (cF n sh l nx st Aw A5.length (A5.map aA) Qm Nj.length (Nj.map aA) Iq Ir)):FMM Tp 10 [(.ptr 0 0),(pI n),(pB sh)] [some (.box 96 [(.p (.sl l.length (l.map bW))),(pI nx),(.p (.v (.int .u32 st)))])] (.own 1) [some (.box 96 [(.p (.sl l.length (l.map bW))),(pI Iq),(.p (.v (.int .u32 Ir)))]),some (.row 3 A5.length (A5.map aA))]:=have k1:=mq [0] 2 (bXy n l nx st h1 h2);FMM.fi 1 ⟨[],[1],[],[]⟩ func10 [k1.o,B6.k 1 (gN c8 [1,2,3] [(9,3)])] (gc B6.code (gc k1 (gc h0 gn)))
abbrev aLk(l:List Int)(mx tt:Int):=aG 4 l ((aG 7 l mx tt).2.1) ((aG 7 l mx tt).2.2)
abbrev aLl(l:List Int)(mx tt:Int):=aG 5 l ((aG 7 l mx tt).2.1) ((aG 7 l mx tt).2.2)
abbrev bFp(l:List Int)(mx tt:Int):=aG 5 l ((aLk l mx tt).2.1) ((aLk l mx tt).2.2)
abbrev cNl(l:List Int)(mx tt:Int):=bA 3 l ((aLl l mx tt).2.1) ((aLl l mx tt).2.2)
abbrev oG(l:List Int)(mx tt:Int):=aG 7 l mx tt
abbrev cNm(l:List Int)(mx tt:Int):=bA 3 l ((bFp l mx tt).2.1) ((bFp l mx tt).2.2)
section
variable(h0:(i:Int)<(((cJ n l nx st).1).length:Int))(h1:((cJ n l nx st).1)[i]? = some Ad)(h2:0≤mx∧mx≤1000000000)
include h0 h1 h2
theorem aUn(h3:((aG 7 l mx tt).1)=true)(h4:dv i)(Ak:i'=(i+1))(Db:Cm=((aG 7 l mx tt).2.1))(Dv:Ed=((aG 7 l mx tt).2.2)):aB Tp 1 mD (cF n sh l nx st i o.length (o.map aA) pl la.length (la.map aA) mx tt) .normal (cF n sh l nx st i' o.length (o.map aA) pl la.length (la.map aA) Cm Ed):=by
 subst Ak Db Dv;have k1:=mq [0] 4 (eO 7 l mx tt h2);exact aB.fi (gI c8 [1,2,3]) [bT,.x (aA Ad),k1.o,bT] (gc h4 (gc h3 (gc k1 (gc (atm aA h1) (gc (aX (i:=(i:Int)) (C7 _) h1) (g0 h0))))))
theorem aUo{Ci Tt:Int}(h3:((aG 7 l mx tt).1)=false)(h4:sh=true)(h5:(0:Int)<(la.length:Int))(h6:0≤((aG 7 l mx tt).2.1)∧((aG 7 l mx tt).2.1)≤1000000000)(h7:((aG 4 l ((aG 7 l mx tt).2.1) ((aG 7 l mx tt).2.2)).1)=true)(h8:la[0]? = some Au)(h9:o[Au.toNat]? = some Ci)(A0:0≤Au)(Bu:o[Ad.toNat]? = some Tt)(Bh:0≤Ad)(Cb:(Ad.toNat*1)<(o.map aA).length)(De:[(aA Ad)].length=1*1∧la.length+1≤1000000)(G7:inR (pl+1))(Fh:dv i)(Ak:i'=(i+1))(A6:o'.length=o.length)(A7:o'.map aA=((o.map aA).set (Ad.toNat*1) (aA Ci)))(D4:E5=(pl+1))(Di:Dc.length=(la.length+1))(Dj:Dc.map aA=((la.map aA)++[(aA Ad)]))(Db:Cm=((aG 4 l ((aG 7 l mx tt).2.1) ((aG 7 l mx tt).2.2)).2.1))(Dv:Ed=((aG 4 l ((aG 7 l mx tt).2.1) ((aG 7 l mx tt).2.2)).2.2)):aB Tp 1 mD (cF n sh l nx st i o.length (o.map aA) pl la.length (la.map aA) mx tt) .normal (cF n sh l nx st i' o'.length (o'.map aA) E5 Dc.length (Dc.map aA) Cm Ed):=by
 subst Ak D4 Db Dv;have k1:=mq [0] 4 (eO 7 l mx tt h2);have k2:=mq [0] 4 (eO 4 l ((oG l mx tt).2.1) ((oG l mx tt).2.2) h6);rw [A6,A7,Di,Dj];exact aB.fi (gI c8 [1,2,5]) ([bT,.x (aA Ad),k1.o,bF]++rT 6++[k2.o,bT,bT,.x (aA Au),.x (aA Ci)]) (gc Fh (gc G7 (gc De (gc Cb (gc (aX (i:=Ad) Bh Bu) (gt ((o.map aA)[(Au.toNat*1)]? = some (aA Ci)) (dF (i:=Au.toNat) h9) (gc (aX (i:=Au) A0 h9) (gt ((la.map aA)[0]? = some (aA Au)) (dF (i:=0) h8) (gc (aX (i:=(0:Int)) (by first | decide | simp) h8) (gc h7 (gc (bG h5) (gc k2 (Az (bG h5) (A4 h4 (gc h3 (gc k1 (gc (atm aA h1) (gc (aX (i:=(i:Int)) (C7 _) h1) (g0 h0)))))))))))))))))))
end
section
variable(h0:(i:Int)<(((cJ n l nx st).1).length:Int))(h1:((cJ n l nx st).1)[i]? = some Ad)(h2:0≤mx∧mx≤1000000000)(h3:((aG 7 l mx tt).1)=false)(h4:sh=true)(h5:(0:Int)<(la.length:Int))(h6:0≤((aG 7 l mx tt).2.1)∧((aG 7 l mx tt).2.1)≤1000000000)(h7:((aG 4 l ((aG 7 l mx tt).2.1) ((aG 7 l mx tt).2.2)).1)=false)(h8:0≤((aG 4 l ((aG 7 l mx tt).2.1) ((aG 7 l mx tt).2.2)).2.1)∧((aG 4 l ((aG 7 l mx tt).2.1) ((aG 7 l mx tt).2.2)).2.1)≤1000000000)
include h0 h1 h2 h3 h4 h5 h6 h7 h8
theorem aUp(h9:((aG 5 l ((aG 4 l ((aG 7 l mx tt).2.1) ((aG 7 l mx tt).2.2)).2.1) ((aG 4 l ((aG 7 l mx tt).2.1) ((aG 7 l mx tt).2.2)).2.2)).1)=true)(A0:0≤((aG 5 l ((aG 4 l ((aG 7 l mx tt).2.1) ((aG 7 l mx tt).2.2)).2.1) ((aG 4 l ((aG 7 l mx tt).2.1) ((aG 7 l mx tt).2.2)).2.2)).2.1)∧((aG 5 l ((aG 4 l ((aG 7 l mx tt).2.1) ((aG 7 l mx tt).2.2)).2.1) ((aG 4 l ((aG 7 l mx tt).2.1) ((aG 7 l mx tt).2.2)).2.2)).2.1)≤1000000000)(Bu:inR (pl+((bA 3 l ((aG 5 l ((aG 4 l ((aG 7 l mx tt).2.1) ((aG 7 l mx tt).2.2)).2.1) ((aG 4 l ((aG 7 l mx tt).2.1) ((aG 7 l mx tt).2.2)).2.2)).2.1) ((aG 5 l ((aG 4 l ((aG 7 l mx tt).2.1) ((aG 7 l mx tt).2.2)).2.1) ((aG 4 l ((aG 7 l mx tt).2.1) ((aG 7 l mx tt).2.2)).2.2)).2.2)).1)))(Bh:o[Ad.toNat]? = some Au)(Cb:0≤Ad)(De:(Ad.toNat*1)<(o.map aA).length)(G7:inR ((pl+((bA 3 l ((aG 5 l ((aG 4 l ((aG 7 l mx tt).2.1) ((aG 7 l mx tt).2.2)).2.1) ((aG 4 l ((aG 7 l mx tt).2.1) ((aG 7 l mx tt).2.2)).2.2)).2.1) ((aG 5 l ((aG 4 l ((aG 7 l mx tt).2.1) ((aG 7 l mx tt).2.2)).2.1) ((aG 4 l ((aG 7 l mx tt).2.1) ((aG 7 l mx tt).2.2)).2.2)).2.2)).1))+1))(Fh:dv i)(Ak:i'=(i+1))(A6:o'.length=o.length)(A7:o'.map aA=((o.map aA).set (Ad.toNat*1) (aA (pl+((bA 3 l ((aG 5 l ((aG 4 l ((aG 7 l mx tt).2.1) ((aG 7 l mx tt).2.2)).2.1) ((aG 4 l ((aG 7 l mx tt).2.1) ((aG 7 l mx tt).2.2)).2.2)).2.1) ((aG 5 l ((aG 4 l ((aG 7 l mx tt).2.1) ((aG 7 l mx tt).2.2)).2.1) ((aG 4 l ((aG 7 l mx tt).2.1) ((aG 7 l mx tt).2.2)).2.2)).2.2)).1)))))(D4:E5=((pl+((bA 3 l ((aG 5 l ((aG 4 l ((aG 7 l mx tt).2.1) ((aG 7 l mx tt).2.2)).2.1) ((aG 4 l ((aG 7 l mx tt).2.1) ((aG 7 l mx tt).2.2)).2.2)).2.1) ((aG 5 l ((aG 4 l ((aG 7 l mx tt).2.1) ((aG 7 l mx tt).2.2)).2.1) ((aG 4 l ((aG 7 l mx tt).2.1) ((aG 7 l mx tt).2.2)).2.2)).2.2)).1))+1))(Di:Dc.length=1)(Dj:Dc.map aA=[(aA Ad)])(Db:Cm=((bA 3 l ((aG 5 l ((aG 4 l ((aG 7 l mx tt).2.1) ((aG 7 l mx tt).2.2)).2.1) ((aG 4 l ((aG 7 l mx tt).2.1) ((aG 7 l mx tt).2.2)).2.2)).2.1) ((aG 5 l ((aG 4 l ((aG 7 l mx tt).2.1) ((aG 7 l mx tt).2.2)).2.1) ((aG 4 l ((aG 7 l mx tt).2.1) ((aG 7 l mx tt).2.2)).2.2)).2.2)).2.1))(Dv:Ed=((bA 3 l ((aG 5 l ((aG 4 l ((aG 7 l mx tt).2.1) ((aG 7 l mx tt).2.2)).2.1) ((aG 4 l ((aG 7 l mx tt).2.1) ((aG 7 l mx tt).2.2)).2.2)).2.1) ((aG 5 l ((aG 4 l ((aG 7 l mx tt).2.1) ((aG 7 l mx tt).2.2)).2.1) ((aG 4 l ((aG 7 l mx tt).2.1) ((aG 7 l mx tt).2.2)).2.2)).2.2)).2.2)):aB Tp 1 mD (cF n sh l nx st i o.length (o.map aA) pl la.length (la.map aA) mx tt) .normal (cF n sh l nx st i' o'.length (o'.map aA) E5 Dc.length (Dc.map aA) Cm Ed):=by
 subst Ak D4 Db Dv;have k1:=mq [0] 4 (eO 7 l mx tt h2);have k2:=mq [0] 4 (eO 4 l ((oG l mx tt).2.1) ((oG l mx tt).2.2) h6);have k3:=mq [0] 4 (eO 5 l ((aLk l mx tt).2.1) ((aLk l mx tt).2.2) h8);have k4:=mq [0] 4 (qY 3 l ((bFp l mx tt).2.1) ((bFp l mx tt).2.2) A0);rw [A6,A7,Di,Dj];exact aB.fi (gI c8 [1,2,4]) ([bT,.x (aA Ad),k1.o,bF]++rT 6++[k2.o,bT,bF,k3.o,bT,k4.o]) (gc Fh (gc G7 (gc De (gc (aX (i:=Ad) Cb Bh) (gc Bu (gc k4 (gc h9 (gc k3 (gc h7 (gc (bG h5) (gc k2 (Az (bG h5) (A4 h4 (gc h3 (gc k1 (gc (atm aA h1) (gc (aX (i:=(i:Int)) (C7 _) h1) (g0 h0))))))))))))))))))
theorem aUq(h9:((aG 5 l ((aG 4 l ((aG 7 l mx tt).2.1) ((aG 7 l mx tt).2.2)).2.1) ((aG 4 l ((aG 7 l mx tt).2.1) ((aG 7 l mx tt).2.2)).2.2)).1)=false)(A0:o[Ad.toNat]? = some Au)(Bu:0≤Ad)(Bh:(Ad.toNat*1)<(o.map aA).length)(Cb:inR (pl+1))(De:dv i)(Ak:i'=(i+1))(A6:o'.length=o.length)(A7:o'.map aA=((o.map aA).set (Ad.toNat*1) (aA pl)))(D4:E5=(pl+1))(Di:Dc.length=1)(Dj:Dc.map aA=[(aA Ad)])(Db:Cm=((aG 5 l ((aG 4 l ((aG 7 l mx tt).2.1) ((aG 7 l mx tt).2.2)).2.1) ((aG 4 l ((aG 7 l mx tt).2.1) ((aG 7 l mx tt).2.2)).2.2)).2.1))(Dv:Ed=((aG 5 l ((aG 4 l ((aG 7 l mx tt).2.1) ((aG 7 l mx tt).2.2)).2.1) ((aG 4 l ((aG 7 l mx tt).2.1) ((aG 7 l mx tt).2.2)).2.2)).2.2)):aB Tp 1 mD (cF n sh l nx st i o.length (o.map aA) pl la.length (la.map aA) mx tt) .normal (cF n sh l nx st i' o'.length (o'.map aA) E5 Dc.length (Dc.map aA) Cm Ed):=by
 subst Ak D4 Db Dv;have k1:=mq [0] 4 (eO 7 l mx tt h2);have k2:=mq [0] 4 (eO 4 l ((oG l mx tt).2.1) ((oG l mx tt).2.2) h6);have k3:=mq [0] 4 (eO 5 l ((aLk l mx tt).2.1) ((aLk l mx tt).2.2) h8);rw [A6,A7,Di,Dj];exact aB.fi (gI c8 [1,2,4]) ([bT,.x (aA Ad),k1.o,bF]++rT 6++[k2.o,bT,bF,k3.o,bF]) (gc De (gc Cb (gc Bh (gc (aX (i:=Ad) Bu A0) (gc h9 (gc k3 (gc h7 (gc (bG h5) (gc k2 (Az (bG h5) (A4 h4 (gc h3 (gc k1 (gc (atm aA h1) (gc (aX (i:=(i:Int)) (C7 _) h1) (g0 h0))))))))))))))))
end
section
variable(h0:(i:Int)<(((cJ n l nx st).1).length:Int))(h1:((cJ n l nx st).1)[i]? = some Ad)(h2:0≤mx∧mx≤1000000000)(h3:((aG 7 l mx tt).1)=false)
include h0 h1 h2 h3
theorem aUr(h4:sh=true)(h5:(la.length:Int)≤0)(h6:0≤((aG 7 l mx tt).2.1)∧((aG 7 l mx tt).2.1)≤1000000000)(h7:((aG 5 l ((aG 7 l mx tt).2.1) ((aG 7 l mx tt).2.2)).1)=true)(h8:0≤((aG 5 l ((aG 7 l mx tt).2.1) ((aG 7 l mx tt).2.2)).2.1)∧((aG 5 l ((aG 7 l mx tt).2.1) ((aG 7 l mx tt).2.2)).2.1)≤1000000000)(h9:inR (pl+((bA 3 l ((aG 5 l ((aG 7 l mx tt).2.1) ((aG 7 l mx tt).2.2)).2.1) ((aG 5 l ((aG 7 l mx tt).2.1) ((aG 7 l mx tt).2.2)).2.2)).1)))(A0:o[Ad.toNat]? = some Au)(Bu:0≤Ad)(Bh:(Ad.toNat*1)<(o.map aA).length)(Cb:inR ((pl+((bA 3 l ((aG 5 l ((aG 7 l mx tt).2.1) ((aG 7 l mx tt).2.2)).2.1) ((aG 5 l ((aG 7 l mx tt).2.1) ((aG 7 l mx tt).2.2)).2.2)).1))+1))(De:dv i)(Ak:i'=(i+1))(A6:o'.length=o.length)(A7:o'.map aA=((o.map aA).set (Ad.toNat*1) (aA (pl+((bA 3 l ((aG 5 l ((aG 7 l mx tt).2.1) ((aG 7 l mx tt).2.2)).2.1) ((aG 5 l ((aG 7 l mx tt).2.1) ((aG 7 l mx tt).2.2)).2.2)).1)))))(D4:E5=((pl+((bA 3 l ((aG 5 l ((aG 7 l mx tt).2.1) ((aG 7 l mx tt).2.2)).2.1) ((aG 5 l ((aG 7 l mx tt).2.1) ((aG 7 l mx tt).2.2)).2.2)).1))+1))(Di:Dc.length=1)(Dj:Dc.map aA=[(aA Ad)])(Db:Cm=((bA 3 l ((aG 5 l ((aG 7 l mx tt).2.1) ((aG 7 l mx tt).2.2)).2.1) ((aG 5 l ((aG 7 l mx tt).2.1) ((aG 7 l mx tt).2.2)).2.2)).2.1))(Dv:Ed=((bA 3 l ((aG 5 l ((aG 7 l mx tt).2.1) ((aG 7 l mx tt).2.2)).2.1) ((aG 5 l ((aG 7 l mx tt).2.1) ((aG 7 l mx tt).2.2)).2.2)).2.2)):aB Tp 1 mD (cF n sh l nx st i o.length (o.map aA) pl la.length (la.map aA) mx tt) .normal (cF n sh l nx st i' o'.length (o'.map aA) E5 Dc.length (Dc.map aA) Cm Ed):=by
 subst Ak D4 Db Dv;have k1:=mq [0] 4 (eO 7 l mx tt h2);have k2:=mq [0] 4 (eO 5 l ((oG l mx tt).2.1) ((oG l mx tt).2.2) h6);have k3:=mq [0] 4 (qY 3 l ((aLl l mx tt).2.1) ((aLl l mx tt).2.2) h8);rw [A6,A7,Di,Dj];exact aB.fi (gI c8 [1,2,4]) [bT,.x (aA Ad),k1.o,bF,bT,bT,bT,bT,bF,bF,bF,k2.o,bT,k3.o] (gc De (gc Cb (gc Bh (gc (aX (i:=Ad) Bu A0) (gc h9 (gc k3 (gc h7 (gc k2 (Ay (aQ h5) (A4 h4 (gc h3 (gc k1 (gc (atm aA h1) (gc (aX (i:=(i:Int)) (C7 _) h1) (g0 h0)))))))))))))))
theorem aUs(h4:sh=true)(h5:(la.length:Int)≤0)(h6:0≤((aG 7 l mx tt).2.1)∧((aG 7 l mx tt).2.1)≤1000000000)(h7:((aG 5 l ((aG 7 l mx tt).2.1) ((aG 7 l mx tt).2.2)).1)=false)(h8:o[Ad.toNat]? = some Au)(h9:0≤Ad)(A0:(Ad.toNat*1)<(o.map aA).length)(Bu:inR (pl+1))(Bh:dv i)(Ak:i'=(i+1))(A6:o'.length=o.length)(A7:o'.map aA=((o.map aA).set (Ad.toNat*1) (aA pl)))(D4:E5=(pl+1))(Di:Dc.length=1)(Dj:Dc.map aA=[(aA Ad)])(Db:Cm=((aG 5 l ((aG 7 l mx tt).2.1) ((aG 7 l mx tt).2.2)).2.1))(Dv:Ed=((aG 5 l ((aG 7 l mx tt).2.1) ((aG 7 l mx tt).2.2)).2.2)):aB Tp 1 mD (cF n sh l nx st i o.length (o.map aA) pl la.length (la.map aA) mx tt) .normal (cF n sh l nx st i' o'.length (o'.map aA) E5 Dc.length (Dc.map aA) Cm Ed):=by
 subst Ak D4 Db Dv;have k1:=mq [0] 4 (eO 7 l mx tt h2);have k2:=mq [0] 4 (eO 5 l ((oG l mx tt).2.1) ((oG l mx tt).2.2) h6);rw [A6,A7,Di,Dj];exact aB.fi (gI c8 [1,2,4]) [bT,.x (aA Ad),k1.o,bF,bT,bT,bT,bT,bF,bF,bF,k2.o,bF] (gc Bh (gc Bu (gc A0 (gc (aX (i:=Ad) h9 h8) (gc h7 (gc k2 (Ay (aQ h5) (A4 h4 (gc h3 (gc k1 (gc (atm aA h1) (gc (aX (i:=(i:Int)) (C7 _) h1) (g0 h0)))))))))))))
theorem aUt(h4:sh=false)(h5:0≤((aG 7 l mx tt).2.1)∧((aG 7 l mx tt).2.1)≤1000000000)(h6:((aG 5 l ((aG 7 l mx tt).2.1) ((aG 7 l mx tt).2.2)).1)=true)(h7:0≤((aG 5 l ((aG 7 l mx tt).2.1) ((aG 7 l mx tt).2.2)).2.1)∧((aG 5 l ((aG 7 l mx tt).2.1) ((aG 7 l mx tt).2.2)).2.1)≤1000000000)(h8:inR (pl+((bA 3 l ((aG 5 l ((aG 7 l mx tt).2.1) ((aG 7 l mx tt).2.2)).2.1) ((aG 5 l ((aG 7 l mx tt).2.1) ((aG 7 l mx tt).2.2)).2.2)).1)))(h9:o[Ad.toNat]? = some Au)(A0:0≤Ad)(Bu:(Ad.toNat*1)<(o.map aA).length)(Bh:inR ((pl+((bA 3 l ((aG 5 l ((aG 7 l mx tt).2.1) ((aG 7 l mx tt).2.2)).2.1) ((aG 5 l ((aG 7 l mx tt).2.1) ((aG 7 l mx tt).2.2)).2.2)).1))+1))(Cb:dv i)(Ak:i'=(i+1))(A6:o'.length=o.length)(A7:o'.map aA=((o.map aA).set (Ad.toNat*1) (aA (pl+((bA 3 l ((aG 5 l ((aG 7 l mx tt).2.1) ((aG 7 l mx tt).2.2)).2.1) ((aG 5 l ((aG 7 l mx tt).2.1) ((aG 7 l mx tt).2.2)).2.2)).1)))))(D4:E5=((pl+((bA 3 l ((aG 5 l ((aG 7 l mx tt).2.1) ((aG 7 l mx tt).2.2)).2.1) ((aG 5 l ((aG 7 l mx tt).2.1) ((aG 7 l mx tt).2.2)).2.2)).1))+1))(Di:Dc.length=1)(Dj:Dc.map aA=[(aA Ad)])(Db:Cm=((bA 3 l ((aG 5 l ((aG 7 l mx tt).2.1) ((aG 7 l mx tt).2.2)).2.1) ((aG 5 l ((aG 7 l mx tt).2.1) ((aG 7 l mx tt).2.2)).2.2)).2.1))(Dv:Ed=((bA 3 l ((aG 5 l ((aG 7 l mx tt).2.1) ((aG 7 l mx tt).2.2)).2.1) ((aG 5 l ((aG 7 l mx tt).2.1) ((aG 7 l mx tt).2.2)).2.2)).2.2)):aB Tp 1 mD (cF n sh l nx st i o.length (o.map aA) pl la.length (la.map aA) mx tt) .normal (cF n sh l nx st i' o'.length (o'.map aA) E5 Dc.length (Dc.map aA) Cm Ed):=by
 subst Ak D4 Db Dv;have k1:=mq [0] 4 (eO 7 l mx tt h2);have k2:=mq [0] 4 (eO 5 l ((oG l mx tt).2.1) ((oG l mx tt).2.2) h5);have k3:=mq [0] 4 (qY 3 l ((aLl l mx tt).2.1) ((aLl l mx tt).2.2) h7);rw [A6,A7,Di,Dj];exact aB.fi (gI c8 [1,2,4]) ([bT,.x (aA Ad),k1.o]++rF 5++[k2.o,bT,k3.o]) (gc Cb (gc Bh (gc Bu (gc (aX (i:=Ad) A0 h9) (gc h8 (gc k3 (gc h6 (gc k2 (A4 h4 (gc h3 (gc k1 (gc (atm aA h1) (gc (aX (i:=(i:Int)) (C7 _) h1) (g0 h0))))))))))))))
theorem aUu(h4:sh=false)(h5:0≤((aG 7 l mx tt).2.1)∧((aG 7 l mx tt).2.1)≤1000000000)(h6:((aG 5 l ((aG 7 l mx tt).2.1) ((aG 7 l mx tt).2.2)).1)=false)(h7:o[Ad.toNat]? = some Au)(h8:0≤Ad)(h9:(Ad.toNat*1)<(o.map aA).length)(A0:inR (pl+1))(Bu:dv i)(Ak:i'=(i+1))(A6:o'.length=o.length)(A7:o'.map aA=((o.map aA).set (Ad.toNat*1) (aA pl)))(D4:E5=(pl+1))(Di:Dc.length=1)(Dj:Dc.map aA=[(aA Ad)])(Db:Cm=((aG 5 l ((aG 7 l mx tt).2.1) ((aG 7 l mx tt).2.2)).2.1))(Dv:Ed=((aG 5 l ((aG 7 l mx tt).2.1) ((aG 7 l mx tt).2.2)).2.2)):aB Tp 1 mD (cF n sh l nx st i o.length (o.map aA) pl la.length (la.map aA) mx tt) .normal (cF n sh l nx st i' o'.length (o'.map aA) E5 Dc.length (Dc.map aA) Cm Ed):=by
 subst Ak D4 Db Dv;have k1:=mq [0] 4 (eO 7 l mx tt h2);have k2:=mq [0] 4 (eO 5 l ((oG l mx tt).2.1) ((oG l mx tt).2.2) h5);rw [A6,A7,Di,Dj];exact aB.fi (gI c8 [1,2,4]) ([bT,.x (aA Ad),k1.o]++rF 5++[k2.o,bF]) (gc Bu (gc A0 (gc h9 (gc (aX (i:=Ad) h8 h7) (gc h6 (gc k2 (A4 h4 (gc h3 (gc k1 (gc (atm aA h1) (gc (aX (i:=(i:Int)) (C7 _) h1) (g0 h0))))))))))))
end
theorem aUv(h0:(((cJ n l nx st).1).length:Int)≤(i:Int)):aB Tp 1 mD (cF n sh l nx st i o.length (o.map aA) pl la.length (la.map aA) mx tt) (.exit 0) (cF n sh l nx st i o.length (o.map aA) pl la.length (la.map aA) mx tt):=aB.fi (gI c8 [1,2,3]) [bF] (gc (aQ h0) gn)
theorem aHd(n:Int)(l:List Int)(nx st:Int):(cJ n l nx st).1.Perm (upL n.toNat)∧nx≤(cJ n l nx st).2.1∧(cJ n l nx st).2.1≤nx+n.toNat:=by
 have hul:(upL n.toNat).length=n.toNat:=by simp [upL]
 have:=aFb l (n.toNat-1) (upL n.toNat) nx st (by omega)
 unfold cJ;exact ⟨this.1,by omega,by omega⟩
theorem bPc(n:Nat):(upL n).Nodup:=by
 unfold upL;refine List.Pairwise.map _ (fun a b h => ?_) List.nodup_range
 intro e;exact h (by omega)
theorem cDb{n:Nat}{x:Int}(h:x∈upL n):0≤x∧x.toNat<n:=by
 unfold upL at h
 rw [Bq] at h
 obtain ⟨k,hk,rfl⟩:=h;rw [lC] at hk
 omega
theorem bCg{n:Int}{sh:Bool}{l:List Int}{nx st:Int}{i:Nat}{o:List Int}{pl:Int}{la:List Int}{mx tt:Int}(hI:KC.RInv (cJ n l nx st).1 n.toNat i o pl la)(hi:i<(cJ n l nx st).1.length)(Hn:i≤20)(h0:0≤mx∧mx≤900000000) :
  ∃ (o':List Int) (E5:Int) (Dc:List Int) (Cm Ed:Int),aB Tp 1 mD (cF n sh l nx st i o.length (o.map aA) pl la.length (la.map aA) mx tt) .normal (cF n sh l nx st (i+1) o'.length (o'.map aA) E5 Dc.length (Dc.map aA) Cm Ed)∧KC.RInv (cJ n l nx st).1 n.toNat (i+1) o' E5 Dc∧mx≤Cm∧Cm≤mx+4:=by
 obtain ⟨hp,_,_⟩:=aHd n l nx st;have hnd:(cJ n l nx st).1.Nodup:=(hp.nodup_iff).2 (bPc _);have hin:∀ x∈(cJ n l nx st).1,0≤x∧x.toNat<n.toNat:=fun x hx=>cDb (hp.mem_iff.1 hx)
 obtain ⟨x,hx⟩:∃ x,(cJ n l nx st).1[i]? = some x:=⟨_,Av hi⟩;obtain ⟨x0,x1⟩:=hin x (Bp hx);have hol:=hI.len;have J8:o[x.toNat]? = some (o[x.toNat]'(by omega)):=Av (by omega)
 have K7:(x.toNat*1)<(o.map aA).length:=by simp;omega
 have Ib:=hI.p1;have G6:=hI.p2;have hll:=hI.ll;have hri:inR (((i+1:Nat):Int)):=aI (by omega)
 have Bi:(i:Int)<((cJ n l nx st).1.length:Int):=by omega
 have b7:=nE 7 l mx tt;have fin:∀ d:Int,0≤d→d≤2→KC.RInv (cJ n l nx st).1 n.toNat (i+1) (o.set x.toNat (pl+d)) (pl+d+1) [x]:=fun d h1 h2=>hI.new hnd hin hx ⟨h1,h2⟩
 have Nk:KC.RInv (cJ n l nx st).1 n.toNat (i+1) (o.set x.toNat pl) (pl+1) [x]:=by have:=fin 0 (by omega) (by omega);rwa [show pl+0=pl by omega] at this
 cases h3:(aG 7 l mx tt).1 with
 | true=>exact ⟨o,pl,la,_,_,aUn Bi hx (by omega) h3 hri rfl rfl rfl,hI.skip,by omega,by omega⟩
 | false =>
  obtain ⟨m1,Cd⟩:∃ m,m=(aG 7 l mx tt).2.1:=⟨_,rfl⟩;obtain ⟨t1,Dk⟩:∃ t,t=(aG 7 l mx tt).2.2:=⟨_,rfl⟩;rw [← Cd] at b7
  have b5:=nE 5 l m1 t1;have b4:=nE 4 l m1 t1;have b3:=eL 3 l (aG 5 l m1 t1).2.1 (aG 5 l m1 t1).2.2;cases sh with
  | false =>
   cases h6:(aG 5 l m1 t1).1 with
   | true =>
    refine ⟨_,_,[x],_,_,aUt (o':=o.set x.toNat (pl+(bA 3 l (aG 5 l m1 t1).2.1 (aG 5 l m1 t1).2.2).1)) (Dc:=[x]) Bi hx (by omega) h3 rfl (by rw [← Cd];omega) (by rw [← Cd,← Dk];exact h6) (by rw [← Cd,← Dk];omega) (by rw [← Cd,← Dk];unfold inR;omega) J8 x0 K7 (by rw [← Cd,← Dk];unfold inR;omega) hri rfl (by simp) (by rw [← Cd,← Dk];simp [List.map_set]) rfl rfl rfl rfl rfl,?_,?_,?_⟩
    ·rw [← Cd,← Dk];exact fin _ b3.1 (by omega)
    ·rw [← Cd,← Dk];omega
    ·rw [← Cd,← Dk];omega
   | false =>
    refine ⟨_,_,[x],_,_,aUu (o':=o.set x.toNat pl) (Dc:=[x]) Bi hx (by omega) h3 rfl (by rw [← Cd];omega) (by rw [← Cd,← Dk];exact h6) J8 x0 K7 (by show _∧_;omega) hri rfl (by simp) (by simp [List.map_set]) rfl rfl rfl rfl rfl,Nk,?_,?_⟩
    ·rw [← Cd,← Dk];omega
    ·rw [← Cd,← Dk];omega
  | true =>
   cases la with
   | nil =>
    cases h6:(aG 5 l m1 t1).1 with
    | true =>
     refine ⟨_,_,[x],_,_,aUr (o':=o.set x.toNat (pl+(bA 3 l (aG 5 l m1 t1).2.1 (aG 5 l m1 t1).2.2).1)) (Dc:=[x]) Bi hx (by omega) h3 rfl (by simp) (by rw [← Cd];omega) (by rw [← Cd,← Dk];exact h6) (by rw [← Cd,← Dk];omega) (by rw [← Cd,← Dk];unfold inR;omega) J8 x0 K7 (by rw [← Cd,← Dk];unfold inR;omega) hri rfl (by simp) (by rw [← Cd,← Dk];simp [List.map_set]) rfl rfl rfl rfl rfl,?_,?_,?_⟩
     ·rw [← Cd,← Dk];exact fin _ b3.1 (by omega)
     ·rw [← Cd,← Dk];omega
     ·rw [← Cd,← Dk];omega
    | false =>
     refine ⟨_,_,[x],_,_,aUs (o':=o.set x.toNat pl) (Dc:=[x]) Bi hx (by omega) h3 rfl (by simp) (by rw [← Cd];omega) (by rw [← Cd,← Dk];exact h6) J8 x0 K7 (by show _∧_;omega) hri rfl (by simp) (by simp [List.map_set]) rfl rfl rfl rfl rfl,Nk,?_,?_⟩
     ·rw [← Cd,← Dk];omega
     ·rw [← Cd,← Dk];omega
   | cons y r =>
    obtain ⟨y0,y1,y2,y3⟩:=hI.lst y r rfl;obtain ⟨m2,B8⟩:∃ m,m=(aG 4 l m1 t1).2.1:=⟨_,rfl⟩;obtain ⟨t2,J1⟩:∃ t,t=(aG 4 l m1 t1).2.2:=⟨_,rfl⟩;rw [← B8] at b4
    have b5:=nE 5 l m2 t2;have b3:=eL 3 l (aG 5 l m2 t2).2.1 (aG 5 l m2 t2).2.2;cases h7:(aG 4 l m1 t1).1 with
    | true =>
     have hy:o[y.toNat]? = some (o.getD y.toNat 0):=by rw [Av (by omega),Bw,Av (by omega)];rfl
     refine ⟨_,_,(y::r)++[x],_,_,aUo (o':=o.set x.toNat (o.getD y.toNat 0)) (Dc:=(y::r)++[x]) Bi hx (by omega) h3 rfl (by rw [nM];omega) (by rw [← Cd];omega) (by rw [← Cd,← Dk];exact h7) rfl hy y0 J8 x0 K7 (by simp at hll ⊢;omega) (by show _∧_;omega) hri rfl (by simp) (by simp [List.map_set]) rfl (by simp) (by simp) rfl rfl,hI.share hnd hin hx rfl,?_,?_⟩
     ·rw [← Cd,← Dk,← B8];omega
     ·rw [← Cd,← Dk,← B8];omega
    | false =>
     cases h6:(aG 5 l m2 t2).1 with
     | true =>
      refine ⟨_,_,[x],_,_,aUp (o':=o.set x.toNat (pl+(bA 3 l (aG 5 l m2 t2).2.1 (aG 5 l m2 t2).2.2).1)) (Dc:=[x]) Bi hx (by omega) h3 rfl (by rw [nM];omega) (by rw [← Cd];omega) (by rw [← Cd,← Dk];exact h7) (by rw [← Cd,← Dk,← B8];omega) (by rw [← Cd,← Dk,← B8,← J1];exact h6) (by rw [← Cd,← Dk,← B8,← J1];omega) (by rw [← Cd,← Dk,← B8,← J1];unfold inR;omega) J8 x0 K7 (by rw [← Cd,← Dk,← B8,← J1];unfold inR;omega) hri rfl (by simp) (by rw [← Cd,← Dk,← B8,← J1];simp [List.map_set]) rfl rfl rfl rfl rfl,?_,?_,?_⟩
      ·rw [← Cd,← Dk,← B8,← J1];exact fin _ b3.1 (by omega)
      ·rw [← Cd,← Dk,← B8,← J1];omega
      ·rw [← Cd,← Dk,← B8,← J1];omega
     | false =>
      refine ⟨_,_,[x],_,_,aUq (o':=o.set x.toNat pl) (Dc:=[x]) Bi hx (by omega) h3 rfl (by rw [nM];omega) (by rw [← Cd];omega) (by rw [← Cd,← Dk];exact h7) (by rw [← Cd,← Dk,← B8];omega) (by rw [← Cd,← Dk,← B8,← J1];exact h6) J8 x0 K7 (by show _∧_;omega) hri rfl (by simp) (by simp [List.map_set]) rfl rfl rfl rfl rfl,Nk,?_,?_⟩
      ·rw [← Cd,← Dk,← B8,← J1];omega
      ·rw [← Cd,← Dk,← B8,← J1];omega
theorem aHe{n:Int}{sh:Bool}{l:List Int}{nx st:Int}(hn:(cJ n l nx st).1.length≤15):∀ (k i:Nat) (o:List Int) (pl:Int) (la:List Int) (mx tt:Int),KC.RInv (cJ n l nx st).1 n.toNat i o pl la→i+k=(cJ n l nx st).1.length→0≤mx→mx+4*k≤900000000 →
  ∃ (o':List Int) (E5:Int) (Dc:List Int) (Cm Ed:Int),aF Tp 1 mD (cF n sh l nx st i o.length (o.map aA) pl la.length (la.map aA) mx tt) (.exit 0) (cF n sh l nx st (i+k) o'.length (o'.map aA) E5 Dc.length (Dc.map aA) Cm Ed)∧KC.RInv (cJ n l nx st).1 n.toNat (i+k) o' E5 Dc∧mx≤Cm∧Cm≤mx+4*k
 | 0,i,o,pl,la,mx,tt,h,hk,h0,h1=>⟨o,pl,la,mx,tt,.exit (aUv (by omega)) (by simp),h,by omega,by omega⟩
 | k+1,i,o,pl,la,mx,tt,h,hk,h0,h1=>by
  obtain ⟨o1,Xl,Xm,m1,t1,c1,i1,b1,b2⟩:=bCg (sh:=sh) (tt:=tt) h (by omega) (by omega) ⟨h0,by omega⟩
  obtain ⟨o2,Xn,Xo,m2,t2,c2,i2,b3,b4⟩:=aHe hn k (i+1) o1 Xl Xm m1 t1 i1 (by omega) (by omega) (by omega)
  rw [show i+1+k=i+(k+1) by omega] at c2 i2
  exact ⟨o2,Xn,Xo,m2,t2,.step c1 c2,i2,by omega,by omega⟩
theorem aUw(n:Int)(sh:Bool)(l:List Int)(nx st:Int)(h:0≤nx∧nx≤1000000)(hn:0≤n∧n≤15):∃ r:List Int × Int × Int,FMM Tp 10 [.ptr 0 0,.p (aA n),.p (blP sh)] [some (eV l nx st)] (.own 1) [some (eV l r.2.1 r.2.2),some (.row 3 r.1.length (r.1.map aA))]∧KC.RaceOK n.toNat r.1∧nx≤r.2.1∧r.2.1≤nx+100:=by
 obtain ⟨hp,b1,b2⟩:=aHd n l nx st;have hl:(cJ n l nx st).1.length=n.toNat:=by rw [hp.length_eq];simp [upL]
 obtain ⟨o,pl,la,mx,tt,hL,hI,b3,b4⟩:=aHe (sh:=sh) (l:=l) (nx:=nx) (st:=st) (n:=n) (by omega) n.toNat 0 (List.replicate n.toNat 0) 1 [] (cJ n l nx st).2.1 (cJ n l nx st).2.2 KC.RInv.start (by omega) (by omega) (by omega)
 refine ⟨(o,mx,tt),bVx (by omega) h (by omega) (Aw:=n.toNat) (Qm:=pl) (Nj:=la) (A5:=o) (Iq:=mx) (Ir:=tt) ?_,hI.race (by omega),by dsimp only;omega,by dsimp only;omega⟩
 rw [List.length_replicate,List.map_replicate,gS] at hL
 exact hL
open Classical in
noncomputable def racedM(n:Int)(sh:Bool)(l:List Int)(nx st:Int):List Int × Int × Int:=if h:(0≤nx∧nx≤1000000)∧0≤n∧n≤15 then Classical.choose (aUw n sh l nx st h.1 h.2) else ([],nx,st)
theorem racedM_spec(n:Int)(sh:Bool)(l:List Int)(nx st:Int)(h:0≤nx∧nx≤1000000)(hn:0≤n∧n≤15):FMM Tp 10 [.ptr 0 0,.p (aA n),.p (blP sh)] [some (eV l nx st)] (.own 1) [some (eV l (racedM n sh l nx st).2.1 (racedM n sh l nx st).2.2),some (.row 3 (racedM n sh l nx st).1.length ((racedM n sh l nx st).1.map aA))]∧KC.RaceOK n.toNat (racedM n sh l nx st).1∧nx≤(racedM n sh l nx st).2.1∧(racedM n sh l nx st).2.1≤nx+100:=by
 unfold racedM;rw [dif_pos ⟨h,hn⟩];exact Classical.choose_spec (aUw n sh l nx st h hn)
theorem raced_ok(n:Int)(sh:Bool)(l:List Int)(nx st:Int)(h:0≤nx∧nx≤1000000)(hn:0≤n∧n≤15):FMM Tp 10 [.ptr 0 0,.p (aA n),.p (blP sh)] [some (eV l nx st)] (.own 1) [some (eV l (racedM n sh l nx st).2.1 (racedM n sh l nx st).2.2),some (.row 3 (racedM n sh l nx st).1.length ((racedM n sh l nx st).1.map aA))]:=(racedM_spec n sh l nx st h hn).1
end CU
end
section

end
section
end
section

end
section

end
section
structure aIx (p:List Int→Bool) (l:Lqq) (j:Nat) (x:Lqq × Nat):Prop where
 len:x.1.length=l.length
 le:x.2<j
 kept:x.1.take x.2=(l.take j).filter fun n => !p n
 rest:x.1.drop j=l.drop j
theorem aIx.skip{p:List Int→Bool}{l:Lqq}{j:Nat}{x:Lqq × Nat}(h:aIx p l j x)(hj:j<l.length){n:List Int}(hn:x.1[j]? = some n)(hp:p n=true):aIx p l (j+1) x:=by
 have hl:l[j]? = some n:=by
  have:=congrArg (·[0]?) h.rest
  simp only [List.getElem?_drop,Nat.add_zero] at this
  rw [← this];exact hn
 refine ⟨h.len,by have:=h.le;omega,?_,?_⟩
 ·rw [h.kept,List.take_add_one,hl]
  simp [oJ,hp]
 ·rw [← List.drop_drop,h.rest,List.drop_drop]
theorem aIx.keep{p:List Int→Bool}{l:Lqq}{j:Nat}{x:Lqq × Nat}(h:aIx p l j x)(hj:j<l.length){n:List Int}(hn:x.1[j]? = some n)(hp:p n=false):aIx p l (j+1) (x.1.set x.2 n,x.2+1):=by
 have hl:l[j]? = some n:=by
  have:=congrArg (·[0]?) h.rest
  simp only [List.getElem?_drop,Nat.add_zero] at this
  rw [← this];exact hn
 have hle:=h.le;have hlen:=h.len;refine ⟨by simp [h.len],by simpa using hle,?_,?_⟩
 ·show (x.1.set x.2 n).take (x.2+1)=_
  rw [List.take_add_one,List.take_set_of_le (dG _),h.kept,List.getElem?_set_self (by omega),List.take_add_one,hl]
  simp [oJ,hp]
 ·show (x.1.set x.2 n).drop (j+1)=_
  rw [List.drop_set_of_lt (by omega),← List.drop_drop,h.rest,List.drop_drop]
theorem aIx.start{p:List Int→Bool}{l:Lqq}{i:Nat}{n:List Int}(hi:l[i]? = some n)(hp:p n=true)(hb:∀ m∈l.take i,p m=false):aIx p l (i+1) (l,i):=by
 refine ⟨rfl,Nat.lt_succ_self _,?_,rfl⟩;show l.take i=_;rw [List.take_add_one,hi];simp only [oJ];rw [List.filter_eq_self.2 fun m hm=>by simp [hb m hm]]
 simp [hp]
theorem aPg{p:List Int→Bool}{l:Lqq}{i:Nat}(h:l.findIdx? p=some i):∀ m∈l.take i,p m=false:=fun m hm=>by
 obtain ⟨hi,h1,h2⟩:=List.findIdx?_eq_some_iff_getElem.1 h;obtain ⟨j,hj,rfl⟩:=List.getElem_of_mem hm;rw [List.getElem_take];rw [jV] at hj
 have:=h2 j (by omega)
 simpa using this
end
section

abbrev RS:=Bool × Bool × Bool × Bool × Int × Int × Int
end
section
end
section
section
variable {dl:Int} {sk dc:Lqq} {q:List Int} {i:Int} {L:List RS} {Aa Ab Af Ah Ag Ai:Int}
end
end
section
end
section
section
variable {dl:Int} {sk dc:Lqq} {q:List Int}
end
end
section

end
section

theorem cLn(l:List Int)(v:Int)(hl:l.length≤1000){base:Nat}:FV Tp 22 [.p (aE l),.p (aA v)] base (.p (blP (l.contains v))) []:=rA l v hl
end
section

end
section
section
variable {dl:Int} {sk dc:Lqq}
end
end
section

end
section
variable {a b r0:Bool}{Aa Ab Af Mh Mi:Int}{c l:Lqq}{o su:List Int}{i j i' j' Aw base:Nat}
variable {dl:Int}{sk dc:Lqq}

noncomputable abbrev aPd:Code:=pS (cd Tryz.f47) 7 [0,1,0,0]
noncomputable abbrev aHf:Code:=sub (cd Tryz.f34) [1,0,1,0,0]
noncomputable abbrev aPe:Code:=sub (cd Tryz.f49) [1,1,1,0,1,0,0]
theorem bVz:((0:Int) != 0)=false:=by first | decide | simp
theorem cLh{l:List Int}(h0:(b == a)=false)(Aq:r0=(decide ((l.length:Int)<2))):FV Tp 48 [(.p (aE l)),(pB a),(pB b)] base (pB r0) []:=by
 subst Aq;exact FV.fi func48 [bT,bT,bT,bT] (A4 (cA h0) gn)
theorem cLi{l:List Int}(h0:(b == a)=true):FV Tp 48 [(.p (aE l)),(pB a),(pB b)] base (pB false) []:=FV.fi func48 [bF,bF,bF,bF] (A4 (aL h0) gn)
def aUx(l:List Int)(a b:Bool):Bool:=(!(b == a)) && decide ((l.length:Int)<2)
theorem bWa(l:List Int)(a b:Bool){base:Nat}:FV Tp 48 [.p (aE l),.p (blP a),.p (blP b)] base (pB (aUx l a b)) []:=by
 unfold aUx;cases h:(b == a) with
 | false=>exact cLh h rfl
 | true=>exact cLi h
def pC(dl:Int)(sk dc:Lqq)(on:Nat)(oc:List PV)(i:Nat):St:=⟨fr 58 [(2,(.fn 48 [] [])),(6,(.p cR)),(7,(pI 0)),(10,(.p (.sl ((bY dl (aC sk) (aC dc)).length) (((bY dl (aC sk) (aC dc)).map hpE).flatten)))),(11,(.own 0)),(36,(.p (.sl ((aC sk).length) ((aC sk).flatten.map aA)))),(37,(pI ((aC sk).length:Int))),(38,(pI (i:Int)))],[some (.row 3 on oc)]⟩
theorem cLj{fi:Int}{L3:List Int}{Hv:Nat}(h0:cK dl sk dc)(h1:(1:Int)≤fi)(h2:(cP dl (aC dc)).length≤8)(B6:aF Tp 0 aPd (pC dl sk dc 0 [] 0) (.exit 0) (pC dl sk dc L3.length (L3.map aA) Hv)):FV Tp 47 [(.p (.agg (kF dl sk dc))),(pI fi),(.fn 48 [] [])] base (.tup [(.p (aE L3)),(pI 0)]) []:=have k1:=fk 1 (yF dl sk dc h0) rfl;have k2:=fk 1 (cAl h0 h2) rfl;FV.frz (FMM.fi 0 ⟨[],[],[0],[]⟩ func47 [k1.o,bF,bF,k2.o,bF,.g 1 ⟨[],[0],[1],[]⟩,.x (.sl ((aC sk).length) ((aC sk).flatten.map aA)),B6.k 1 (gN bg [1] [(11,3)])] (gc B6.code (gr (.sl ((aC sk).length) ((aC sk).flatten.map aA)) (gc bVz (gc k2 (gc (aQ h1) (gc bVz (gc k1 gn)))))))) (by kernel_rfl)
section
variable{Dz:List bX}(h0:(i:Int)<((aC sk).length:Int))(h1:(aC sk)[i]? = some [Aa,Ab])(h2:uni 2 (aC sk))(h3:(bY dl (aC sk) (aC dc))[i]? = some (Dz,Mh,Mi))(h4:(bY dl (aC sk) (aC dc)).length≤1000)(h5:Dz.length≤256)
include h0 h1 h2 h3 h4 h5
theorem bPd{o':List Int}(h6:(aUx (uX (bY dl (aC sk) (aC dc)) i Dz) (Dz.any fun x=>x.2.1) (Dz.any fun x => !x.2.1))=true)(h7:[(aA Aa)].length=1*1∧o.length+1≤1000000)(h8:dv i)(A6:o'.length=(o.length+1))(A7:o'.map aA=((o.map aA)++[(aA Aa)]))(Ak:i'=(i+1)):aB Tp 0 aPd (pC dl sk dc o.length (o.map aA) i) .normal (pC dl sk dc o'.length (o'.map aA) i'):=by
 subst Ak;have k1:=fk 2 (bTs h4 h3 h5) rfl;have k2:=fk 2 (bWa (uX (bY dl (aC sk) (aC dc)) i Dz) (Dz.any fun x=>x.2.1) (Dz.any fun x => !x.2.1)) rfl;rw [A6,A7];exact aB.fi (gI bg [3]) [bT,.x (.agg [(aA Aa),(aA Ab)]),k1.o,k2.o,bT] (gc h8 (gc h7 (gc h6 (gc k2 (gc k1 (gfl h2 h1 (g0 h0)))))))
theorem bPe(h6:(aUx (uX (bY dl (aC sk) (aC dc)) i Dz) (Dz.any fun x=>x.2.1) (Dz.any fun x => !x.2.1))=false)(h7:dv i)(Ak:i'=(i+1)):aB Tp 0 aPd (pC dl sk dc o.length (o.map aA) i) .normal (pC dl sk dc o.length (o.map aA) i'):=by
 subst Ak;have k1:=fk 2 (bTs h4 h3 h5) rfl;have k2:=fk 2 (bWa (uX (bY dl (aC sk) (aC dc)) i Dz) (Dz.any fun x=>x.2.1) (Dz.any fun x => !x.2.1)) rfl;exact aB.fi (gI bg [0]) [bT,.x (.agg [(aA Aa),(aA Ab)]),k1.o,k2.o,bF] (gc h7 (gc h6 (gc k2 (gc k1 (gfl h2 h1 (g0 h0))))))
end
theorem bPf(h0:((aC sk).length:Int)≤(i:Int)):aB Tp 0 aPd (pC dl sk dc o.length (o.map aA) i) (.exit 0) (pC dl sk dc o.length (o.map aA) i):=aB.fi (gI bg [0]) [bF] (gc (aQ h0) gn)
theorem cLk{a b c:Int}(h0:su.length≤1000)(Aq:r0=(!(su.contains a))):FV Tp 50 [(.p (.agg [(aA a),(aA b),(aA c)])),(.rp [(aE su)] 0)] base (pB r0) []:=by
 subst Aq;have k1:=fk 1 (cLn su a h0) rfl;exact FV.fi func50 [.x (aE su),k1.o] (gc k1 (gr (aE su) gn))
theorem aPf(a b c:Int)(su:List Int)(h:su.length≤1000){base:Nat}:FV Tp 50 [.p (.agg [aA a,aA b,aA c]),.rp [aE su] 0] base (pB (!(su.contains a))) []:=cLk h rfl
def iM(l:Lqq)(su:List Int)(i:Nat):St:=⟨fr 19 [(0,(.own 0)),(1,(.fn 50 [] [(.rp [(aE su)] 0)])),(7,(pI (l.length:Int))),(8,(pI (i:Int)))],[some (.row 63 l.length (l.flatten.map aA))]⟩
theorem cDd(hl0:aF Tp 1 aHf (iM l su 0) (.exit 0) (iM l su Aw)):FMM Tp 34 [(.own 0),(.fn 50 [] [(.rp [(aE su)] 0)])] [some (.row 63 l.length (l.flatten.map aA))] (pI (-1)) [some (.row 63 l.length (l.flatten.map aA))]:=FMM.fi 1 gE func34 [hl0.k 6 (gZ dq)] (gc hl0.code gn)
theorem cDe(hl0:aF Tp 1 aHf (iM l su 0) .ret (cD (iM l su Aw) [(4,(pI (Aw:Int)))])):FMM Tp 34 [(.own 0),(.fn 50 [] [(.rp [(aE su)] 0)])] [some (.row 63 l.length (l.flatten.map aA))] (pI (Aw:Int)) [some (.row 63 l.length (l.flatten.map aA))]:=FMM.fi 1 gE func34 [hl0.k 6 (gZ dq)] (gc hl0.code gn)
section
variable(h0:(i:Int)<(l.length:Int))(h1:l[i]? = some [Aa,Ab,Af])(h2:uni 3 l)(h3:su.length≤1000)
include h0 h1 h2 h3
theorem bCi(h4:(!(su.contains Aa))=true):aB Tp 1 aHf (iM l su i) .ret (cD (iM l su i) [(4,(pI (i:Int)))]):=have k1:=fk 1 (aPf Aa Ab Af su h3) rfl;aB.fi (gZ db) [bT,.x (.agg [(aA Aa),(aA Ab),(aA Af)]),k1.o,bT] (gc h4 (gc k1 (gc (dE (i:=i) h2 h1) (gc (eA (i:=i) h2 h1) (gc (aX (i:=(i:Int)) (C7 _) h1) (g0 h0))))))
theorem bCj(h4:(!(su.contains Aa))=false)(h5:dv i)(Ak:i'=(i+1)):aB Tp 1 aHf (iM l su i) .normal (iM l su i'):=by
 subst Ak;have k1:=fk 1 (aPf Aa Ab Af su h3) rfl;exact aB.fi (gZ dq) [bT,.x (.agg [(aA Aa),(aA Ab),(aA Af)]),k1.o,bF] (gc h5 (gc h4 (gc k1 (gc (dE (i:=i) h2 h1) (gc (eA (i:=i) h2 h1) (gc (aX (i:=(i:Int)) (C7 _) h1) (g0 h0)))))))
end
theorem bCk(h0:(l.length:Int)≤(i:Int)):aB Tp 1 aHf (iM l su i) (.exit 0) (iM l su i):=aB.fi (gZ dq) [bF] (gc (aQ h0) gn)
abbrev cDf(l:Lqq)(su:List Int)(i:Int):Prop:=FMM Tp 34 [.own 0,(.fn 50 [] [(.rp [(aE su)] 0)])] [some (.row 63 l.length (l.flatten.map aA))] (pI i) [some (.row 63 l.length (l.flatten.map aA))]
def pD(su:List Int)(cn:Nat)(cc:List PV)(i j:Nat):St:=⟨fr 42 [(0,(.own 0)),(1,(.fn 50 [] [(.rp [(aE su)] 0)])),(4,(.p cR)),(5,(pI (i:Int))),(6,(pI (j:Int)))],[some (.row 63 cn cc)]⟩
theorem cLl{i0:Nat}{Dq:Lqq}{Cp P2:Nat}{Fa:List PV}(h0:cDf l su (i0:Int))(h1:(i0:Int)≠(-1:Int))(h2:dv i0)(B6:aF Tp 1 aPe (pD su l.length (l.flatten.map aA) i0 (i0+1)) (.exit 0) (pD su Dq.length (Dq.flatten.map aA) Cp P2))(h4:0≤(Cp:Int)∧(Cp:Int)≤(Dq.length:Int)∧(Dq.length:Int)≤(Dq.length:Int))(h5:(Cp*3)+(Dq.length-Cp)*3≤(Dq.flatten.map aA).length)(h6:0≤(0:Int)∧(0:Int)≤(Cp:Int)∧(Cp:Int)≤(Dq.length:Int))(El:Fa=((((Dq.flatten.map aA).take (Cp*3)++(List.replicate (Dq.length-Cp) (List.map PV.v [(.int .i64 0),(.int .i64 0),(.int .i64 0)])).flatten++(Dq.flatten.map aA).drop ((Cp*3)+(Dq.length-Cp)*3)).drop 0).take (Cp*(((Dq.flatten.map aA).take (Cp*3)++(List.replicate (Dq.length-Cp) (List.map PV.v [(.int .i64 0),(.int .i64 0),(.int .i64 0)])).flatten++(Dq.flatten.map aA).drop ((Cp*3)+(Dq.length-Cp)*3)).length / Dq.length)))):FMM Tp 49 [(.own 0),(.fn 50 [] [(.rp [(aE su)] 0)])] [some (.row 63 l.length (l.flatten.map aA))] (.p (.sl Cp Fa)) [some .dead]:=by
 subst El;have k1:=mq [0] 1 h0;exact FMM.fi 1 ⟨[],[],[0],[]⟩ func49 [k1.o,bF,B6.k 4 (gZ dt)] (gc h6 (gc h5 (gc h4 (gc B6.code (gc h2 (gc (bE h1) (gc k1 gn)))))))
theorem cLm(h0:cDf l su (-1)):FMM Tp 49 [(.own 0),(.fn 50 [] [(.rp [(aE su)] 0)])] [some (.row 63 l.length (l.flatten.map aA))] (.p (fS l)) [some .dead]:=have k1:=mq [0] 1 h0;FMM.fi 1 ⟨[],[],[0],[]⟩ func49 [k1.o,bT] (gt (((-1:Int) == (-1))=true) (by first | decide | simp) (gc k1 gn))
section
variable(h0:(j:Int)<(c.length:Int))(h1:c[j]? = some [Aa,Ab,Af])(h2:uni 3 c)(h3:su.length≤1000)
include h0 h1 h2 h3
theorem bPg{Ah Ag Ai:Int}{c':Lqq}(h4:(!(su.contains Aa))=false)(h5:c[i]? = some [Ah,Ag,Ai])(h6:[(aA Aa),(aA Ab),(aA Af)].length=3∧(i*3)+3≤(c.flatten.map aA).length)(h7:dv i)(h8:dv j)(Nb:c'.length=c.length)(Nc:c'.flatten.map aA=((c.flatten.map aA).take (i*3)++[(aA Aa),(aA Ab),(aA Af)]++(c.flatten.map aA).drop ((i*3)+3)))(Ak:i'=(i+1))(Du:j'=(j+1)):aB Tp 1 aPe (pD su c.length (c.flatten.map aA) i j) .normal (pD su c'.length (c'.flatten.map aA) i' j'):=by
 subst Ak Du;have k1:=fk 2 (aPf Aa Ab Af su h3) rfl;rw [Nb,Nc];exact aB.fi (gZ dt) [bT,.x (.agg [(aA Aa),(aA Ab),(aA Af)]),k1.o,bT] (gc h8 (gc h7 (gc h6 (gc (aX (i:=(i:Int)) (C7 _) h5) (gc (cA h4) (gc k1 (gc (dE (i:=j) h2 h1) (gc (eA (i:=j) h2 h1) (gc (aX (i:=(j:Int)) (C7 _) h1) (g0 h0))))))))))
theorem bPh(h4:(!(su.contains Aa))=true)(h5:dv j)(Du:j'=(j+1)):aB Tp 1 aPe (pD su c.length (c.flatten.map aA) i j) .normal (pD su c.length (c.flatten.map aA) i j'):=by
 subst Du;have k1:=fk 2 (aPf Aa Ab Af su h3) rfl;exact aB.fi (gZ dt) [bT,.x (.agg [(aA Aa),(aA Ab),(aA Af)]),k1.o,bF] (gc h5 (gc (aL h4) (gc k1 (gc (dE (i:=j) h2 h1) (gc (eA (i:=j) h2 h1) (gc (aX (i:=(j:Int)) (C7 _) h1) (g0 h0)))))))
end
theorem bPi(h0:(c.length:Int)≤(j:Int)):aB Tp 1 aPe (pD su c.length (c.flatten.map aA) i j) (.exit 0) (pD su c.length (c.flatten.map aA) i j):=aB.fi (gZ dt) [bF] (gc (aQ h0) gn)
abbrev cDg(dl:Int)(sk dc:Lqq)(fi:Int)(o:List Int):Prop:=∀ base:Nat,FV Tp 47 [.p (.agg (kF dl sk dc)),.p (aA fi),.fn 48 [] []] base (.tup [.p (aE o),.p (aA 0)]) []
end
section
def tR(l:Lqq)(su:List Int):Lqq:=l.filter fun x => !(!(su.contains (x.getD 0 0)))
theorem cDc{l:Lqq}{su:List Int}(hu:uni 3 l)(hl:l.length≤1000)(hsu:su.length≤1000) :
  (∃ i n,l[i]? = some n∧l.findIdx? (fun x => !(su.contains (x.getD 0 0)))=some i∧(!(su.contains (n.getD 0 0)))=true∧cDf l su (i:Int))∨(l.any (fun x => !(su.contains (x.getD 0 0)))=false∧cDf l su (-1)):=by
 rcases aF.find (P:=Tp) (k:=1) (b:=(sub (cd Tryz.f34) dh)) (fun i=>iM l su i) (fun i _=>cD (iM l su i) [(4,.p (aA (i:Int)))]) (iM l su l.length) .ret (.exit 0) (by simp) (by simp) (fun x => !(su.contains (x.getD 0 0))) l
  (fun i x hx hq=>by
   obtain ⟨a,b,c,rfl⟩:=E6 (hu _ (Bp hx));exact bCj (by have:=aT hx;omega) hx hu hsu hq (aI (by have:=aT hx;omega)) rfl)
  (fun i x hx hq=>by
   obtain ⟨a,b,c,rfl⟩:=E6 (hu _ (Bp hx));exact bCi (by have:=aT hx;omega) hx hu hsu hq)
  (bCk (by omega)) with ⟨i,x,h1,h2,h3,h4⟩ | ⟨h1,h2,h3⟩
 ·exact .inl ⟨i,x,h1,h2,h3,cDe h4⟩
 ·exact .inr ⟨h2,cDd h3⟩
theorem cLf(l:Lqq)(su:List Int)(hu:uni 3 l)(hl:l.length≤1000)(hsu:su.length≤1000) :
  FMM Tp 49 [.own 0,.fn 50 [] [.rp [aE su] 0]] [some (.row 63 l.length (l.flatten.map aA))] (.p (.sl (tR l su).length ((tR l su).flatten.map aA))) [some .dead]:=by
 rcases cDc (su:=su) hu hl hsu with ⟨i,n,h1,h2,h3,h4⟩ | ⟨h1,h2⟩
 ·have hi:=aT h1
  obtain ⟨d,hm⟩:∃ d,i+1+d=l.length:=⟨l.length-(i+1),by omega⟩
  obtain ⟨⟨c,k⟩,hI,hL⟩:=aF.ex (P:=Tp) (k:=1) (b:=(sub (cd Tryz.f49) ct)) (e := .exit 0) (fun j (x:Lqq × Nat)=>pD su x.1.length (x.1.flatten.map aA) x.2 (i+1+j)) (fun x=>pD su x.1.length (x.1.flatten.map aA) x.2 l.length)
   (fun j x=>aIx (fun x => !(su.contains (x.getD 0 0))) l (i+1+j) x∧uni 3 x.1) (by simp) d
   (fun j x hj hx=>by
    obtain ⟨hI,hs⟩:=hx;have hlt:i+1+j<x.1.length:=by rw [hI.len];omega
    have hle:=hI.le;have hlen:=hI.len;obtain ⟨y,hy⟩:∃ y,x.1[i+1+j]? = some y:=⟨_,Av hlt⟩;obtain ⟨y0,y1,y2,rfl⟩:=E6 (hs y (Bp hy));cases hq:(!(su.contains y0)) with
    | true=>exact ⟨x,⟨hI.skip (by omega) hy hq,hs⟩,bPh (by omega) hy hs hsu hq (aI (by omega)) rfl⟩
    | false =>
     obtain ⟨z,hz⟩:∃ z,x.1[x.2]? = some z:=⟨_,Av (by omega)⟩
     obtain ⟨z0,z1,z2,rfl⟩:=E6 (hs z (Bp hz));have Ml:=eA hs hz;refine ⟨_,⟨hI.keep (by omega) hy hq,fun n hn => ?_⟩,bPg (c:=x.1) (c':=x.1.set x.2 [y0,y1,y2]) (by omega) hy hs hsu hq hz ⟨rfl,Ml⟩ (aI (by omega)) (aI (by omega)) (by simp) (kE hs (by omega) rfl).symm rfl rfl⟩
     rcases List.mem_or_eq_of_mem_set hn with h | rfl
     ·exact hs n h
     ·rfl)
   (fun x hx=>by
    have:=bPi (su:=su) (c:=x.1) (i:=x.2) (j:=l.length) (by rw [hx.1.len];omega)
    rw [show i+1+d=l.length from hm];exact this)
   (acc:=(l,i)) ⟨aIx.start h1 h3 (aPg h2),hu⟩
  obtain ⟨hI,hs⟩:=hI;have hlen:=hI.len;have hle:=hI.le;have hk:=hI.kept;simp only [hm,List.take_length] at hlen hle hk
  have hcl:(c.flatten.map aA).length=c.length*3:=yB hs;have Jz:k*3≤c.length*3:=Nat.mul_le_mul_right _ (by omega)
  have hsum:k*3+(c.length-k)*3=c.length*3:=by rw [← Nat.add_mul];congr 1;omega
  have fin:=cLl (l:=l) (Dq:=c) (Cp:=k) (P2:=l.length) (Fa:=(c.take k).flatten.map aA) h4 (by omega) (aI (by omega)) hL ⟨by omega,by omega,by omega⟩ (by rw [hcl];omega) ⟨by omega,by omega,by omega⟩ (by
   have hz:((List.replicate (c.length-k) (List.map PV.v [(.int .i64 0),(.int .i64 0),(.int .i64 0)])).flatten).length=(c.length-k)*3:=by
    rw [List.length_flatten];simp
   have Eu:(((c.flatten.map aA).take (k*3))++(List.replicate (c.length-k) (List.map PV.v [(.int .i64 0),(.int .i64 0),(.int .i64 0)])).flatten++(c.flatten.map aA).drop (k*3+(c.length-k)*3)).length=c.length*3:=by
    rw [jT,jT,hz,jV,bHq,hcl];omega
   rw [List.drop_zero,Eu,bRf c.length 3,Nat.mul_div_cancel _ (by omega:0<c.length),List.append_assoc,List.take_append_of_le_length (by rw [jV,hcl];omega),List.take_take,Nat.min_self,← List.map_take,aMs _ hs])
  have G5:c.take k=tR l su:=hk;rw [← G5];have e:(c.take k).length=k:=by rw [jV,Nat.min_eq_left (by omega)]
  rw [e];exact fin
 ·have:tR l su=l:=List.filter_eq_self.2 fun n hn=>by
   have:=List.any_eq_false.1 h1 n hn;simpa using this
  rw [this];exact cLm h2
def bCh(dl:Int)(sk dc:Lqq)(i:Nat):Bool:=match (bY dl sk dc)[i]? with
 | some h=>aUx (uX (bY dl sk dc) i h.1) (h.1.any fun x=>x.2.1) (h.1.any fun x => !x.2.1)
 | none=>false
def aPc(dl:Int)(sk dc:Lqq):List Int:=((List.range sk.length).filter (bCh dl sk dc)).map fun i=>(sk.getD i []).getD 0 0
theorem cLg{dl:Int}{sk dc:Lqq}(h:cK dl sk dc){f:Int}(hf:1≤f)(ho:(cP dl (aC dc)).length≤8):cDg dl sk dc f (aPc dl (aC sk) (aC dc)):=fun base=>by
 obtain ⟨h1,h2,_,_⟩:=aNx h;obtain ⟨o,hI,hL⟩:=aF.ex (P:=Tp) (k:=0) (b:=sub (cd Tryz.f47) [1,1,1,1,1,1,1,0,1,0,0]) (e := .exit 0) (fun i (o:List Int)=>pC dl sk dc o.length (o.map aA) i) (fun o=>pC dl sk dc o.length (o.map aA) (aC sk).length)
  (fun i o=>o=((List.range i).filter (bCh dl (aC sk) (aC dc))).map fun i=>((aC sk).getD i []).getD 0 0) (by simp) (aC sk).length
  (fun i o hi hoE=>by
   obtain ⟨y0,y1,hy⟩:=at2 h1 hi;have hat:=aFs (dl:=dl) (dc:=aC dc) hy;have hlen:o.length≤i:=by
    rw [hoE,B9];have:=zR (bCh dl (aC sk) (aC dc)) (List.range i);simpa using this
   have hmb:bCh dl (aC sk) (aC dc) i=aUx (uX (bY dl (aC sk) (aC dc)) i (nJ dl (aC dc) y0 y1 (rS dl (aC dc) y0)).1) ((nJ dl (aC dc) y0 y1 (rS dl (aC dc) y0)).1.any fun x=>x.2.1) ((nJ dl (aC dc) y0 y1 (rS dl (aC dc) y0)).1.any fun x => !x.2.1):=by
    unfold bCh;rw [hat];rfl
   have hal:(bY dl (aC sk) (aC dc)).length≤1000:=by rw [aKm];omega
   have hc:=bTp (s0:=y0) (s1:=y1) y0 ho;have hg:((aC sk).getD i []).getD 0 0=y0:=by simp [Bw,hy]
   cases hb:bCh dl (aC sk) (aC dc) i with
   | true =>
    refine ⟨o++[y0],?_,bPd (by omega) hy h1 hat hal hc (by rw [← hb,hmb];rfl) ⟨rfl,by omega⟩ (aI (by omega)) (by simp) (by simp) rfl⟩
    rw [hoE,List.range_succ,oJ,iV];simp only [List.filter_cons,hb,if_true,List.filter_nil,iB,List.map_nil,hg]
   | false =>
    refine ⟨o,?_,bPe (by omega) hy h1 hat hal hc (by rw [← hb,hmb];rfl) (aI (by omega)) rfl⟩
    rw [hoE,List.range_succ,oJ,iV];simp [List.filter_cons,hb])
  (fun o _=>bPf (by omega)) (acc:=[]) (by simp)
 have e:o=aPc dl (aC sk) (aC dc):=hI;rw [← e];exact cLj h hf ho hL
end
section

end
section
section
variable {dl:Int} {oc:List Int} {D:Lqq} {x:List Int}
theorem zA{α β:Type}(f g:β→α→β):∀ (l:List α) (b:β),(∀ x∈l,∀ b,f b x=g b x)→l.foldl f b=l.foldl g b
 | [],_,_=>rfl
 | x::l,b,h=>by
  rw [qT,qT,h x (iN ..),zA f g l _ fun y hy=>h y (Cj _ hy)]
end
end
section
section
variable {dl:Int} {oc:List Int} {D:Lqq} {x:List Int}
end
theorem bWe{dl:Int}{D:Lqq}{u:List Int}(hd:D.Pairwise fun a b=>dN a<dN b)(hu:u.Sublist (cP dl D)):aTb dl D u=0:=by
 have h1:(cP dl D).Pairwise (· < ·):=by
  unfold cP;rw [List.pairwise_map];exact hd.sublist List.filter_sublist
 have h2:=h1.sublist hu;unfold aTb;rw [if_pos (gC.2 fun n hn=>by
  unfold ocB;rw [List.contains_iff_mem];exact hu.subset hn),if_pos]
 unfold vH;rw [gC];intro i hi;have hi:=lC.1 hi
 rcases Nat.eq_zero_or_pos i with rfl | h0
 ·rfl
 ·rw [aMq]
  refine .inr (decide_eq_true ?_);have:=List.pairwise_iff_getElem.1 h2 (i-1) i (by omega) hi (by omega)
  rw [Bw,Bw,Av hi,Av (show i-1<u.length by omega)]
  exact this
theorem aAq{dl:Int}{sk dc:Lqq}(h:cK dl sk dc):(aC sk).Pairwise fun a b=>a.getD 0 0<b.getD 0 0:=by
 have h1:=qZ sk;have h2:(aC sk).Pairwise fun a b=>a.getD 0 0≠b.getD 0 0:=by
  have:=aRv h.ns;unfold aZ at this
  exact List.pairwise_map.1 this
 exact (h1.and h2).imp fun {a b} h=>by have:=h.1;have:=h.2;omega
end
section
theorem aLm{α:Type}{p q:α→Bool}:∀ {l:List α},(∀ s∈l,p s=false→q s=false)→(l.filter p).find? q=l.find? q
 | [],_=>rfl
 | a::l,h=>by
  have ih:=aLm (p:=p) (q:=q) (l:=l) fun s hs=>h s (Cj _ hs)
  cases hp:p a with
  | true=>rw [List.filter_cons_of_pos hp,List.find?_cons,List.find?_cons,ih]
  | false=>rw [List.filter_cons_of_neg (by rw [hp];exact Bool.false_ne_true),List.find?_cons_of_neg (by rw [h a (iN ..) hp];exact Bool.false_ne_true),ih]
section
variable {dl:Int} {oc:List Int} {R:List Int→Bool}
end
theorem cLo{dl:Int}{oc:List Int}{L:Lqq}{s:DS}(h:s∈eY dl oc L):s.x∈L:=by
 have:s.x∈(eY dl oc L).map (·.x):=Bq.2 ⟨s,h,rfl⟩
 rwa [aNq] at this
end
section
section
variable {dl:Int} {oc I1:List Int}
end
section
variable {dl:Int} {oc I1:List Int} {F:List Int→Int}
end
section
variable {dc:Lqq}
theorem aHg(hd:bZ dc):∀ (k:Nat) (x:List Int),x∈dc→dN x<(k:Int)→lT dc k x=lT dc (k+1) x
 | 0,x,hx,hk=>by have:=eX hd hx;omega
 | k+1,x,hx,hk=>by
  unfold lT
  by_cases h4:dK x≤4
  ·rw [if_pos h4,if_pos h4]
  ·rw [if_neg h4,if_neg h4]
   cases h:ofN dc (dAb x) with
   | none=>rfl
   | some y =>
    obtain ⟨h1,h2⟩:=tF h;have ho:=hd.ord _ hx;unfold orB at ho
    rw [if_neg (show ¬ x.getD 1 0≤4 from h4)] at ho
    have J2:=within_iff.1 ho;have h3:dAb x≤dN x-1:=J2.2;exact aHg hd k y h1 (by omega)
theorem bCl(hd:bZ dc){s y:List Int}(hs:s∈dc)(hy:y∈dc)(e:dAb s=dN y):rR dc s=rR dc y:=by
 have hk:¬ dK s≤4:=fun h4=>by
  have ho:=hd.ord _ hs;unfold orB at ho
  rw [if_pos (show s.getD 1 0≤4 from h4)] at ho
  have h0:dAb s=0:=by simpa using ho
  have:=eX hd hy;omega
 unfold rR;have e1:lT dc (10000+1) s=lT dc 10000 y:=by
  conv=>lhs;unfold lT
  rw [if_neg hk,e,aOh hd hy]
 rw [e1];exact aHg hd 10000 y hy (by have:=eX hd hy;omega)
theorem bWd{y:List Int}(h:dK y≤4):rR dc y=dB y:=by
 unfold rR lT;rw [if_pos h]
end
end
section
theorem cDh{s k j:Nat}(h:j<k):(s+2 ^ k) / 2 ^ j % 2=s / 2 ^ j % 2:=by
 obtain ⟨m,rfl⟩:∃ m,k=j+(m+1):=⟨k-j-1,by omega⟩
 have e:2 ^ (j+(m+1))=2 ^ j*(2*2 ^ m):=by rw [Nat.pow_add,Nat.pow_succ,bRf (2 ^ m) 2]
 rw [e,Nat.add_mul_div_left _ _ (Nat.two_pow_pos j)];omega
theorem cDi{s k:Nat}(h:s<2 ^ k):(s+2 ^ k) / 2 ^ k % 2=1:=by
 rw [Nat.add_div_right _ (Nat.two_pow_pos k),Nat.div_eq_of_lt h]
theorem bWb{s k:Nat}(h:s<2 ^ k):s / 2 ^ k % 2=0:=by
 rw [Nat.div_eq_of_lt h]
theorem uQ(q:List Int)(s k:Nat):fK q s (k+1)=fK q s k++(if s / 2 ^ k % 2 == 1 then [q.getD k 0] else []):=by
 unfold fK;rw [List.range_succ,oJ,iV]
 congr 1
 by_cases h:(s / 2 ^ k % 2 == 1)=true
 ·rw [if_pos h,List.filter_cons_of_pos (p:=fun j=>s / 2 ^ j % 2 == 1) h];rfl
 ·rw [if_neg h,List.filter_cons_of_neg (p:=fun j=>s / 2 ^ j % 2 == 1) h];rfl
theorem wW(q r:List Int)(s s':Nat):∀ k,k≤q.length→(∀ j,j<k→s / 2 ^ j % 2=s' / 2 ^ j % 2)→fK (q++r) s k=fK q s' k
 | 0,_,_=>rfl
 | k+1,hk,h=>by
  rw [uQ,uQ,wW q r s s' k (by omega) (fun j hj=>h j (by omega)),h k (by omega)]
  congr 2
  rw [Bw,Bw,zP (by omega)]
theorem cDj{n:Int}{u:List Int}(h:u.Sublist [n]):u=[]∨u=[n]:=by
 cases u with
 | nil=>exact .inl rfl
 | cons a t =>
  have hl:=h.length_le;rw [nM,List.length_singleton] at hl
  have ht:t=[]:=uS (by omega)
  have ha:a=n:=List.mem_singleton.1 (h.subset (iN ..));rw [ht,ha];exact .inr rfl
theorem bWc(q:List Int):∀ u:List Int,u.Sublist q→u∈kL q:=by
 refine aTc (Q:=fun q=>∀ u:List Int,u.Sublist q→u∈kL q) ?_ ?_ q
 ·intro u hu
  rw [List.sublist_nil.1 hu];exact iN ..
 ·intro q n ih u hu
  obtain ⟨u1,u2,rfl,h1,h2⟩:=List.sublist_append_iff.1 hu;obtain ⟨s,hs,e⟩:=Bq.1 (ih u1 h1);have hs:s<2 ^ q.length:=lC.1 hs;have hl:(q++[n]).length=q.length+1:=by simp
  have hg:(q++[n]).getD q.length 0=n:=by rw [Bw,zO (by omega)];simp
  unfold kL;rw [hl]
  rcases cDj h2 with rfl | rfl
  ·refine Bq.2 ⟨s,lC.2 (by rw [Nat.pow_succ];omega),?_⟩
   rw [uQ,wW q [n] s s q.length (dG _) (fun _ _=>rfl),e,bWb hs]
   rfl
  ·refine Bq.2 ⟨s+2 ^ q.length,lC.2 (by rw [Nat.pow_succ];omega),?_⟩
   rw [uQ,wW q [n] (s+2 ^ q.length) s q.length (dG _) (fun j hj=>cDh hj),e,cDi hs,hg]
   rfl
section
variable {dl:Int} {sk dc:Lqq}
end
end
section

end
section

end
section
theorem aPh{dl:Int}{oc:List Int}{D:Lqq}{b:Int}(hd:bZ D):∀ (l:Lqq) (o:Bool) (t:Int),(∀ x∈l,x∈D)→(l.foldl (aIb dl oc D b) (o,t)).2≤t+43200000*(l.length:Int)
 | [],o,t,_=>by simp
 | x::l,o,t,h=>by
  have hm:=bEf (dl:=dl) (oc:=oc) hd (h x (iN ..));have hl:=fun y hy=>h y (Cj _ hy)
  rw [qT,nM];unfold aIb;dsimp only
  by_cases hh:aYm dl oc D b x=true
  ·rw [if_pos hh]
   have ih:=aPh (dl:=dl) (oc:=oc) (b:=b) hd l (o || dK x == 3) (byI (dK x) t (pQ dl oc D x)) hl
   unfold aIb at ih
   have:byI (dK x) t (pQ dl oc D x)≤t+43200000:=by unfold byI;repeat' split <;> omega
   omega
  ·rw [if_neg hh]
   have ih:=aPh (dl:=dl) (oc:=oc) (b:=b) hd l o t hl;unfold aIb at ih
   omega
theorem cDk{dl:Int}{oc:List Int}{D:Lqq}{b t:Int}(hd:bZ D)(ht:t≤360000):0≤(cI dl oc D b t).1∧(cI dl oc D b t).1≤100000000000:=by
 have h:=aPh (dl:=dl) (oc:=oc) (b:=b) hd D (t == -1) t fun _ h=>h
 have hl:=hd.len;have h2:(aNf dl oc D b t).2≤t+43200000*(D.length:Int):=h;unfold cI
 split
 ·exact ⟨by simp,by simp⟩
 ·show 0≤max 0 (aNf dl oc D b t).2∧max 0 (aNf dl oc D b t).2≤100000000000
  omega
end
section
section
variable {dl:Int} {sk dc:Lqq}
end
end
section

theorem cLd{dl:Int}{sk dc:Lqq}{o0:List Int}(h0:cDg dl sk dc 1 o0)(h1:cK dl sk dc)(h2:sk.length<20)(h3:uni 3 (eK dl [] (aC dc) (aC sk)))(h4:(eK dl [] (aC dc) (aC sk)).length≤1000)(h5:o0.length≤1000){base:Nat}:FV Tp 14 [(.p (.agg (kF dl sk dc)))] base (.tup [(.p (.sl ((tR (eK dl [] (aC dc) (aC sk)) o0).length) ((tR (eK dl [] (aC dc) (aC sk)) o0).flatten.map aA))),(pI 0)]) []:=have k1:=fk 2 (cJo h1 h2) rfl;have k2:=mq [1] 2 (cLf (eK dl [] (aC dc) (aC sk)) o0 h3 h4 h5);FV.frz (FMM.fi 0 gE func14 [.c (.tup [(.p (aE o0)),(pI 0)]) [],bF,k1.o,.g 1 ⟨[],[0,2],[1],[]⟩,k2.o] (gc k2 (gc k1 (gt (((0:Int) != 0)=false) (by first | decide | simp) (gc (fk 1 (h0 _) rfl) gn))))) (by kernel_rfl)
theorem cLe{dl:Int}{sk dc:Lqq}{o:List Int}(h:cK dl sk dc)(hs:sk.length<20)(hc:cDg dl sk dc 1 o)(ho:o.length≤1000){base:Nat}:FV Tp 14 [.p (.agg (kF dl sk dc))] base (.tup [.p (fS (tR (eK dl [] (aC dc) (aC sk)) o)),.p (aA 0)]) []:=by
 have hl:(eK dl [] (aC dc) (aC sk)).length≤1000:=by rw [yN,eI];have:=h.len;omega
 exact cLd hc h hs aGd hl ho
end
end KV
end Go.Proofs
