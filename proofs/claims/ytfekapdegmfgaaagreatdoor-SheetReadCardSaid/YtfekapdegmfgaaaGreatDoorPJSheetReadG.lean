/- Parts of the proof of JSheetRead: laws of walks, contracts of functions, plain models. No condition. -/
import Derived.Test.YtfekapdegmfgaaaGreatDoorPJSheetReadF
set_option linter.unusedVariables false
set_option linter.unusedSimpArgs false
set_option linter.unnecessarySimpa false
set_option maxRecDepth 100000
namespace Go.Proofs
namespace KV
open Tryz
section
variable {r0:Bool}{k:Int}{i j i' Aq base:Nat}

noncomputable abbrev oZ:Code:=sub (cd Tryz.f254) [1,0,1,0,0]
noncomputable abbrev bJe:Code:=sub (cd Tryz.f53) [1,1,1,0,1,0,0]
noncomputable abbrev bJf:Code:=pS (cd Tryz.f53) 6 [0,1,0,0]
theorem bZz{c:Chg}(Al:r0=(decide (((crM c).length:Int) > 0))):FV Tp 144 [(.p (.agg [(.sl c.1.length ((c.1.map cE).flatten)),(.sl c.2.length ((c.2.map cE).flatten))]))] base (pB r0) []:=by
 subst Al;have k1:=fk 1 (mT c.1 c.2) rfl;exact FV.fi func144 [k1.o] (gc k1 gn)
def neC(c:Chg):Bool:=decide (((crM c).length:Int) > 0)
theorem cAa(c:Chg){base:Nat}:FV Tp 144 [.p (.agg [aN c.1,aN c.2])] base (pB (neC c)) []:=bZz rfl
theorem cAb{c:Chg}(h0:(c.1.length:Int)=0):FV Tp 146 [(.p (.agg [(.sl c.1.length ((c.1.map cE).flatten)),(.sl c.2.length ((c.2.map cE).flatten))])),(.rp [(aB k)] 0)] base (pB true) []:=FV.fi func146 (rT 5) (Cw (dC h0) gn)
theorem cAc{c:Chg}(h0:(c.1.length:Int)≠0)(h1:(c.2.length:Int)=0):FV Tp 146 [(.p (.agg [(.sl c.1.length ((c.1.map cE).flatten)),(.sl c.2.length ((c.2.map cE).flatten))])),(.rp [(aB k)] 0)] base (pB true) []:=FV.fi func146 (rF 5++rT 10) (Iv (dC h1) (A2 (dC h1) (Cw (bP h0) gn)))
section
variable{c:Chg}(h0:(c.1.length:Int)≠0)(h1:(c.2.length:Int)≠0)(h2:aO k≤(c.1.length:Int))(h3:aO k≤(c.2.length:Int))
include h0 h1 h2 h3
theorem cAd(h4:(bU k c.1 c.2)=0)(Jl:c.1.length≤100000)(Al:r0=(!(decide (c.1=c.2)))):FV Tp 146 [(.p (.agg [(.sl c.1.length ((c.1.map cE).flatten)),(.sl c.2.length ((c.2.map cE).flatten))])),(.rp [(aB k)] 0)] base (pB r0) []:=by
 subst Al;have k1:=fk 1 (mG k c.1 c.2 h2 h3) rfl;have k2:=fk 1 (pZ c.1 c.2 Jl) rfl;exact FV.fi func146 (rF 6++[.x (aB k)]++rF 5++[k1.o,bF,bF]++rT 5++[k2.o,bT,bF,bT,bF]) (gc (bP h1) (gc (dC h4) (gc (bP h1) (gc (dC h4) (gc k2 (Cw (dC h4) (A2 (bP h1) (gc k1 (Cw (bP h1) (gr (aB k) (gc (bP h1) (Cw (bP h0) gn))))))))))))
theorem cAe(h4:(bU k c.1 c.2)≠0):FV Tp 146 [(.p (.agg [(.sl c.1.length ((c.1.map cE).flatten)),(.sl c.2.length ((c.2.map cE).flatten))])),(.rp [(aB k)] 0)] base (pB false) []:=have k1:=fk 1 (mG k c.1 c.2 h2 h3) rfl;FV.fi func146 (rF 6++[.x (aB k)]++rF 5++[k1.o]++rF 11) (gc (bP h1) (gc (bP h4) (gc (bP h1) (Hq (bP h4) (A2 (bP h1) (gc k1 (Cw (bP h1) (gr (aB k) (gc (bP h1) (Cw (bP h0) gn))))))))))
end
theorem bOw{x:Chg}(Al:r0=(!(neC x))):FMM Tp 205 [(.p (.agg [(.sl x.1.length ((x.1.map cE).flatten)),(.sl x.2.length ((x.2.map cE).flatten))])),(.ptr 0 0)] [some (.box 243 [(.fn 144 [] [])])] (pB r0) [some (.box 243 [(.fn 144 [] [])])]:=by
 subst Al;exact FMM.fi 1 gE func205 [.c (pB (neC x)) []] (gc (fk 2 (cAa x) rfl) gn)
theorem aTl(x:Chg)  : FMM Tp 205 [.p (.agg [aN x.1,aN x.2]),.ptr 0 0] [some (.box 243 [(.fn 144 [] [])])] (pB (!(neC x))) [some (.box 243 [(.fn 144 [] [])])]:=bOw rfl
def fX(l:List (List Cel × List Cel))(i:Nat):St:=⟨fr 19 [(0,(.p (.sl l.length ((l.map chE).flatten)))),(1,(.fn 205 [] [(.ptr 0 0)])),(7,(pI (l.length:Int))),(8,(pI (i:Int)))],[some (.box 243 [(.fn 144 [] [])])]⟩
theorem bOx{l:List (List Cel × List Cel)}(hl0:aF Tp 1 oZ (fX l 0) (.exit 0) (fX l Aq)):FMM Tp 254 [(.p (.sl l.length ((l.map chE).flatten))),(.fn 205 [] [(.ptr 0 0)])] [some (.box 243 [(.fn 144 [] [])])] (pI (-1)) [some (.box 243 [(.fn 144 [] [])])]:=FMM.fi 1 gE func254 [hl0.k 6 (gZ cb)] (gc hl0.code gn)
theorem bOy{l:List (List Cel × List Cel)}(hl0:aF Tp 1 oZ (fX l 0) .ret (cN (fX l Aq) [(4,(pI (Aq:Int)))])):FMM Tp 254 [(.p (.sl l.length ((l.map chE).flatten))),(.fn 205 [] [(.ptr 0 0)])] [some (.box 243 [(.fn 144 [] [])])] (pI (Aq:Int)) [some (.box 243 [(.fn 144 [] [])])]:=FMM.fi 1 gE func254 [hl0.k 6 (gZ cb)] (gc hl0.code gn)
section
variable{l:List (List Cel × List Cel)}{Ag Ah:List Cel}(h0:(i:Int)<(l.length:Int))(h1:l[i]? = some (Ag,Ah))
include h0 h1
theorem aQb(h2:(neC (Ag,Ah))=false):aA Tp 1 oZ (fX l i) .ret (cN (fX l i) [(4,(pI (i:Int)))]):=have k1:=mq [0] 1 (aTl (Ag,Ah));aA.fi (gZ bq) [bT,.x (.agg [(.sl Ag.length ((Ag.map cE).flatten)),(.sl Ah.length ((Ah.map cE).flatten))]),k1.o,bT] (gc (dB h2) (gc k1 (gc (bG (E:=chE) (i:=i) (k:=2) (fun _=>rfl) h1 rfl) (gc (cG (E:=chE) (i:=i) (k:=2) (fun _=>rfl) h1) (gc (bC (E:=chE) (k:=2) (i:=(i:Int)) (fun _=>rfl) (by decide) (Bu _) h1) (g0 h0))))))
theorem aQc(h2:(neC (Ag,Ah))=true)(h3:cn i)(Aj:i'=(i+1)):aA Tp 1 oZ (fX l i) .normal (fX l i'):=by
 subst Aj;have k1:=mq [0] 1 (aTl (Ag,Ah));exact aA.fi (gZ cb) [bT,.x (.agg [(.sl Ag.length ((Ag.map cE).flatten)),(.sl Ah.length ((Ah.map cE).flatten))]),k1.o,bF] (gc h3 (gc (aU h2) (gc k1 (gc (bG (E:=chE) (i:=i) (k:=2) (fun _=>rfl) h1 rfl) (gc (cG (E:=chE) (i:=i) (k:=2) (fun _=>rfl) h1) (gc (bC (E:=chE) (k:=2) (i:=(i:Int)) (fun _=>rfl) (by decide) (Bu _) h1) (g0 h0)))))))
end
theorem aQd{l:List (List Cel × List Cel)}(h0:(l.length:Int)≤(i:Int)):aA Tp 1 oZ (fX l i) (.exit 0) (fX l i):=aA.fi (gZ cb) [bF] (gc (bL h0) gn)
theorem bOz(l:List Chg)(hl:l.length≤100000):FMM Tp 254 [.p (.sl l.length ((l.map chE).flatten)),(.fn 205 [] [(.ptr 0 0)])] [some (.box 243 [(.fn 144 [] [])])] (pI (nG (fun x => !(neC x)) l)) [some (.box 243 [(.fn 144 [] [])])]:=by
 rcases aF.find (P:=Tp) (k:=1) (b:=oZ) (fun i=>fX l i) (fun i _=>cN (fX l i) [(4,.p (aB (i:Int)))]) (fX l l.length) .ret (.exit 0) (by simp) (by simp) (fun x => !(neC x)) l
  (fun i x hx hp=>aQc (by have:=bN hx;omega) hx (by simpa using hp) (aV (by have:=bN hx;omega)) rfl)
  (fun i x hx hp=>aQb (by have:=bN hx;omega) hx (by simpa using hp))
  (aQd (l:=l) (i:=l.length) (by omega)) with ⟨i,x,h1,h2,h3,h4⟩ | ⟨h1,h2,h3⟩
 ·rw [jC h2];exact bOy h4
 ·rw [jD h1];exact bOx h3
theorem bPa{l:List (List Cel × List Cel)}(h0:l.length≤100000)(Al:r0=(decide ((nG (fun x => !(neC x)) l) ≥ 0))):FMM Tp 204 [(.p (.sl l.length ((l.map chE).flatten))),(.fn 205 [] [(.ptr 0 0)])] [some (.box 243 [(.fn 144 [] [])])] (pB r0) [some (.box 243 [(.fn 144 [] [])])]:=by
 subst Al;have k1:=mq [0] 1 (bOz l h0);exact FMM.fi 1 gE func204 [k1.o] (gc k1 gn)
theorem bPb(l:List Chg)(hl:l.length≤100000):FMM Tp 204 [.p (.sl l.length ((l.map chE).flatten)),(.fn 205 [] [(.ptr 0 0)])] [some (.box 243 [(.fn 144 [] [])])] (pB (l.any (fun x => !(neC x)))) [some (.box 243 [(.fn 144 [] [])])]:=bPa hl (lC _ _).symm
theorem bPc{l:List (List Cel × List Cel)}(h0:l.length≤100000)(Al:r0=(!(l.any (fun x => !(neC x))))):FV Tp 143 [(.p (.sl l.length ((l.map chE).flatten))),(.fn 144 [] [])] base (pB r0) []:=by
 subst Al;have k1:=mq [0] 1 (bPb l h0);exact FV.fi func143 [k1.o] (gc k1 gn)
theorem bPd(l:List Chg)(hl:l.length≤100000){base:Nat}:FV Tp 143 [.p (.sl l.length ((l.map chE).flatten)),(.fn 144 [] [])] base (pB (l.all (neC))) []:=bPc hl (by rw [List.all_eq_not_any_not])
def ckL(k:Int)(c:Chg):Prop:=(c.1.length=0∨aO k≤(c.1.length:Int))∧(c.2.length=0∨aO k≤(c.2.length:Int))∧c.1.length≤100000
def qR(k:Int)(c:Chg):Bool:=decide (c.1.length=0) || (decide (c.2.length=0) || (decide (bU k c.1 c.2=0) && !(decide (c.1=c.2))))
theorem cAf(c:Chg)(k:Int)(h:ckL k c){base:Nat}:FV Tp 146 [.p (.agg [aN c.1,aN c.2]),.rp [aB k] 0] base (pB (qR k c)) []:=by
 obtain ⟨h1,h2,h3⟩:=h;unfold qR
 by_cases q1:c.1.length=0
 ·rw [decide_eq_true q1,Bool.true_or];exact cAb (by omega)
 ·rw [decide_eq_false q1,Bool.false_or]
  by_cases q2:c.2.length=0
  ·rw [decide_eq_true q2,Bool.true_or];exact cAc (by omega) (by omega)
  ·rw [decide_eq_false q2,Bool.false_or]
   have k1:=h1.resolve_left q1;have k2:=h2.resolve_left q2
   by_cases q3:bU k c.1 c.2=0
   ·rw [decide_eq_true q3,aVr];exact cAd (by omega) (by omega) k1 k2 q3 h3 rfl
   ·rw [decide_eq_false q3,Bool.false_and];exact cAe (by omega) (by omega) k1 k2 q3
theorem bPe{x:Chg}(Qx:ckL k x)(Al:r0=(!(qR k x))):FMM Tp 205 [(.p (.agg [(.sl x.1.length ((x.1.map cE).flatten)),(.sl x.2.length ((x.2.map cE).flatten))])),(.ptr 0 0)] [some (.box 243 [(.fn 146 [] [(.rp [(aB k)] 0)])])] (pB r0) [some (.box 243 [(.fn 146 [] [(.rp [(aB k)] 0)])])]:=by
 subst Al;exact FMM.fi 1 gE func205 [.c (pB (qR k x)) []] (gc (fk 2 (cAf x k Qx) rfl) gn)
theorem aTm(x:Chg)(k:Int)(hx:ckL k x):FMM Tp 205 [.p (.agg [aN x.1,aN x.2]),.ptr 0 0] [some (.box 243 [(.fn 146 [] [(.rp [(aB k)] 0)])])] (pB (!(qR k x))) [some (.box 243 [(.fn 146 [] [(.rp [(aB k)] 0)])])]:=bPe hx rfl
def fY(l:List (List Cel × List Cel))(k:Int)(i:Nat):St:=⟨fr 19 [(0,(.p (.sl l.length ((l.map chE).flatten)))),(1,(.fn 205 [] [(.ptr 0 0)])),(7,(pI (l.length:Int))),(8,(pI (i:Int)))],[some (.box 243 [(.fn 146 [] [(.rp [(aB k)] 0)])])]⟩
theorem bPf{l:List (List Cel × List Cel)}(hl0:aF Tp 1 oZ (fY l k 0) (.exit 0) (fY l k Aq)):FMM Tp 254 [(.p (.sl l.length ((l.map chE).flatten))),(.fn 205 [] [(.ptr 0 0)])] [some (.box 243 [(.fn 146 [] [(.rp [(aB k)] 0)])])] (pI (-1)) [some (.box 243 [(.fn 146 [] [(.rp [(aB k)] 0)])])]:=FMM.fi 1 gE func254 [hl0.k 6 (gZ cb)] (gc hl0.code gn)
theorem bPg{l:List (List Cel × List Cel)}(hl0:aF Tp 1 oZ (fY l k 0) .ret (cN (fY l k Aq) [(4,(pI (Aq:Int)))])):FMM Tp 254 [(.p (.sl l.length ((l.map chE).flatten))),(.fn 205 [] [(.ptr 0 0)])] [some (.box 243 [(.fn 146 [] [(.rp [(aB k)] 0)])])] (pI (Aq:Int)) [some (.box 243 [(.fn 146 [] [(.rp [(aB k)] 0)])])]:=FMM.fi 1 gE func254 [hl0.k 6 (gZ cb)] (gc hl0.code gn)
section
variable{l:List (List Cel × List Cel)}{Ag Ah:List Cel}(h0:(i:Int)<(l.length:Int))(h1:l[i]? = some (Ag,Ah))(E6:ckL k (Ag,Ah))
include h0 h1 E6
theorem aQe(h3:(qR k (Ag,Ah))=false):aA Tp 1 oZ (fY l k i) .ret (cN (fY l k i) [(4,(pI (i:Int)))]):=have k1:=mq [0] 1 (aTm (Ag,Ah) k E6);aA.fi (gZ bq) [bT,.x (.agg [(.sl Ag.length ((Ag.map cE).flatten)),(.sl Ah.length ((Ah.map cE).flatten))]),k1.o,bT] (gc (dB h3) (gc k1 (gc (bG (E:=chE) (i:=i) (k:=2) (fun _=>rfl) h1 rfl) (gc (cG (E:=chE) (i:=i) (k:=2) (fun _=>rfl) h1) (gc (bC (E:=chE) (k:=2) (i:=(i:Int)) (fun _=>rfl) (by decide) (Bu _) h1) (g0 h0))))))
theorem aQf(h3:(qR k (Ag,Ah))=true)(h4:cn i)(Aj:i'=(i+1)):aA Tp 1 oZ (fY l k i) .normal (fY l k i'):=by
 subst Aj;have k1:=mq [0] 1 (aTm (Ag,Ah) k E6);exact aA.fi (gZ cb) [bT,.x (.agg [(.sl Ag.length ((Ag.map cE).flatten)),(.sl Ah.length ((Ah.map cE).flatten))]),k1.o,bF] (gc h4 (gc (aU h3) (gc k1 (gc (bG (E:=chE) (i:=i) (k:=2) (fun _=>rfl) h1 rfl) (gc (cG (E:=chE) (i:=i) (k:=2) (fun _=>rfl) h1) (gc (bC (E:=chE) (k:=2) (i:=(i:Int)) (fun _=>rfl) (by decide) (Bu _) h1) (g0 h0)))))))
end
theorem aQg{l:List (List Cel × List Cel)}(h0:(l.length:Int)≤(i:Int)):aA Tp 1 oZ (fY l k i) (.exit 0) (fY l k i):=aA.fi (gZ cb) [bF] (gc (bL h0) gn)
theorem bPh(l:List Chg)(k:Int)(hl:l.length≤100000)(hL:∀ x∈l,ckL k x):FMM Tp 254 [.p (.sl l.length ((l.map chE).flatten)),(.fn 205 [] [(.ptr 0 0)])] [some (.box 243 [(.fn 146 [] [(.rp [(aB k)] 0)])])] (pI (nG (fun x => !(qR k x)) l)) [some (.box 243 [(.fn 146 [] [(.rp [(aB k)] 0)])])]:=by
 rcases aF.find (P:=Tp) (k:=1) (b:=oZ) (fun i=>fY l k i) (fun i _=>cN (fY l k i) [(4,.p (aB (i:Int)))]) (fY l k l.length) .ret (.exit 0) (by simp) (by simp) (fun x => !(qR k x)) l
  (fun i x hx hp=>aQf (by have:=bN hx;omega) hx (hL _ (Cj hx)) (by simpa using hp) (aV (by have:=bN hx;omega)) rfl)
  (fun i x hx hp=>aQe (by have:=bN hx;omega) hx (hL _ (Cj hx)) (by simpa using hp))
  (aQg (l:=l) (i:=l.length) (by omega)) with ⟨i,x,h1,h2,h3,h4⟩ | ⟨h1,h2,h3⟩
 ·rw [jC h2];exact bPg h4
 ·rw [jD h1];exact bPf h3
theorem bPi{l:List (List Cel × List Cel)}(h0:l.length≤100000)(Fp:∀ x∈l,ckL k x)(Al:r0=(decide ((nG (fun x => !(qR k x)) l) ≥ 0))):FMM Tp 204 [(.p (.sl l.length ((l.map chE).flatten))),(.fn 205 [] [(.ptr 0 0)])] [some (.box 243 [(.fn 146 [] [(.rp [(aB k)] 0)])])] (pB r0) [some (.box 243 [(.fn 146 [] [(.rp [(aB k)] 0)])])]:=by
 subst Al;have k1:=mq [0] 1 (bPh l k h0 Fp);exact FMM.fi 1 gE func204 [k1.o] (gc k1 gn)
theorem bPj(l:List Chg)(k:Int)(hl:l.length≤100000)(hL:∀ x∈l,ckL k x):FMM Tp 204 [.p (.sl l.length ((l.map chE).flatten)),(.fn 205 [] [(.ptr 0 0)])] [some (.box 243 [(.fn 146 [] [(.rp [(aB k)] 0)])])] (pB (l.any (fun x => !(qR k x)))) [some (.box 243 [(.fn 146 [] [(.rp [(aB k)] 0)])])]:=bPi hl hL (lC _ _).symm
theorem bPk{l:List (List Cel × List Cel)}(h0:l.length≤100000)(Fp:∀ x∈l,ckL k x)(Al:r0=(!(l.any (fun x => !(qR k x))))):FV Tp 143 [(.p (.sl l.length ((l.map chE).flatten))),(.fn 146 [] [(.rp [(aB k)] 0)])] base (pB r0) []:=by
 subst Al;have k1:=mq [0] 1 (bPj l k h0 Fp);exact FV.fi func143 [k1.o] (gc k1 gn)
theorem bPl(l:List Chg)(k:Int)(hl:l.length≤100000)(hL:∀ x∈l,ckL k x){base:Nat}:FV Tp 143 [.p (.sl l.length ((l.map chE).flatten)),(.fn 146 [] [(.rp [(aB k)] 0)])] base (pB (l.all (qR k))) []:=bPk hl hL (by rw [List.all_eq_not_any_not])
theorem bPm(k:Int)(R:List (List Cel))(h:R.length≤100000){base:Nat}:FV Tp 145 [.p (aB k),.p (.sl R.length ((R.map rwE).flatten))] base (pI (lF k R)) []:=by rw [fH];exact aGp k R h
def qT(k:Int)(l:List (List Cel × List Cel))(i rn:Nat)(rc:List PV):St:=⟨fr 67 [(1,(.p (.sl l.length ((l.map chE).flatten)))),(2,(.ptr 0 0)),(4,(pI 0)),(5,(.own 1)),(23,(.p (.sl l.length ((l.map chE).flatten)))),(24,(pI (l.length:Int))),(25,(pI (i:Int)))],[some (.box 23 [(pI k)]),some (.row 78 rn rc)]⟩
def qU(k:Int)(l:List (List Cel × List Cel))(j:Nat):St:=⟨fr 67 [(1,(.p (.sl l.length ((l.map chE).flatten)))),(2,(.ptr 0 0)),(9,(pI (j:Int)))],[some (.box 23 [(pI k)])]⟩
theorem cAg{l:List (List Cel × List Cel)}{Ib:List (List Cel)}{Kz:Nat}(h0:(within k 0 4)=true)(h1:(l.length:Int)≤400)(h2:l.length≤100000)(h3:(l.all (neC))=true)(Fb:aF Tp 0 bJe (qT k l 0 0 []) (.exit 1) (qT k l Aq Ib.length ((Ib.map rwE).flatten)))(h5:Ib.length≤100000)(h6:(lF k Ib)=0)(Qy:∀ x∈l,ckL k x)(h8:(l.all (qR k))=true)(Ky:aF Tp 0 bJf (qU k l 1) (.exit 3) (qU k l Kz)):FV Tp 53 [(pI k),(.p (.sl l.length ((l.map chE).flatten)))] base (pI 0) []:=have k1:=fk 1 (qD k) rfl;have k2:=fk 1 (bPd l h2) rfl;FV.fi func53 [k1.o,bF,bF,bF,k2.o,bF,bF,bF,Fb.k 6 (gN az [0,1] [(5,78)]),.c (pI (lF k Ib)) [],bF,.c (pB (l.all (qR k))) [],bF,Ky.k 4 (gI [0,1,3,6,10,57] [0])] (gc Ky.code (gc (aU h8) (gt (FC Tp 143 [(.p (.sl l.length ((l.map chE).flatten))),(.fn 146 [] [(.ptr 0 0)])] [(0,(.box 23 [(pI k)]))] 2 (pB (l.all (qR k))) []) (fv (bPl l k h2 Qy)) (gc (bK h6) (gt (FC Tp 145 [(pI k),(.own 1)] [(1,(.row 78 Ib.length ((Ib.map rwE).flatten)))] 2 (pI (lF k Ib)) []) (fv (bPm k Ib h5)) (gc Fb.code (gc (aU h3) (A2 (bL h1) (gc k2 (A2 (bL h1) (gc (aU h0) (gc k1 gn))))))))))))
theorem bBz{l:List (List Cel × List Cel)}{r:List (List Cel)}{Ag Ah:List Cel}{r':List (List Cel)}(h0:(i:Int)<(l.length:Int))(h1:l[i]? = some (Ag,Ah))(h2:[(PV.sl Ag.length ((Ag.map cE).flatten)),(.sl Ah.length ((Ah.map cE).flatten))].length=2*1∧r.length+2≤1000000)(h3:cn i)(Aj:i'=(i+1))(Dh:r'.length=(r.length+2))(Di:(r'.map rwE).flatten=(((r.map rwE).flatten)++[(PV.sl Ag.length ((Ag.map cE).flatten)),(.sl Ah.length ((Ah.map cE).flatten))])):aA Tp 0 bJe (qT k l i r.length ((r.map rwE).flatten)) .normal (qT k l i' r'.length ((r'.map rwE).flatten)):=by
 subst Aj;rw [Dh,Di];exact aA.fi (gI az [0,4]) [bT,.x (.agg [(.sl Ag.length ((Ag.map cE).flatten)),(.sl Ah.length ((Ah.map cE).flatten))])] (gc h3 (gc h2 (gc (bG (E:=chE) (i:=i) (k:=2) (fun _=>rfl) h1 rfl) (gc (cG (E:=chE) (i:=i) (k:=2) (fun _=>rfl) h1) (gc (bC (E:=chE) (k:=2) (i:=(i:Int)) (fun _=>rfl) (by decide) (Bu _) h1) (g0 h0))))))
theorem bCa{l:List (List Cel × List Cel)}{r:List (List Cel)}(h0:(l.length:Int)≤(i:Int)):aA Tp 0 bJe (qT k l i r.length ((r.map rwE).flatten)) (.exit 1) (qT k l i r.length ((r.map rwE).flatten)):=aA.fi (gI az [0,1]) [bF] (gc (bL h0) gn)
theorem bCb{l:List (List Cel × List Cel)}{Az A0 Be Bf:List Cel}{j':Nat}(h0:(j:Int)<(l.length:Int))(h1:inR ((j:Int)-1))(h2:l[((j:Int)-1).toNat]? = some (Az,A0))(h3:0≤((j:Int)-1))(h4:l[j]? = some (Be,Bf))(h5:aO k≤((crM (Az,A0)).length:Int))(h6:aO k≤((crM (Be,Bf)).length:Int))(h7:(bU k (crM (Az,A0)) (crM (Be,Bf)))<0)(h8:cn j)(Bw:j'=(j+1)):aA Tp 0 bJf (qU k l j) .normal (qU k l j'):=by
 subst Bw;have k1:=fk 1 (mT (Az,A0).1 (Az,A0).2) rfl;have k2:=fk 9 (mT (Be,Bf).1 (Be,Bf).2) rfl;have k3:=fk 17 (mG k (crM (Az,A0)) (crM (Be,Bf)) h5 h6) rfl;exact aA.fi (gI [0,1,3,6,10,57] [0]) [bT,.x (.agg [(.sl Az.length ((Az.map cE).flatten)),(.sl A0.length ((A0.map cE).flatten))]),k1.o,.x (.agg [(.sl Be.length ((Be.map cE).flatten)),(.sl Bf.length ((Bf.map cE).flatten))]),k2.o,k3.o,bF] (gc h8 (gc (eJ h7) (gc k3 (gc k2 (gc (bG (E:=chE) (i:=j) (k:=2) (fun _=>rfl) h4 rfl) (gc (cG (E:=chE) (i:=j) (k:=2) (fun _=>rfl) h4) (gc (bC (E:=chE) (k:=2) (i:=(j:Int)) (fun _=>rfl) (by decide) (Bu _) h4) (gc k1 (gc (bG (E:=chE) (i:=((j:Int)-1).toNat) (k:=2) (fun _=>rfl) h2 rfl) (gc (cG (E:=chE) (i:=((j:Int)-1).toNat) (k:=2) (fun _=>rfl) h2) (gc (bC (E:=chE) (k:=2) (i:=((j:Int)-1)) (fun _=>rfl) (by decide) h3 h2) (gc h1 (g0 h0)))))))))))))
theorem bCc{l:List (List Cel × List Cel)}(h0:(l.length:Int)≤(j:Int)):aA Tp 0 bJf (qU k l j) (.exit 3) (qU k l j):=aA.fi (gI [0,1,3,6,10,57] [0]) [bF] (gc (bL h0) gn)
end
end KV
end Go.Proofs
section
namespace Go.Proofs
open Go.RowKit
namespace KV
open Tryz
set_option maxRecDepth 1000000
def oY(l:List Chg):List (List Cel):=l.flatMap fun c=>[c.1,c.2]
def cDt(k:Int)(l:List Chg):Bool:=(l.zip l.tail).all fun p=>decide (bU k (crM p.1) (crM p.2)<0)
structure bOv (k:Int) (l:List Chg):Prop where
 w:within k 0 4=true
 n:l.length≤400
 ne:l.all neC=true
 ck:lF k (oY l)=0
 pai:l.all (qR k)=true
 L:∀ x∈l,ckL k x
 kk:∀ x∈l,aO k≤((crM x).length:Int)
 ord:cDt k l=true
theorem aBp(l:List Chg)(c:Chg):oY (l++[c])=oY l++[c.1,c.2]:=by simp [oY]
theorem wM:∀ l:List Chg,(oY l).length=2*l.length
 | []=>rfl
 | c::l=>by
  have:=wM l;show ([c.1,c.2]++oY l).length=2*(l.length+1);rw [B4,this];show 2+_=_;omega
theorem bZy{k:Int}{l:List Chg}(h:bOv k l){base:Nat}:FV Tp 53 [.p (aB k),.p (.sl l.length ((l.map chE).flatten))] base (.p (aB 0)) []:=by
 have hn:=h.n;have L1:=aF.count (P:=Tp) (k:=0) (b:=(sub (cd Tryz.f53) bm)) (e := .exit 1) (R:=qT k l l.length (oY l).length (((oY l).map rwE).flatten)) l.length
  (fun i=>qT k l i (oY (l.take i)).length (((oY (l.take i)).map rwE).flatten))
  (fun i hi=>by
   have hx:l[i]? = some l[i]:=B3 hi;have et:l.take (i+1)=l.take i++[l[i]]:=by rw [List.take_add_one,hx];rfl
   have hl:=wM (l.take i);rw [vV] at hl
   generalize l[i]=x at hx et
   obtain ⟨b,a⟩:=x;exact bBz (r:=oY (l.take i)) (r':=oY (l.take (i+1))) (by omega) hx ⟨rfl,by omega⟩ (aV (by omega)) rfl (by rw [et,aBp];simp) (by rw [et,aBp];simp [rwE,aN]))
  (by rw [List.take_length];exact bCa (by omega)) (by simp)
 have L2:∀ d j,1≤j→j+d=max 1 l.length→aF Tp 0 (sub (cd Tryz.f53) ba) (qU k l j) (.exit 3) (qU k l (max 1 l.length)):=by
  intro d
  induction d with
  | zero =>
   intro j hj hd;obtain rfl:j=max 1 l.length:=by omega
   exact .exit (bCc (by omega)) (by simp)
  | succ d ih =>
   intro j hj hd;have hlt:j<l.length:=by omega
   have hx:l[j]? = some l[j]:=B3 hlt;have hy:l[j-1]? = some (l[j-1]'(by omega)):=B3 (by omega)
   have ho:bU k (crM (l[j-1]'(by omega))) (crM l[j])<0:=by
    have:=hZ.1 h.ord (l[j-1]'(by omega),l[j]) (by
     refine Cj (i:=j-1) ?_;rw [List.getElem?_zip_eq_some];refine ⟨hy,?_⟩;rw [List.getElem?_tail,show j-1+1=j by omega]
     exact hx)
    exact of_decide_eq_true this
   have kx:=h.kk _ (gX hlt);have ky:=h.kk _ (gX (show j-1<l.length by omega))
   have Qw:l[((j:Int)-(1:Int)).toNat]? = some (l[j-1]'(by omega)):=by rw [show ((j:Int)-(1:Int)).toNat=j-1 by omega];exact hy
   refine .step (bCb (by omega) (by show _∧_;omega) Qw (by omega) hx ky kx ho (aV (by omega)) rfl) (ih (j+1) (by omega) (by omega))
 exact cAg h.w (by omega) (by omega) h.ne L1 (by rw [wM];omega) h.ck h.L h.pai (L2 (max 1 l.length-1) 1 (Bb _) (by omega))
end KV
end Go.Proofs
end
namespace Go.Proofs
namespace KV
open Tryz
section
variable {k:Int}{h i j h' i' j':Nat}

noncomputable abbrev aTj:Code:=sub (cd Tryz.f59) [1,1,1,1,0,1,0,0]
noncomputable abbrev aLs:Code:=pS (cd Tryz.f59) 6 [0,1,0,0]
noncomputable abbrev aTk:Code:=pS (cd Tryz.f59) 7 [0,1,0,0]
theorem bRp:((0:Int) != 0)=false:=by first | decide | simp
theorem aHp(k:Int)(R:List (List Cel))(h:dW k R=0){base:Nat}:FV Tp 102 [.p (.agg [aB k,cD R])] base (pI 0) []:=h ▸ iM k R
def eT(k:Int)(L:List (List Cel × List Cel)):List (Value × PV):=L.map fun p=>(iS k p.1,aN p.2)
def mR(k:Int)(R:List (List Cel))(l:List (List Cel × List Cel))(i:Nat)(me:List (Value × PV))(mk:Nat):St:=⟨fr 114 [(1,(.p (.sl l.length ((l.map chE).flatten)))),(2,(.ptr 0 0)),(4,(.ptr 1 0)),(8,(.mp 2)),(34,(.p (.sl l.length ((l.map chE).flatten)))),(35,(pI (l.length:Int))),(36,(pI (i:Int)))],[some (.box 26 [(pI k),(.p (.sl R.length (R.map aN)))]),some (.box 26 [(pI 0),(.p bO)]),some (.mp me mk)]⟩
def kI(k:Int)(R:List (List Cel))(l Cv:List (List Cel × List Cel))(j on:Nat)(oc:List PV):St:=⟨fr 114 [(1,(.p (.sl l.length ((l.map chE).flatten)))),(2,(.ptr 0 0)),(4,(.ptr 1 0)),(8,(.mp 2)),(12,(.ptr 3 0)),(62,(.p (.sl R.length (R.map aN)))),(63,(pI (R.length:Int))),(64,(pI (j:Int)))],[some (.box 26 [(pI k),(.p (.sl R.length (R.map aN)))]),some (.box 26 [(pI 0),(.p bO)]),some (.mp ((eT k) Cv) Cv.length),some (.box 26 [(pI k),(.own 4)]),some (.row 78 on oc)]⟩
def mS(k:Int)(R:List (List Cel))(l:List (List Cel × List Cel))(h un:Nat)(uc:List PV):St:=⟨fr 114 [(2,(.ptr 0 0)),(4,(.ptr 1 0)),(12,(.ptr 2 0)),(85,(.p (.sl l.length ((l.map chE).flatten)))),(86,(pI (l.length:Int))),(87,(pI (h:Int)))],[some (.box 26 [(pI k),(.p (.sl R.length (R.map aN)))]),some (.box 26 [(pI 0),(.p bO)]),some (.box 26 [(pI k),(.own 3)]),some (.row 78 un uc)]⟩
theorem bZx{R:List (List Cel)}{l:List (List Cel × List Cel)}{Aq:Nat}{Cv:List (List Cel × List Cel)}{Kz:Nat}{Lx:List (List Cel)}{Qu:Nat}{Hy:List (List Cel)}(Lk:dW k R=0)(Jy:bOv k l)(I5:fZ k R)(Ei:aF Tp 0 aTj (mR k R l 0 (bQ k R) R.length) (.exit 0) (mR k R l Aq ((eT k) Cv) Cv.length))(Fb:aF Tp 0 aLs (kI k R l Cv 0 0 []) (.exit 2) (kI k R l Cv Kz Lx.length ((Lx.map rwE).flatten)))(C5:aF Tp 0 aTk (mS k R l 0 Lx.length ((Lx.map rwE).flatten)) (.exit 4) (mS k R l Qu Hy.length ((Hy.map rwE).flatten)))(h6:(Hy.length:Int)≤200)(N2:Hy.length≤12)(N3:1≤Hy.length)(Qv:∀ x∈Hy,aO k≤(x.length:Int)):FMM Tp 59 [(.p (.agg [(aB k),(.sl R.length (R.map aN))])),(.p (.sl l.length ((l.map chE).flatten)))] [] (.tup [(.p (.agg [(aB k),(.sl ((isG (bU k) Hy).length) (((isG (bU k) Hy).map rwE).flatten))])),(pI 0)]) []:=have k1:=mq [3,0] 4 (cAu (D:=Hy) (k:=k) (R:=R) N2 N3 Qv);FMM.fi 0 ⟨[],[],[3],[]⟩ func59 [.c (pI 0) [],bF,.c (pI 0) [],bF,.c (.mp 2) [(2,(.mp (bQ k R) R.length))],Ei.k 4 (gI ad [0,1,2]),Fb.k 6 (gN af ca [(103001,78)]),C5.k 4 (gI aw [0,1,3,4]),bF,k1.o] (gc k1 (gc (bL h6) (gc C5.code (gc Fb.code (gc Ei.code (gt (FC Tp 149 [(.p (.agg [(aB k),(.sl R.length (R.map aN))]))] [] 2 (.mp 2) [(2,(.mp (bQ k R) R.length))]) (FMM.fcN (k:=1) rfl (ids:=[]) (aQi I5) (by kernel_rfl)) (gc bRp (gc (fk 2 (bZy Jy) rfl) (gc bRp (gc (fk 2 (aHp k R Lk) rfl) gn))))))))))
section
variable{l m:List (List Cel × List Cel)}{Ag Ah:List Cel}(h0:(i:Int)<(l.length:Int))(h1:l[i]? = some (Ag,Ah))(h2:aO k≤((crM (Ag,Ah)).length:Int))(h3:eM Tp 186 ((eT k) m) (k3V (aK k (crM (Ag,Ah)) 0) (aK k (crM (Ag,Ah)) 1) (aK k (crM (Ag,Ah)) 2)))
include h0 h1 h2 h3
theorem bBp{R:List (List Cel)}{F5:List Cel}{m':List (List Cel × List Cel)}(h4:(gW ((eT k) m) (k3V (aK k (crM (Ag,Ah)) 0) (aK k (crM (Ag,Ah)) 1) (aK k (crM (Ag,Ah)) 2)))=true)(h5:gS ((eT k) m) (k3V (aK k (crM (Ag,Ah)) 0) (aK k (crM (Ag,Ah)) 1) (aK k (crM (Ag,Ah)) 2))=some (.sl F5.length ((F5.map cE).flatten)))(H9:F5.length≤100000)(h7:(decide (F5=Ag))=true)(h8:cn i)(Aj:i'=(i+1))(E1:(eT k) m'=(aJg ((eT k) m) (k3V (aK k (crM (Ag,Ah)) 0) (aK k (crM (Ag,Ah)) 1) (aK k (crM (Ag,Ah)) 2)) (.sl Ah.length ((Ah.map cE).flatten))))(E2:m'.length=m.length):aA Tp 0 aTj (mR k R l i ((eT k) m) m.length) .normal (mR k R l i' ((eT k) m') m'.length):=by
 subst Aj;have k1:=fk 4 (mT (Ag,Ah).1 (Ag,Ah).2) rfl;have k2:=fk 12 (eH k (crM (Ag,Ah)) h2) rfl;have k3:=fk 21 (pZ F5 Ag H9) rfl;rw [E1,E2];exact aA.fi (gI ad [0,1,2]) [bT,.x (.agg [(.sl Ag.length ((Ag.map cE).flatten)),(.sl Ah.length ((Ah.map cE).flatten))]),k1.o,k2.o,bT,.x (.sl F5.length ((F5.map cE).flatten)),k3.o,bF,bT] (gc h8 (gc h4 (gc h3 (gc (aU h7) (gc k3 (gc h5 (gc h4 (gc h3 (gc k2 (gc k1 (gc (bG (E:=chE) (i:=i) (k:=2) (fun _=>rfl) h1 rfl) (gc (cG (E:=chE) (i:=i) (k:=2) (fun _=>rfl) h1) (gc (bC (E:=chE) (k:=2) (i:=(i:Int)) (fun _=>rfl) (by decide) (Bu _) h1) (g0 h0))))))))))))))
theorem bBq{R:List (List Cel)}{m':List (List Cel × List Cel)}(h4:(gW ((eT k) m) (k3V (aK k (crM (Ag,Ah)) 0) (aK k (crM (Ag,Ah)) 1) (aK k (crM (Ag,Ah)) 2)))=false)(Jl:([]:List Cel).length≤100000)(h6:(decide (([]:List Cel)=Ag))=true)(h7:cn i)(Aj:i'=(i+1))(E1:(eT k) m'=(((eT k) m)++[((k3V (aK k (crM (Ag,Ah)) 0) (aK k (crM (Ag,Ah)) 1) (aK k (crM (Ag,Ah)) 2)),(.sl Ah.length ((Ah.map cE).flatten)))]))(E2:m'.length=(m.length+1)):aA Tp 0 aTj (mR k R l i ((eT k) m) m.length) .normal (mR k R l i' ((eT k) m') m'.length):=by
 subst Aj;have k1:=fk 4 (mT (Ag,Ah).1 (Ag,Ah).2) rfl;have k2:=fk 12 (eH k (crM (Ag,Ah)) h2) rfl;rw [E1,E2];exact aA.fi (gI ad [0,1,2]) [bT,.x (.agg [(.sl Ag.length ((Ag.map cE).flatten)),(.sl Ah.length ((Ah.map cE).flatten))]),k1.o,k2.o,bF,.c (pB (decide (([]:List Cel)=Ag))) [],bF,bF] (gc h7 (gc h4 (gc h3 (gc (aU h6) (gt (FC Tp 107 [(.p bO),(.p (.sl Ag.length ((Ag.map cE).flatten)))] [] 21 (pB (decide (([]:List Cel)=Ag))) []) (FV.fc (FV.argwk (pZ ([]:List Cel) Ag Jl) rfl) rfl) (gc h4 (gc h3 (gc k2 (gc k1 (gc (bG (E:=chE) (i:=i) (k:=2) (fun _=>rfl) h1 rfl) (gc (cG (E:=chE) (i:=i) (k:=2) (fun _=>rfl) h1) (gc (bC (E:=chE) (k:=2) (i:=(i:Int)) (fun _=>rfl) (by decide) (Bu _) h1) (g0 h0)))))))))))))
end
theorem bBr{R:List (List Cel)}{l m:List (List Cel × List Cel)}(h0:(l.length:Int)≤(i:Int)):aA Tp 0 aTj (mR k R l i ((eT k) m) m.length) (.exit 0) (mR k R l i ((eT k) m) m.length):=aA.fi (gI ad [0,1,2]) [bF] (gc (bL h0) gn)
section
variable{R:List (List Cel)}{Cv:List (List Cel × List Cel)}{Ac Bl:List Cel}(h0:(j:Int)<(R.length:Int))(h1:R[j]? = some Ac)(h2:aO k≤(Ac.length:Int))(h3:eM Tp 186 ((eT k) Cv) (k3V (aK k Ac 0) (aK k Ac 1) (aK k Ac 2)))(h4:(gW ((eT k) Cv) (k3V (aK k Ac 0) (aK k Ac 1) (aK k Ac 2)))=true)(h5:gS ((eT k) Cv) (k3V (aK k Ac 0) (aK k Ac 1) (aK k Ac 2))=some (.sl Bl.length ((Bl.map cE).flatten)))
include h0 h1 h2 h3 h4 h5
theorem bBs{l:List (List Cel × List Cel)}{o o':List (List Cel)}(h6:(0:Int)<(Bl.length:Int))(K0:Bl.length≤1000000)(h8:[(PV.sl Bl.length ((Bl.map cE).flatten))].length=1*1∧o.length+1≤1000000)(h9:cn j)(Bw:j'=(j+1))(Dj:o'.length=(o.length+1))(Dk:(o'.map rwE).flatten=(((o.map rwE).flatten)++[(PV.sl Bl.length ((Bl.map cE).flatten))])):aA Tp 0 aLs (kI k R l Cv j o.length ((o.map rwE).flatten)) .normal (kI k R l Cv j' o'.length ((o'.map rwE).flatten)):=by
 subst Bw;have k1:=fk 5 (eH k Ac h2) rfl;have k2:=fk 5 (qW Bl K0) rfl;rw [Dj,Dk];exact aA.fi (gI af [0,1,2,3,14]) [bT,.x (.sl Ac.length ((Ac.map cE).flatten)),k1.o,bT,.x (.sl Bl.length ((Bl.map cE).flatten)),bT,k2.o] (gc h9 (gc h8 (gc k2 (gc (cP h6) (gc h5 (gc h4 (gc h3 (gc k1 (gc (atm aN h1) (gc (ixn aN h1) (g0 h0)))))))))))
theorem bBt{l:List (List Cel × List Cel)}{o:List (List Cel)}(h6:(Bl.length:Int)≤0)(h7:cn j)(Bw:j'=(j+1)):aA Tp 0 aLs (kI k R l Cv j o.length ((o.map rwE).flatten)) .normal (kI k R l Cv j' o.length ((o.map rwE).flatten)):=by
 subst Bw;have k1:=fk 5 (eH k Ac h2) rfl;exact aA.fi (gI af ca) [bT,.x (.sl Ac.length ((Ac.map cE).flatten)),k1.o,bT,.x (.sl Bl.length ((Bl.map cE).flatten)),bF] (gc h7 (gc (bL h6) (gc h5 (gc h4 (gc h3 (gc k1 (gc (atm aN h1) (gc (ixn aN h1) (g0 h0)))))))))
end
theorem bBu{R:List (List Cel)}{l Cv:List (List Cel × List Cel)}{o:List (List Cel)}{Ac:List Cel}(h0:(j:Int)<(R.length:Int))(h1:R[j]? = some Ac)(h2:aO k≤(Ac.length:Int))(h3:eM Tp 186 ((eT k) Cv) (k3V (aK k Ac 0) (aK k Ac 1) (aK k Ac 2)))(h4:(gW ((eT k) Cv) (k3V (aK k Ac 0) (aK k Ac 1) (aK k Ac 2)))=false)(h5:cn j)(Bw:j'=(j+1)):aA Tp 0 aLs (kI k R l Cv j o.length ((o.map rwE).flatten)) .normal (kI k R l Cv j' o.length ((o.map rwE).flatten)):=by
 subst Bw;have k1:=fk 5 (eH k Ac h2) rfl;exact aA.fi (gI af ca) [bT,.x (.sl Ac.length ((Ac.map cE).flatten)),k1.o,bF,bF] (gc h5 (gt ((decide ((0:Int) > 0))=false) (by first | decide | simp) (gc h4 (gc h3 (gc k1 (gc (atm aN h1) (gc (ixn aN h1) (g0 h0))))))))
theorem bBv{R:List (List Cel)}{l Cv:List (List Cel × List Cel)}{o:List (List Cel)}(h0:(R.length:Int)≤(j:Int)):aA Tp 0 aLs (kI k R l Cv j o.length ((o.map rwE).flatten)) (.exit 2) (kI k R l Cv j o.length ((o.map rwE).flatten)):=aA.fi (gI af ca) [bF] (gc (bL h0) gn)
section
variable{l:List (List Cel × List Cel)}{Au Ao:List Cel}(h0:(h:Int)<(l.length:Int))(h1:l[h]? = some (Au,Ao))
include h0 h1
theorem bBw{R u u':List (List Cel)}(h2:(Au.length:Int)=0)(K1:Ao.length≤1000000)(h4:[(PV.sl Ao.length ((Ao.map cE).flatten))].length=1*1∧u.length+1≤1000000)(h5:cn h)(N4:h'=(h+1))(N5:u'.length=(u.length+1))(N6:(u'.map rwE).flatten=(((u.map rwE).flatten)++[(PV.sl Ao.length ((Ao.map cE).flatten))])):aA Tp 0 aTk (mS k R l h u.length ((u.map rwE).flatten)) .normal (mS k R l h' u'.length ((u'.map rwE).flatten)):=by
 subst N4;have k1:=fk 5 (qW Ao K1) rfl;rw [N5,N6];exact aA.fi (gI aw [0,1,2,14]) [bT,.x (.agg [(.sl Au.length ((Au.map cE).flatten)),(.sl Ao.length ((Ao.map cE).flatten))]),bT,k1.o] (gc h5 (gc h4 (gc k1 (gc (dC h2) (gc (bG (E:=chE) (i:=h) (k:=2) (fun _=>rfl) h1 rfl) (gc (cG (E:=chE) (i:=h) (k:=2) (fun _=>rfl) h1) (gc (bC (E:=chE) (k:=2) (i:=(h:Int)) (fun _=>rfl) (by decide) (Bu _) h1) (g0 h0))))))))
theorem bBx{R u:List (List Cel)}(h2:(Au.length:Int)≠0)(h3:cn h)(N4:h'=(h+1)):aA Tp 0 aTk (mS k R l h u.length ((u.map rwE).flatten)) .normal (mS k R l h' u.length ((u.map rwE).flatten)):=by
 subst N4;exact aA.fi (gI aw cj) [bT,.x (.agg [(.sl Au.length ((Au.map cE).flatten)),(.sl Ao.length ((Ao.map cE).flatten))]),bF] (gc h3 (gc (bP h2) (gc (bG (E:=chE) (i:=h) (k:=2) (fun _=>rfl) h1 rfl) (gc (cG (E:=chE) (i:=h) (k:=2) (fun _=>rfl) h1) (gc (bC (E:=chE) (k:=2) (i:=(h:Int)) (fun _=>rfl) (by decide) (Bu _) h1) (g0 h0))))))
end
theorem bBy{R:List (List Cel)}{l:List (List Cel × List Cel)}{u:List (List Cel)}(h0:(l.length:Int)≤(h:Int)):aA Tp 0 aTk (mS k R l h u.length ((u.map rwE).flatten)) (.exit 4) (mS k R l h u.length ((u.map rwE).flatten)):=aA.fi (gI aw cj) [bF] (gc (bL h0) gn)
end
end KV
end Go.Proofs
section
namespace Go.Proofs
open Go.RowKit
namespace KV
open Tryz
set_option maxRecDepth 1000000
abbrev RM:=List (List Cel × List Cel)
def kM(k:Int)(m:RM)(r:List Cel):Option (List Cel):=(m.find? fun p=>decide (Av k p.1=Av k r)).map (·.2)
def aBm(k:Int)(c:Chg):RM→RM
 | []=>[]
 | p::r=>if Av k p.1=Av k (crM c) then (crM c,c.2)::r else p::aBm k c r
def aBn(k:Int)(m:RM)(c:Chg):RM:=if (kM k m (crM c)).isSome=true then aBm k c m else m++[(crM c,c.2)]
def apF(k:Int)(m:RM)(c:Chg):Option RM:=if (kM k m (crM c)).getD []=c.1 then some (aBn k m c) else none
structure aEx (k:Int) (m:RM):Prop where
 ky:∀ p∈m,kN k p.1
 nd:(m.map fun p=>Av k p.1).Nodup
 len:∀ p∈m,p.2.length≤1000
theorem bJb(k:Int)(m:RM)(r:List Cel):gW (eT k m) (iS k r)=(kM k m r).isSome:=by
 unfold gW eT kM;rw [List.any_map,Option.isSome_map,Bool.eq_iff_iff,List.find?_isSome,List.any_eq_true];rfl
theorem aTh(k:Int)(m:RM)(r:List Cel):gS (eT k m) (iS k r)=(kM k m r).map aN:=by
 unfold gS eT kM;rw [List.find?_map];have e:((fun e:Value × PV=>decide (kB e.1=kB (iS k r))) ∘ fun p:List Cel × List Cel=>(iS k p.1,aN p.2))=fun p=>decide (Av k p.1=Av k r):=rfl
 rw [e];cases List.find? (fun p:List Cel × List Cel=>decide (Av k p.1=Av k r)) m <;> rfl
theorem bJc(k:Int)(c:Chg):∀ m:RM,aJg (eT k m) (iS k (crM c)) (aN c.2)=eT k (aBm k c m)
 | []=>rfl
 | p::m=>by
  have ih:=bJc k c m;unfold eT at ih ⊢
  rw [eZ];unfold aJg aBm;have e:kB (iS k p.1,aN p.2).1=kB (iS k (crM c))↔Av k p.1=Av k (crM c):=Iff.rfl
  by_cases h:Av k p.1=Av k (crM c)
  ·rw [if_pos (e.2 h),if_pos h];rfl
  ·rw [if_neg (fun h2=>h (e.1 h2)),if_neg h,ih];rfl
theorem aLq(k:Int)(c:Chg):∀ m:RM,(aBm k c m).length=m.length
 | []=>rfl
 | p::m=>by
  unfold aBm
  split
  ·rfl
  ·rw [eY,aLq k c m,eY]
theorem aEy(k:Int)(c:Chg):∀ m:RM,((aBm k c m).map fun p=>Av k p.1)=m.map fun p=>Av k p.1
 | []=>rfl
 | p::m=>by
  unfold aBm
  split
  ·rename_i h
   rw [eZ,eZ,h]
  ·rw [eZ,eZ,aEy k c m]
theorem aBo{k:Int}{c:Chg}{p:List Cel × List Cel}:∀ {m:RM},p∈aBm k c m→p∈m∨p=(crM c,c.2)
 | [],h=>by cases h
 | q::m,h=>by
  unfold aBm at h
  split at h
  ·rcases kD.1 h with rfl | h
   ·exact .inr rfl
   ·exact .inl (Ci _ h)
  ·rcases kD.1 h with rfl | h
   ·exact .inl (iK ..)
   ·exact (aBo h).imp (Ci _) id
theorem aTi{k:Int}{m:RM}{r:List Cel}(h:aEx k m)(hr:kN k r):eM Tp 186 (eT k m) (iS k r):=by
 refine ⟨Eb,fun e he => ?_,kW hr,fun e he h => ?_,?_⟩
 ·obtain ⟨x,hx,rfl⟩:=sY.1 he
  exact kW (h.ky x hx)
 ·obtain ⟨x,hx,rfl⟩:=sY.1 he
  exact aHv h
 ·unfold eT
  rw [xW];exact h.nd
theorem bBo{k:Int}{m:RM}{r:List Cel}(h:kM k m r=none):∀ p∈m,Av k p.1≠Av k r:=fun p hp e=>by
 unfold kM at h
 rw [Option.map_eq_none_iff,List.find?_eq_none] at h
 exact h p hp (by simp [e])
theorem bOu{k:Int}{m:RM}{c:Chg}(h:aEx k m)(hc:kN k (crM c))(hl:c.2.length≤1000):aEx k (aBn k m c):=by
 unfold aBn
 split
 ·refine ⟨fun p hp => ?_,by rw [aEy];exact h.nd,fun p hp => ?_⟩
  ·rcases aBo hp with h2 | rfl
   ·exact h.ky p h2
   ·exact hc
  ·rcases aBo hp with h2 | rfl
   ·exact h.len p h2
   ·exact hl
 ·rename_i hn
  have hn:kM k m (crM c)=none:=by simpa using hn
  refine ⟨fun p hp => ?_,?_,fun p hp => ?_⟩
  ·rcases oG.1 hp with h2 | h2
   ·exact h.ky p h2
   ·rw [List.mem_singleton] at h2;subst h2;exact hc
  ·rw [pT,List.nodup_append]
   refine ⟨h.nd,by simp,fun a ha b hb => ?_⟩
   obtain ⟨p,hp,rfl⟩:=sY.1 ha;rw [List.map_singleton,List.mem_singleton] at hb
   subst hb;exact bBo hn p hp
  ·rcases oG.1 hp with h2 | h2
   ·exact h.len p h2
   ·rw [List.mem_singleton] at h2;subst h2;exact hl
theorem aLr{k:Int}{m:RM}{r y:List Cel}(h:kM k m r=some y):∃ p∈m,y=p.2:=by
 unfold kM at h
 obtain ⟨p,hp,rfl⟩:=Da.1 h;exact ⟨p,bLh hp,rfl⟩
theorem bJd{k:Int}{m:RM}{c:Chg}:(aBn k m c).length=if (kM k m (crM c)).isSome=true then m.length else m.length+1:=by
 unfold aBn
 split
 ·exact aLq k c m
 ·simp
theorem aQa{k:Int}{R:List (List Cel)}{l:List Chg}(hl:l.length≤400)(hk:∀ x∈l,aO k≤((crM x).length:Int))(hy:∀ x∈l,kN k (crM x))(h2:∀ x∈l,x.1.length≤1000∧x.2.length≤1000) :
  ∀ (q:List Chg) (i:Nat) (m m1:RM),l.drop i=q→aEx k m→i+q.length=l.length→q.foldlM (apF k) m=some m1→aEx k m1∧aF Tp 0 (sub (cd Tryz.f59) bi) (mR k R l i (eT k m) m.length) (.exit 0) (mR k R l l.length (eT k m1) m1.length)
 | [],i,m,m1,hq,hm,hi,hf=>by
  cases hf;have:i=l.length:=by simpa using hi
  subst this;exact ⟨hm,.exit (bBr (by omega)) (by simp)⟩
 | c::q,i,m,m1,hq,hm,hi,hf=>by
  have hlt:i<l.length:=by rw [eY] at hi;omega
  have hx:l[i]? = some c:=by
   have:=congrArg (fun l:List Chg=>l[0]?) hq
   simpa using this
  have Iy:l.drop (i+1)=q:=by
   have:=congrArg List.tail hq;rw [List.tail_drop] at this;exact this
  have hc:=Cj hx;have hK:=aTi hm (hy c hc);have hhit:=bJb k m (crM c);have hlook:=aTh k m (crM c);have hul:=bJd (k:=k) (m:=m) (c:=c);have hok:=bOu hm (hy c hc) (h2 c hc).2;rw [List.foldlM_cons] at hf
  unfold apF at hf
  cases hlk:kM k m (crM c) with
  | some y =>
   rw [hlk] at hf hhit hlook hul
   obtain ⟨p,hp,rfl⟩:=aLr hlk;have hpl:=hm.len p hp
   by_cases he:p.2=c.1
   ·rw [Option.getD_some,if_pos he] at hf
    obtain ⟨h3,L⟩:=aQa hl hk hy h2 q (i+1) _ _ Iy hok (by rw [eY] at hi;omega) hf
    have hupd:aBn k m c=aBm k c m:=by unfold aBn;rw [hlk];rfl
    refine ⟨h3,.step (bBp (Ag:=c.1) (Ah:=c.2) (m':=aBn k m c) (by omega) hx (hk c hc) hK hhit hlook (by omega) (by simp [he]) (aV (by omega)) rfl (by rw [hupd];exact (bJc k c m).symm) hul) L⟩
   ·rw [Option.getD_some,if_neg he] at hf
    cases hf
  | none =>
   rw [hlk] at hf hhit hlook hul
   by_cases he:([]:List Cel)=c.1
   ·rw [Option.getD_none,if_pos he] at hf
    obtain ⟨h3,L⟩:=aQa hl hk hy h2 q (i+1) _ _ Iy hok (by rw [eY] at hi;omega) hf
    have hupd:aBn k m c=m++[(crM c,c.2)]:=by unfold aBn;rw [hlk];rfl
    refine ⟨h3,.step (bBq (Ag:=c.1) (Ah:=c.2) (m':=aBn k m c) (by omega) hx (hk c hc) hK hhit (by simp) (by simp [he]) (aV (by omega)) rfl (by rw [hupd];unfold eT;rw [pT];rfl) hul) L⟩
   ·rw [Option.getD_none,if_neg he] at hf
    cases hf
def Fh(k:Int)(m:RM)(r:List Cel):Option (List Cel):=match kM k m r with
 | some y=>if 0<y.length then some y else none
 | none=>none
def Ia(c:Chg):Option (List Cel):=if c.1.length=0 then some c.2 else none
def apL(k:Int)(m:RM)(R:List (List Cel))(l:List Chg):List (List Cel):=R.filterMap (Fh k m)++l.filterMap Ia
theorem bZw{k:Int}{R:List (List Cel)}{l:List Chg}{m1:RM}(cR:dW k R=0)(hT:fZ k R)(hC:bOv k l)(hy:∀ x∈l,kN k (crM x))(h2:∀ x∈l,x.1.length≤1000∧x.2.length≤1000)
  (hf:l.foldlM (apF k) (R.map fun r=>(r,r))=some m1) (Ba:(apL k m1 R l).length≤12) (h1:1≤(apL k m1 R l).length) (hkk:∀ x∈apL k m1 R l,aO k≤(x.length:Int)) {base:Nat} :
  FV Tp 59 [.p (.agg [aB k,cD R]),.p (.sl l.length ((l.map chE).flatten))] base (.tup [.p (.agg [aB k,cD (isG (bU k) (apL k m1 R l))]),.p (aB 0)]) []:=by
 have hRn:=hT.n;have hln:=hC.n;have Qt:aEx k (R.map fun r=>(r,r)):=by
  refine ⟨fun p hp => ?_,?_,fun p hp => ?_⟩
  ·obtain ⟨r,hr,rfl⟩:=sY.1 hp
   exact hT.ky r hr
  ·rw [xW];exact hT.nd
  ·obtain ⟨r,hr,rfl⟩:=sY.1 hp
   exact (hT.len r hr).2
 obtain ⟨Lp,L0⟩:=aQa (R:=R) hln hC.kk hy h2 l 0 _ m1 rfl Qt (by omega) hf
 have e0:eT k (R.map fun r=>(r,r))=bQ k R:=by unfold eT bQ;rw [xW];rfl
 rw [e0,mE] at L0
 have L1:=aF.count (P:=Tp) (k:=0) (b:=(sub (cd Tryz.f59) ba)) (e := .exit 2) (R:=kI k R l m1 R.length (R.filterMap (Fh k m1)).length (((R.filterMap (Fh k m1)).map rwE).flatten)) R.length
  (fun j=>kI k R l m1 j ((R.take j).filterMap (Fh k m1)).length ((((R.take j).filterMap (Fh k m1)).map rwE).flatten))
  (fun j hj=>by
   have hx:R[j]? = some R[j]:=B3 hj;have hm:=gX hj;have hl:=hT.len _ hm;have hK:=aTi Lp (hT.ky _ hm);have hfl:=aBq (Fh k m1) R j;rw [vE (Fh k m1) hx];generalize R[j]=x at hx hm hl hK
   have hhit:=bJb k m1 x;have hlook:=aTh k m1 x;have hfx:Fh k m1 x=match kM k m1 x with | some y=>if 0<y.length then some y else none | none=>none:=rfl
   rw [hfx];generalize (R.take j).filterMap (Fh k m1)=o at hfl
   cases hlk:kM k m1 x with
   | some y =>
    rw [hlk] at hhit hlook
    obtain ⟨p,hp,rfl⟩:=aLr hlk;have hpl:=Lp.len p hp;dsimp only
    by_cases he:0<p.2.length
    ·rw [if_pos he]
     exact bBs (o':=o++[p.2]) (by omega) hx hl.1 hK hhit hlook (by omega) (by omega) ⟨rfl,by omega⟩ (aV (by omega)) rfl (by simp) (nP o p.2)
    ·rw [if_neg he,Option.toList_none,List.append_nil]
     exact bBt (by omega) hx hl.1 hK hhit hlook (by omega) (aV (by omega)) rfl
   | none =>
    rw [hlk] at hhit hlook
    dsimp only;rw [Option.toList_none,List.append_nil];exact bBu (by omega) hx hl.1 hK hhit (aV (by omega)) rfl)
  (by rw [List.take_length];exact bBv (by omega)) (by simp)
 have hfo:(R.filterMap (Fh k m1)).length≤R.length:=List.length_filterMap_le _ _;have L2:=aF.count (P:=Tp) (k:=0) (b:=(sub (cd Tryz.f59) [1,1,1,1,1,1,1,0,1,0,0])) (e := .exit 4) (R:=mS k R l l.length (apL k m1 R l).length (((apL k m1 R l).map rwE).flatten)) l.length
  (fun j=>mS k R l j (R.filterMap (Fh k m1)++(l.take j).filterMap Ia).length (((R.filterMap (Fh k m1)++(l.take j).filterMap Ia).map rwE).flatten))
  (fun j hj=>by
   have hx:l[j]? = some l[j]:=B3 hj;have hm:=gX hj;have hc:=h2 _ hm;have hfl:=aBq Ia l j;rw [vE Ia hx,← List.append_assoc];have hlen:(R.filterMap (Fh k m1)++(l.take j).filterMap Ia).length≤R.length+l.length:=by rw [B4];omega
   generalize R.filterMap (Fh k m1)++(l.take j).filterMap Ia=u at hlen
   generalize l[j]=c at hx hm hc
   have hfx:Ia c=if c.1.length=0 then some c.2 else none:=rfl
   rw [hfx]
   by_cases he:c.1.length=0
   ·rw [if_pos he]
    exact bBw (Au:=c.1) (Ao:=c.2) (u':=u++[c.2]) (by omega) hx (by omega) (by omega) ⟨rfl,by omega⟩ (aV (by omega)) rfl (by simp) (nP u c.2)
   ·rw [if_neg he,Option.toList_none,List.append_nil]
    exact bBx (Au:=c.1) (Ao:=c.2) (by omega) hx (by omega) (aV (by omega)) rfl)
  (by rw [List.take_length];exact bBy (by omega)) (by simp)
 have e2:R.filterMap (Fh k m1)++(l.take 0).filterMap Ia=R.filterMap (Fh k m1):=by simp
 rw [e2] at L2
 have:=bZx (Hy:=apL k m1 R l) cR hC hT L0 L1 L2 (by omega) Ba h1 hkk
 rw [fH] at this
 exact FV.frz this rfl
end KV
end Go.Proofs
end
section
namespace Go.Proofs
open Go.RowKit
namespace KV
open Tryz
abbrev cDc(a b c:Int):AO := .box 186 [.p (aB a),.p (aB b),.p (aB c)]
theorem bZv(a b c:Int):FMM Tp 108 [.arr 0 0 1] [some (cDc a b c)] (.p (.sl 1 [aB a])) [some (cDc a b c)]:=fun C w us hus hM n=>by
 cases hus with
 | cons _ u _ H1 hu hr =>
 cases hr;cases hu with
 | arr _ _ _ _ h0 ha h =>
 rcases h _ rfl rfl with ⟨h1,_⟩ | ⟨g,cap,rfl,h1,h2,h3⟩
 ·cases h1
 obtain ⟨g',arr,q0,q1,q2,q3,q4⟩:=hM.box 0 _ _ rfl;rw [h3] at q0;cases q0
 have hv:arr.getD 0 undef = .int .i64 a:=by
  have:=q3 0 (by simp)
  simp only [List.getElem_cons_zero] at this
  generalize arr.getD 0 undef=z at this ⊢
  cases this with | p _ _ h=>cases h;rfl
 have hcell:w.cell? ⟨g,0,none⟩=some (.int .i64 a):=by
  have hs:0<arr.size:=by rw [q2];simp
  unfold World.cell?;rw [q1];simp only [Option.isSome_none];rw [← hv];simp [Array.getD,hs]
 refine (callsIn_wide.2 (Tryz.slices_Clone_int g 0 1 cap [a] w (by simp) (by decide) (fun j hj => ?_))).mono ?_
 ·have:j=0:=by simpa using hj
  subst this;exact hcell
 ·rintro e w' ⟨v,rfl,⟨o1,o2⟩,hne,hB⟩
  obtain ⟨f1,m1⟩:=pE (C:=C) (kb:=none) hM hB.os hB.tape hB.output hB.size (fun k hk=>hB.block k hk)
  rcases o2 with ⟨_,e⟩ | ⟨g2,N1,cur,rfl,r1,r2,r3,r4,r5,r6⟩
  ·cases e
  refine ⟨_,rfl,_,f1,m1,.p _ _ (.sl 1 [aB a] _ N1 (fun _ => .int .i64 a) r3 r4 (fun i hi => ?_) (fun i hi => ?_) (fun i hi=>rfl))⟩
  ·have:i=0:=by simpa using hi
   subst this;have hl:g2<w'.heap.size:=(mD.1 r2).1;refine ⟨g2,0,rfl,.inr ⟨r1,hl,by simp⟩,?_⟩
   unfold World.cell?;rw [show (0+0:Nat)=0 from rfl,r2]
   simp only [Option.isSome_none];have h6:=congrArg (fun l:List Value=>l[0]?) r6
   have hc:0<cur.size:=by rw [r5];omega
   simpa [List.getElem?_take,hc] using h6
  ·have:i=0:=by simpa using hi
   subst this;exact .v _
end KV
end Go.Proofs
end
namespace Go.Proofs
namespace KV
open Tryz
section
variable {x:Lqq}{i j q j' q':Nat}

noncomputable abbrev aLp:Code:=sub (cd Tryz.f20) [1,0,1,0,0]
noncomputable abbrev aTf:Code:=pS (cd Tryz.f20) 8 [0,1,0,0]
noncomputable abbrev bJa:Code:=pS (cd Tryz.f20) 6 [0,1,0,0]
theorem aTg:((0:Int) != 0)=false:=by first | decide | simp
def ixE(l:List Int):List PV:=[bM l]
def aCi(k:Int)(L:List Chg):List (Value × PV):=L.map fun c=>(iS k (crM c),.agg [aN c.1,aN c.2])
abbrev iV:=aCi 0
def kH(R A B:List (List Cel))(q:Nat):St:=⟨fr 132 [(3,(.ptr 0 0)),(4,(.ptr 1 0)),(5,(.ptr 2 0)),(6,(.ptr 3 0)),(30,(.p (.agg [(aB 0),(.sl R.length (R.map aN)),(aB 0),(.sl A.length (A.map aN)),(aB 0),(.sl B.length (B.map aN))]))),(31,(pI (q:Int)))],[some (.box 26 [(pI 0),(.p (.sl R.length (R.map aN)))]),some (.box 26 [(pI 0),(.p (.sl A.length (A.map aN)))]),some (.box 26 [(pI 0),(.p (.sl B.length (B.map aN)))]),some (.box 26 [(pI 0),(.p bO)])]⟩
def qQ(R A B:List (List Cel))(i:Nat)(me:List (Value × PV))(mk:Nat):St:=⟨fr 132 [(3,(.ptr 0 0)),(5,(.ptr 1 0)),(6,(.ptr 2 0)),(12,(pI 0)),(14,(pI 1)),(15,(.mp 3)),(16,(.p (.sl ((dfM 0 R A).length) (((dfM 0 R A).map chE).flatten)))),(65,(.p (.sl ((dfM 0 R A).length) (((dfM 0 R A).map chE).flatten)))),(66,(pI ((dfM 0 R A).length:Int))),(67,(pI (i:Int)))],[some (.box 26 [(pI 0),(.p (.sl R.length (R.map aN)))]),some (.box 26 [(pI 0),(.p (.sl B.length (B.map aN)))]),some (.box 26 [(pI 0),(.p bO)]),some (.mp me mk)]⟩
def mQ(R B:List (List Cel))(Dr:List (List Cel × List Cel))(j xn:Nat)(xc:List PV):St:=⟨fr 132 [(3,(.ptr 0 0)),(6,(.ptr 1 0)),(12,(pI 0)),(14,(pI 1)),(15,(.mp 2)),(19,(.own 3)),(80,(.p (.sl ((dfM 0 R B).length) (((dfM 0 R B).map chE).flatten)))),(81,(pI ((dfM 0 R B).length:Int))),(82,(pI (j:Int)))],[some (.box 26 [(pI 0),(.p (.sl R.length (R.map aN)))]),some (.box 26 [(pI 0),(.p bO)]),some (.mp (iV Dr) Dr.length),some (.row 68 xn xc)]⟩
theorem bZu{R A B:List (List Cel)}{Hf Qo:Nat}{Dr:List (List Cel × List Cel)}{Qp:Nat}{Kx:Lqq}(hl0:aF Tp 0 aLp (kH R A B 0) (.exit 0) (kH R A B Hf))(Lw:fZ 0 R)(I5:fZ 0 A)(Ns:(dfL 0 R A).length≤12)(Ny:1≤(dfL 0 R A).length)(C5:aF Tp 0 bJa (qQ R A B 0 [] 0) (.exit 2) (qQ R A B Qo (iV Dr) Dr.length))(Qq:fZ 0 B)(Qr:(dfL 0 R B).length≤12)(Qs:1≤(dfL 0 R B).length)(Ky:aF Tp 0 aTf (mQ R B Dr 0 0 []) (.exit 4) (mQ R B Dr Qp Kx.length ((Kx.map ixE).flatten)))(A5:(0:Int)<(Kx.length:Int)):FMM Tp 20 [(.p (.agg [(aB 0),(.sl R.length (R.map aN))])),(.p (.agg [(aB 0),(.sl A.length (A.map aN))])),(.p (.agg [(aB 0),(.sl B.length (B.map aN))]))] [] (.tup [(.p (.agg [(aB 0),bO])),(.p (.sl Kx.length ((Kx.map ixE).flatten))),(pI 0)]) []:=have k1:=fk 5 (FV.frz (aQh Lw I5 Ns Ny) rfl) rfl;have k2:=fk 4 (FV.frz (aQh Lw Qq Qr Qs) rfl) rfl;FMM.fi 0 ⟨[],[],[3],[]⟩ func20 ([hl0.k 6 (gI av cj)]++rF 7++[.c (.tup [(.p (.sl 3 [(aB 0),(aB 1),(aB 0)])),(pI 1)]) [],k1.o,C5.k 4 (gI ah [0,2,3,4]),k2.o,Ky.k 1 (gN ai [0,2,3,4] [(19,68)]),bT]) (gc (cP A5) (gc Ky.code (gc k2 (gc C5.code (gc k1 (gt (FC Tp 103 [(pI 0)] [] 4 (.tup [(.p (.sl 3 [(aB 0),(aB 1),(aB 0)])),(pI 1)]) []) (FV.fc (bHj rfl) rfl) (Js aTg (gc hl0.code gn))))))))
theorem bBf{R A B:List (List Cel)}(Ar:q=0)(E5:dW 0 R=0)(D7:q'=1):aA Tp 0 aLp (kH R A B q) .normal (kH R A B q'):=by
 subst Ar;subst D7;exact aA.fi (gI av cj) [bT,.c (pI 0) [],bF] (gt (inR 1) (by show _∧_;omega) (gc aTg (gc (fk 5 (aHp 0 R E5) rfl) (gt (0+2≤[(aB 0),(.sl R.length (R.map aN)),(aB 0),(.sl A.length (A.map aN)),(aB 0),(.sl B.length (B.map aN))].length) (by first | decide | simp) (gt (0≤(0:Int)∧(0:Int)<3) (by first | decide | simp) (gt ((decide ((0:Int)<3))=true) (by first | decide | simp) gn))))))
theorem bBg{R A B:List (List Cel)}(Ar:q=1)(E5:dW 0 A=0)(D7:q'=2):aA Tp 0 aLp (kH R A B q) .normal (kH R A B q'):=by
 subst Ar;subst D7;exact aA.fi (gI av cj) [bT,.c (pI 0) [],bF] (gt (inR 2) (by show _∧_;omega) (gc aTg (gc (fk 5 (aHp 0 A E5) rfl) (gt (2+2≤[(aB 0),(.sl R.length (R.map aN)),(aB 0),(.sl A.length (A.map aN)),(aB 0),(.sl B.length (B.map aN))].length) (by first | decide | simp) (gt (0≤(1:Int)∧(1:Int)<3) (by first | decide | simp) (gt ((decide ((1:Int)<3))=true) (by first | decide | simp) gn))))))
theorem bBh{R A B:List (List Cel)}(Ar:q=2)(E5:dW 0 B=0)(D7:q'=3):aA Tp 0 aLp (kH R A B q) .normal (kH R A B q'):=by
 subst Ar;subst D7;exact aA.fi (gI av cj) [bT,.c (pI 0) [],bF] (gt (inR 3) (by show _∧_;omega) (gc aTg (gc (fk 5 (aHp 0 B E5) rfl) (gt (4+2≤[(aB 0),(.sl R.length (R.map aN)),(aB 0),(.sl A.length (A.map aN)),(aB 0),(.sl B.length (B.map aN))].length) (by first | decide | simp) (gt (0≤(2:Int)∧(2:Int)<3) (by first | decide | simp) (gt ((decide ((2:Int)<3))=true) (by first | decide | simp) gn))))))
theorem bBi{R A B:List (List Cel)}(Ar:q=3)(D7:q'=3):aA Tp 0 aLp (kH R A B q) (.exit 0) (kH R A B q'):=by
 subst Ar;subst D7;exact aA.fi (gI av cj) [bF] (gt ((decide ((3:Int)<3))=false) (by first | decide | simp) gn)
theorem bBj{R A B:List (List Cel)}{m:List (List Cel × List Cel)}{Az A0:List Cel}{i':Nat}{m':List (List Cel × List Cel)}(h0:(i:Int)<((dfM 0 R A).length:Int))(h1:(dfM 0 R A)[i]? = some (Az,A0))(h2:aO (0:Int)≤((crM (Az,A0)).length:Int))(h3:eM Tp 186 (iV m) (k3V (aK 0 (crM (Az,A0)) 0) (aK 0 (crM (Az,A0)) 1) (aK 0 (crM (Az,A0)) 2)))(h4:(gW (iV m) (k3V (aK 0 (crM (Az,A0)) 0) (aK 0 (crM (Az,A0)) 1) (aK 0 (crM (Az,A0)) 2)))=false)(h5:cn i)(Aj:i'=(i+1))(E1:iV m'=((iV m)++[((k3V (aK 0 (crM (Az,A0)) 0) (aK 0 (crM (Az,A0)) 1) (aK 0 (crM (Az,A0)) 2)),(.agg [(.sl Az.length ((Az.map cE).flatten)),(.sl A0.length ((A0.map cE).flatten))]))]))(E2:m'.length=(m.length+1)):aA Tp 0 bJa (qQ R A B i (iV m) m.length) .normal (qQ R A B i' (iV m') m'.length):=by
 subst Aj;have k1:=fk 5 (mT (Az,A0).1 (Az,A0).2) rfl;have k2:=fk 13 (eH 0 (crM (Az,A0)) h2) rfl;rw [E1,E2];exact aA.fi (gI ah cj) [bT,.x (.agg [(.sl Az.length ((Az.map cE).flatten)),(.sl A0.length ((A0.map cE).flatten))]),k1.o,k2.o,bF] (gc h5 (gc h4 (gc h3 (gc k2 (gc k1 (gc (bG (E:=chE) (i:=i) (k:=2) (fun _=>rfl) h1 rfl) (gc (cG (E:=chE) (i:=i) (k:=2) (fun _=>rfl) h1) (gc (bC (E:=chE) (k:=2) (i:=(i:Int)) (fun _=>rfl) (by decide) (Bu _) h1) (g0 h0)))))))))
theorem bBk{R A B:List (List Cel)}{m:List (List Cel × List Cel)}(h0:((dfM 0 R A).length:Int)≤(i:Int)):aA Tp 0 bJa (qQ R A B i (iV m) m.length) (.exit 2) (qQ R A B i (iV m) m.length):=aA.fi (gI ah cj) [bF] (gc (bL h0) gn)
section
variable{R B:List (List Cel)}{Dr:List (List Cel × List Cel)}{Au Ao:List Cel}{B2:Chg}(h0:(j:Int)<((dfM 0 R B).length:Int))(h1:(dfM 0 R B)[j]? = some (Au,Ao))(h2:aO (0:Int)≤((crM (Au,Ao)).length:Int))(h3:eM Tp 186 (iV Dr) (k3V (aK 0 (crM (Au,Ao)) 0) (aK 0 (crM (Au,Ao)) 1) (aK 0 (crM (Au,Ao)) 2)))(h4:(gW (iV Dr) (k3V (aK 0 (crM (Au,Ao)) 0) (aK 0 (crM (Au,Ao)) 1) (aK 0 (crM (Au,Ao)) 2)))=true)(h5:gS (iV Dr) (k3V (aK 0 (crM (Au,Ao)) 0) (aK 0 (crM (Au,Ao)) 1) (aK 0 (crM (Au,Ao)) 2))=some (.agg [(.sl B2.1.length ((B2.1.map cE).flatten)),(.sl B2.2.length ((B2.2.map cE).flatten))]))(H9:B2.2.length≤100000)
include h0 h1 h2 h3 h4 h5 H9
theorem bBl{x':Lqq}(h7:(decide (B2.2=Ao))=false)(h8:[(PV.sl 1 [(aB (aK 0 (crM (Au,Ao)) 0))])].length=1*1∧x.length+1≤1000000)(h9:cn j)(Bw:j'=(j+1))(Nz:x'.length=(x.length+1))(N0:(x'.map ixE).flatten=(((x.map ixE).flatten)++[(PV.sl 1 [(aB (aK 0 (crM (Au,Ao)) 0))])])):aA Tp 0 aTf (mQ R B Dr j x.length ((x.map ixE).flatten)) .normal (mQ R B Dr j' x'.length ((x'.map ixE).flatten)):=by
 subst Bw;have k1:=fk 5 (mT (Au,Ao).1 (Au,Ao).2) rfl;have k2:=fk 5 (eH 0 (crM (Au,Ao)) h2) rfl;have k3:=fk 7 (pZ B2.2 Ao H9) rfl;have k4:=mq [5] 7 (bZv (aK 0 (crM (Au,Ao)) 0) (aK 0 (crM (Au,Ao)) 1) (aK 0 (crM (Au,Ao)) 2));rw [Nz,N0];exact aA.fi (gI ai [0,1,2,8]) [bT,.x (.agg [(.sl Au.length ((Au.map cE).flatten)),(.sl Ao.length ((Ao.map cE).flatten))]),k1.o,k2.o,bT,.x (.agg [(.sl B2.1.length ((B2.1.map cE).flatten)),(.sl B2.2.length ((B2.2.map cE).flatten))]),k3.o,bT,k4.o] (gc h9 (gc h8 (gc k4 (gt (0≤(0:Int)∧(0:Int)≤1∧(1:Int)≤3∧3≤maxLen) (by unfold maxLen;omega) (gc (dB h7) (gc k3 (gc h5 (gc h4 (gc h3 (gc k2 (gc k1 (gc (bG (E:=chE) (i:=j) (k:=2) (fun _=>rfl) h1 rfl) (gc (cG (E:=chE) (i:=j) (k:=2) (fun _=>rfl) h1) (gc (bC (E:=chE) (k:=2) (i:=(j:Int)) (fun _=>rfl) (by decide) (Bu _) h1) (g0 h0)))))))))))))))
theorem bBm(h7:(decide (B2.2=Ao))=true)(h8:cn j)(Bw:j'=(j+1)):aA Tp 0 aTf (mQ R B Dr j x.length ((x.map ixE).flatten)) .normal (mQ R B Dr j' x.length ((x.map ixE).flatten)):=by
 subst Bw;have k1:=fk 5 (mT (Au,Ao).1 (Au,Ao).2) rfl;have k2:=fk 5 (eH 0 (crM (Au,Ao)) h2) rfl;have k3:=fk 7 (pZ B2.2 Ao H9) rfl;exact aA.fi (gI ai cj) [bT,.x (.agg [(.sl Au.length ((Au.map cE).flatten)),(.sl Ao.length ((Ao.map cE).flatten))]),k1.o,k2.o,bT,.x (.agg [(.sl B2.1.length ((B2.1.map cE).flatten)),(.sl B2.2.length ((B2.2.map cE).flatten))]),k3.o,bF] (gc h8 (gc (aU h7) (gc k3 (gc h5 (gc h4 (gc h3 (gc k2 (gc k1 (gc (bG (E:=chE) (i:=j) (k:=2) (fun _=>rfl) h1 rfl) (gc (cG (E:=chE) (i:=j) (k:=2) (fun _=>rfl) h1) (gc (bC (E:=chE) (k:=2) (i:=(j:Int)) (fun _=>rfl) (by decide) (Bu _) h1) (g0 h0))))))))))))
end
theorem bBn{R B:List (List Cel)}{Dr:List (List Cel × List Cel)}(h0:((dfM 0 R B).length:Int)≤(j:Int)):aA Tp 0 aTf (mQ R B Dr j x.length ((x.map ixE).flatten)) (.exit 4) (mQ R B Dr j x.length ((x.map ixE).flatten)):=aA.fi (gI ai cj) [bF] (gc (bL h0) gn)
end
end KV
end Go.Proofs
section
namespace Go.Proofs
open Go.RowKit
namespace KV
open Tryz
set_option maxRecDepth 1000000
def sB(k:Int)(L:List Chg)(r:List Cel):Option Chg:=L.find? fun c=>decide (Av k (crM c)=Av k r)
theorem bIy(k:Int)(L:List Chg)(r:List Cel):gW (aCi k L) (iS k r)=(sB k L r).isSome:=by
 unfold gW aCi sB;rw [List.any_map,Bool.eq_iff_iff,List.find?_isSome,List.any_eq_true];rfl
theorem bOt(k:Int)(L:List Chg)(r:List Cel):gS (aCi k L) (iS k r)=(sB k L r).map fun c => .agg [aN c.1,aN c.2]:=by
 unfold gS aCi sB;rw [List.find?_map];have e:((fun e:Value × PV=>decide (kB e.1=kB (iS k r))) ∘ fun c:Chg=>(iS k (crM c),PV.agg [aN c.1,aN c.2]))=fun c=>decide (Av k (crM c)=Av k r):=rfl
 rw [e];cases List.find? (fun c:Chg=>decide (Av k (crM c)=Av k r)) L <;> rfl
structure aTd (k:Int) (L:List Chg):Prop where
 n:L.length≤400
 kk:∀ x∈L,aO k≤((crM x).length:Int)
 ky:∀ x∈L,kN k (crM x)
 nd:(L.map fun c=>Av k (crM c)).Nodup
 len:∀ x∈L,x.2.length≤1000
theorem aTe{k:Int}{L:List Chg}{r:List Cel}(h:∀ x∈L,kN k (crM x))(hn:(L.map fun c=>Av k (crM c)).Nodup)(hr:kN k r):eM Tp 186 (aCi k L) (iS k r):=by
 refine ⟨Eb,fun e he => ?_,kW hr,fun e he h => ?_,?_⟩
 ·obtain ⟨x,hx,rfl⟩:=sY.1 he
  exact kW (h x hx)
 ·obtain ⟨x,hx,rfl⟩:=sY.1 he
  exact aHv h
 ·unfold aCi
  rw [xW];exact hn
def Gz(L:List Chg)(c:Chg):Option (List Int):=match sB 0 L (crM c) with
 | some o=>if o.2=c.2 then none else some [aK 0 (crM c) 0]
 | none=>none
theorem bIz(L:Lqq)(x:List Int):((L++[x]).map ixE).flatten=(L.map ixE).flatten++[bM x]:=by simp [ixE]
theorem bZt{R A B:List (List Cel)}(cR:dW 0 R=0)(cA:dW 0 A=0)(cB:dW 0 B=0)(hR:fZ 0 R)(hA:fZ 0 A)(hB:fZ 0 B)(Qm:(dfL 0 R A).length≤12)(a1:1≤(dfL 0 R A).length)(Qn:(dfL 0 R B).length≤12)(b1:1≤(dfL 0 R B).length)
  (hF:aTd 0 (dfM 0 R A)) (hG:aTd 0 (dfM 0 R B)) (hm:∀ c∈dfM 0 R B,(sB 0 (dfM 0 R A) (crM c)).isSome=true) (h1:0<((dfM 0 R B).filterMap (Gz (dfM 0 R A))).length) :
  FMM Tp 20 [.p (.agg [aB 0,cD R]),.p (.agg [aB 0,cD A]),.p (.agg [aB 0,cD B])] [] (.tup [.p (.agg [aB 0,bO]),.p (.sl ((dfM 0 R B).filterMap (Gz (dfM 0 R A))).length ((((dfM 0 R B).filterMap (Gz (dfM 0 R A))).map ixE).flatten)),.p (aB 0)]) []:=by
 have hFn:=hF.n;have hGn:=hG.n;have L0:aF Tp 0 (sub (cd Tryz.f20) bz) (kH R A B 0) (.exit 0) (kH R A B 3) := .step (bBf rfl cR rfl) (.step (bBg rfl cA rfl) (.step (bBh rfl cB rfl) (.exit (bBi rfl rfl) (by simp))))
 have L1:=aF.count (P:=Tp) (k:=0) (b:=(sub (cd Tryz.f20) ba)) (e := .exit 2) (R:=qQ R A B (dfM 0 R A).length (iV (dfM 0 R A)) (dfM 0 R A).length) (dfM 0 R A).length
  (fun i=>qQ R A B i (iV ((dfM 0 R A).take i)) ((dfM 0 R A).take i).length)
  (fun i hi=>by
   have hx:(dfM 0 R A)[i]? = some (dfM 0 R A)[i]:=B3 hi;have et:(dfM 0 R A).take (i+1)=(dfM 0 R A).take i++[(dfM 0 R A)[i]]:=by rw [List.take_add_one,hx];rfl
   have hc:=gX hi;have hnt:(((dfM 0 R A).take i).map fun c=>Av 0 (crM c)).Nodup:=by rw [List.map_take];exact hF.nd.sublist (List.take_sublist i _)
   have hno:sB 0 ((dfM 0 R A).take i) (crM (dfM 0 R A)[i])=none:=by
    unfold sB;rw [List.find?_eq_none];intro y hy hd;obtain ⟨j,hj,e⟩:=List.mem_iff_getElem.1 hy;rw [vV] at hj
    rw [List.getElem_take] at e
    have hd:=of_decide_eq_true hd;rw [← e] at hd
    have:=List.pairwise_iff_getElem.1 hF.nd j i (by rw [mE];omega) (by rw [mE];omega) (by omega)
    rw [gY,gY] at this
    exact this hd
   have hK:=aTe (r:=crM (dfM 0 R A)[i]) (fun x hx=>hF.ky x (List.mem_of_mem_take hx)) hnt (hF.ky _ hc)
   have hhit:=bIy 0 ((dfM 0 R A).take i) (crM (dfM 0 R A)[i]);rw [hno] at hhit
   exact bBj (Az:=(dfM 0 R A)[i].1) (A0:=(dfM 0 R A)[i].2) (m:=(dfM 0 R A).take i) (m':=(dfM 0 R A).take (i+1)) (by omega) hx (hF.kk _ hc) hK hhit (aV (by omega)) rfl (by rw [et];show aCi 0 _=aCi 0 _++_;unfold aCi;rw [pT];rfl) (by simp;omega))
  (by rw [List.take_length];exact bBk (by omega)) (by simp)
 have L2:=aF.count (P:=Tp) (k:=0) (b:=(sub (cd Tryz.f20) [1,1,1,1,1,1,1,1,0,1,0,0])) (e := .exit 4) (R:=mQ R B (dfM 0 R A) (dfM 0 R B).length ((dfM 0 R B).filterMap (Gz (dfM 0 R A))).length ((((dfM 0 R B).filterMap (Gz (dfM 0 R A))).map ixE).flatten)) (dfM 0 R B).length
  (fun j=>mQ R B (dfM 0 R A) j (((dfM 0 R B).take j).filterMap (Gz (dfM 0 R A))).length (((((dfM 0 R B).take j).filterMap (Gz (dfM 0 R A))).map ixE).flatten))
  (fun j hj=>by
   have hx:(dfM 0 R B)[j]? = some (dfM 0 R B)[j]:=B3 hj;have hc:=gX hj;have hfl:=aBq (Gz (dfM 0 R A)) (dfM 0 R B) j;rw [vE (Gz (dfM 0 R A)) hx];have hmt:=hm _ hc;have kk:=hG.kk _ hc;have ky:=hG.ky _ hc;generalize (dfM 0 R B)[j]=c at hx hc hmt kk ky
   have hK:=aTe (r:=crM c) hF.ky hF.nd ky;have hhit:=bIy 0 (dfM 0 R A) (crM c);have hlook:=bOt 0 (dfM 0 R A) (crM c);have hfx:Gz (dfM 0 R A) c=match sB 0 (dfM 0 R A) (crM c) with | some o=>if o.2=c.2 then none else some [aK 0 (crM c) 0] | none=>none:=rfl
   rw [hfx];generalize ((dfM 0 R B).take j).filterMap (Gz (dfM 0 R A))=x at hfl
   cases hlk:sB 0 (dfM 0 R A) (crM c) with
   | none=>rw [hlk] at hmt;cases hmt
   | some o =>
    rw [hlk] at hhit hlook
    have ho:=hF.len o (bLh hlk);dsimp only
    by_cases he:o.2=c.2
    ·rw [if_pos he,Option.toList_none,List.append_nil]
     exact bBm (Au:=c.1) (Ao:=c.2) (by omega) hx kk hK hhit hlook (by omega) (by simp [he]) (aV (by omega)) rfl
    ·rw [if_neg he]
     exact bBl (Au:=c.1) (Ao:=c.2) (x':=x++[[aK 0 (crM c) 0]]) (by omega) hx kk hK hhit hlook (by omega) (by simp [he]) ⟨rfl,by omega⟩ (aV (by omega)) rfl (by simp) (bIz x _))
  (by rw [List.take_length];exact bBn (by omega)) (by simp)
 exact bZu L0 hR hA Qm a1 L1 hB Qn b1 L2 (by omega)
end KV
end Go.Proofs
end
namespace Go.Proofs
namespace KV
open Tryz
section
variable {z Jj:Int}{i n rn Lv Lu pos base:Nat}{g:PV}

noncomputable abbrev aSy:Code:=pS (cd Tryz.f165) 6 [0,1,0,0]
noncomputable abbrev aSz:Code:=sub (cd Tryz.f165) [1,1,1,0,1,0,0,1,1]
noncomputable abbrev bRn:Code:=sub (cd Tryz.f165) [1,1,1,0]
theorem bRo:0≤(0:Int)∧(0:Int)≤32∧(32:Int)≤1000000:=by first | decide | simp
theorem bZm{cs:List UInt8}{r:Nat}{r0:Bool}(h0:r<128)(Al:r0=(aBk cs r)):FV Tp 164 [(.p (aD cs)),(.p (.v (.int .i32 (r:Int))))] base (pB r0) []:=by
 subst Al;exact FV.fi func164 [.c (pB (aBk cs r)) []] (gc (fk 0 (bZp cs r h0) rfl) gn)
theorem aHn(cs:List UInt8)(r:Nat)(h:r<128){v:Bool}(hv:aBk cs r=v){base:Nat}:FV Tp 164 [.p (aD cs),.p (.v (.int .i32 (r:Int)))] base (pB v) []:=bZm (r0:=v) h hv.symm
def spE(x:Int × Int):List PV:=[aB x.1,aB x.2]
def tF(s cs:List UInt8)(pn:Nat)(pc:List PV)(z:Int):St:=⟨fr 65 [(0,(.p (aD s))),(1,(.fn 164 [(.p (aD cs))] [])),(4,(.p bO)),(5,(.own 0)),(6,(pI z))],[some (.row 302 pn pc)]⟩
def mO(s:List UInt8)(n i qn:Nat)(qc:List PV)(rn:Nat)(rc:List PV):St:=⟨fr 65 [(0,(.p (aD s))),(4,(.p bO)),(9,(.own 1)),(47,(.own 0)),(48,(pI (n:Int))),(49,(pI (i:Int)))],[some (.row 302 qn qc),some (.row 9 rn rc)]⟩
section
variable{s cs:List UInt8}{Dx:List (Int × Int)}(hl0:aA Tp 0 bRn (tF s cs 0 [] (-1)) .normal (tF s cs Dx.length ((Dx.map spE).flatten) Jj))
include hl0
theorem bZn{Ji:List (Int × Int)}{Hl:List (List UInt8)}(h1:(0:Int)≤Jj)(h2:[(aB Jj),(aB (s.length:Int))].length=1*2∧Dx.length+1≤1000000)(h3:0≤(((Dx.length+1):Nat):Int)∧(((Dx.length+1):Nat):Int)≤(((Dx.length+1):Nat):Int)∧(((Dx.length+1):Nat):Int)≤1000000)(Fb:aF Tp 0 aSy (mO s (Dx.length+1) 0 (Dx.length+1) (((Dx.map spE).flatten)++[(aB Jj),(aB (s.length:Int))]) (Dx.length+1) (List.replicate (Dx.length+1) (aD ([]:List UInt8)))) (.exit 2) (mO s Lu Lv Ji.length ((Ji.map spE).flatten) Hl.length ((Hl.map stE).flatten))):FV Tp 165 [(.p (aD s)),(.fn 164 [(.p (aD cs))] [])] base (.own base) [(base,(.row 9 Hl.length ((Hl.map stE).flatten)))]:=FV.fi func165 [hl0.k 7 (gI [2,2,7,2,12,23] [0]),bT,Fb.k 7 (gI bb [2,3])] (gc Fb.code (gc h3 (gc h2 (gt ([(aB Jj),(aB (s.length:Int))].length=2) (by first | decide | simp) (gc (mB h1) (gc hl0 (gc bRo gn)))))))
theorem bZo{Ji:List (Int × Int)}{Hl:List (List UInt8)}(h1:Jj<(0:Int))(h2:0≤(Dx.length:Int)∧(Dx.length:Int)≤(Dx.length:Int)∧(Dx.length:Int)≤1000000)(Ei:aF Tp 0 aSy (mO s Dx.length 0 Dx.length ((Dx.map spE).flatten) Dx.length (List.replicate Dx.length (aD ([]:List UInt8)))) (.exit 2) (mO s Lu Lv Ji.length ((Ji.map spE).flatten) Hl.length ((Hl.map stE).flatten))):FV Tp 165 [(.p (aD s)),(.fn 164 [(.p (aD cs))] [])] base (.own base) [(base,(.row 9 Hl.length ((Hl.map stE).flatten)))]:=FV.fi func165 [hl0.k 7 (gI [2,2,7,2,12,23] [0]),bF,Ei.k 6 (gI bb [0,1])] (gc Ei.code (gc h2 (gc (eJ h1) (gc hl0 (gc bRo gn)))))
end
theorem bAw{s:List UInt8}{q:List (Int × Int)}{r:List (List UInt8)}{Bm Bj:Int}{i':Nat}{r':List (List UInt8)}(h0:(i:Int)<(n:Int))(h1:0≤(i:Int)∧(i:Int)<(q.length:Int))(h2:q[i]? = some (Bm,Bj))(h3:0≤Bm∧Bm≤Bj∧Bj≤(s.length:Int))(h4:0≤(i:Int)∧(i:Int)<(r.length:Int))(h5:(i*1)<((r.map stE).flatten).length)(h6:cn i)(Aj:i'=(i+1))(Dh:r'.length=r.length)(Di:(r'.map stE).flatten=(((r.map stE).flatten).set (i*1) (aD ((s.drop Bm.toNat).take (Bj.toNat-Bm.toNat))))):aA Tp 0 aSy (mO s n i q.length ((q.map spE).flatten) r.length ((r.map stE).flatten)) .normal (mO s n i' q.length ((q.map spE).flatten) r'.length ((r'.map stE).flatten)):=by
 subst Aj;rw [Dh,Di];exact aA.fi (gI bb [0,1]) [bT,.x (.agg [(aB Bm),(aB Bj)])] (gc h6 (gc h5 (gc h4 (gc h3 (gc (bG (E:=spE) (i:=i) (k:=2) (fun _=>rfl) h2 rfl) (gc (cG (E:=spE) (i:=i) (k:=2) (fun _=>rfl) h2) (gc h1 (g0 h0))))))))
theorem bAx{s:List UInt8}{q:List (Int × Int)}{r:List (List UInt8)}(h0:(n:Int)≤(i:Int)):aA Tp 0 aSy (mO s n i q.length ((q.map spE).flatten) r.length ((r.map stE).flatten)) (.exit 2) (mO s n i q.length ((q.map spE).flatten) r.length ((r.map stE).flatten)):=aA.fi (gI bb [0,1]) [bF] (gc (bL h0) gn)
def mP(s cs:List UInt8)(g:PV)(pos rn pn:Nat)(pc:List PV)(z:Int):St:=⟨fr 65 [(0,(.p (aD s))),(1,(.fn 164 [(.p (aD cs))] [])),(4,(.p bO)),(5,(.own 0)),(6,(pI z)),(14,(.p g)),(15,(.tup [(pB true),(pI (pos:Int)),(.p (.v (.int .i32 (rn:Int))))])),(16,(pB true))],[some (.row 302 pn pc)]⟩
def bIu(s cs:List UInt8)(g:PV)(pos rn:Nat)(p:List (Int × Int))(z y:Int):St:=⟨fr 65 [(0,(.p (aD s))),(1,(.fn 164 [(.p (aD cs))] [])),(4,(.p bO)),(5,(.own 2)),(6,(pI y)),(7,(pI (pos:Int))),(8,(.p (.v (.int .i32 (rn:Int))))),(14,(.p g)),(15,(.tup [(pB true),(pI (pos:Int)),(.p (.v (.int .i32 (rn:Int))))])),(16,(pB true)),(17,(pI (pos:Int))),(18,(.p (.v (.int .i32 (rn:Int))))),(19,(.fn 164 [(.p (aD cs))] [])),(20,(.p (.v (.int .i32 (rn:Int))))),(21,(pB true)),(22,(pI z)),(23,(pB (decide (z ≥ 0)))),(24,(.own 0)),(25,(pI z)),(26,(pI (pos:Int))),(27,(.p (.agg [(aB z),(aB (pos:Int))]))),(28,(.own 1)),(29,(.own 2))],[some .dead,some (.row 302 1 [(aB z),(aB (pos:Int))]),some (.row 302 (p.length+1) (((p.map spE).flatten)++[(aB z),(aB (pos:Int))]))]⟩
theorem bAy{s cs:List UInt8}{p:List (Int × Int)}{Ir:Int}{p':List (Int × Int)}(h0:rn<128)(C3:aBk cs rn=true)(h2:(0:Int)≤z)(h3:[(aB z),(aB (pos:Int))].length=1*2∧p.length+1≤1000000)(Fb:aA Tp 0 (sub (cd Tryz.f165) [1,1,1,0,1,0,0,1,1,0,1,1,0,1,0,1]) (bIu s cs g pos rn p z z) .normal (bIu s cs g pos rn p z Ir))(Nw:p'.length=(p.length+1))(Nx:(p'.map spE).flatten=(((p.map spE).flatten)++[(aB z),(aB (pos:Int))])):aA Tp 0 aSz (mP s cs g pos rn p.length ((p.map spE).flatten) z) .normal (mP s cs g pos rn p'.length ((p'.map spE).flatten) Ir):=by
 rw [Nw,Nx];exact aA.fi (gI bg [2]) [.c (pB true) [],bT,bT,Fb.k 2 ⟨[2,3,12,13,30,31],[0,1,2],[],[]⟩] (gc Fb (gc h3 (gt ([(aB z),(aB (pos:Int))].length=2) (by first | decide | simp) (gc (mB h2) (gt (true=true) rfl (gc (fk 1 (aHn cs rn h0 C3) rfl) gn))))))
theorem bAz{s cs:List UInt8}{p:List (Int × Int)}(h0:rn<128)(C3:aBk cs rn=true)(h2:z<0):aA Tp 0 aSz (mP s cs g pos rn p.length ((p.map spE).flatten) z) .normal (mP s cs g pos rn p.length ((p.map spE).flatten) z):=aA.fi (gI bg [0]) [.c (pB true) [],bT,bF] (gc (eJ h2) (gt (true=true) rfl (gc (fk 1 (aHn cs rn h0 C3) rfl) gn)))
theorem bBa{s cs:List UInt8}{p:List (Int × Int)}{z':Int}(h0:rn<128)(C3:aBk cs rn=false)(h2:z<0)(Kj:z'=(pos:Int)):aA Tp 0 aSz (mP s cs g pos rn p.length ((p.map spE).flatten) z) .normal (mP s cs g pos rn p.length ((p.map spE).flatten) z'):=by
 subst Kj;exact aA.fi (gI bg [0]) [.c (pB false) [],bF,bT] (gc (cP h2) (gf (gc (fk 1 (aHn cs rn h0 C3) rfl) gn)))
theorem bBb{s cs:List UInt8}{p:List (Int × Int)}(h0:rn<128)(C3:aBk cs rn=false)(h2:(0:Int)≤z):aA Tp 0 aSz (mP s cs g pos rn p.length ((p.map spE).flatten) z) .normal (mP s cs g pos rn p.length ((p.map spE).flatten) z):=aA.fi (gI bg [0]) [.c (pB false) [],bF,bF] (gc (bL h2) (gf (gc (fk 1 (aHn cs rn h0 C3) rfl) gn)))
end
end KV
end Go.Proofs
section
namespace Go.Proofs
open Go.RowKit
namespace KV
open Tryz
theorem aSx{α β:Type}{Inv:Nat→β→Prop}{f:β→α→β}{b0:β}{L:List α}(h0:Inv 0 b0)(hs:∀ (i:Nat) (x:α) (b:β),L[i]? = some x→Inv i b→Inv (i+1) (f b x)):∀ n,n≤L.length→Inv n ((L.take n).foldl f b0)
 | 0,_=>h0
 | n+1,h=>by
  have hx:L[n]? = some L[n]:=B3 (by omega)
  rw [List.take_add_one,hx,List.foldl_append];exact hs n _ _ hx (aSx h0 hs n (by omega))
abbrev FSt:=List (Int × Int) × Int
def lJ(cs:List UInt8)(x:FSt)(q:Nat × Nat):FSt:=if aBk cs q.2 then (if 0≤x.2 then (x.1++[(x.2,(q.1:Int))],-1-x.2) else x) else (if x.2<0 then (x.1,(q.1:Int)) else x)
def aHl:FSt:=([],-1)
def bIr(s:List UInt8)(x:FSt):List (Int × Int):=if 0≤x.2 then x.1++[(x.2,(s.length:Int))] else x.1
def bZk(cs s:List UInt8):List (Int × Int):=bIr s ((gF 0 s).foldl (lJ cs) aHl)
def aBj(s:List UInt8)(x:Int × Int):List UInt8:=(s.drop x.1.toNat).take (x.2.toNat-x.1.toNat)
def aLn(cs s:List UInt8):List (List UInt8):=(bZk cs s).map (aBj s)
theorem wL:∀ (l:List UInt8) (j i:Nat) (x:Nat × Nat),(gF j l)[i]? = some x→x.1=j+i∧i<l.length∧∃ b∈l,x.2=b.toNat
 | [],_,_,_,h=>by cases h
 | b::r,j,0,x,h=>by
  cases h;exact ⟨rfl,by simp,b,by simp,rfl⟩
 | b::r,j,i+1,x,h=>by
  obtain ⟨h1,h2,b',h3,h4⟩:=wL r (j+1) i x h;exact ⟨by omega,by simp;omega,b',by simp [h3],h4⟩
theorem tE:∀ (l:List UInt8) (j:Nat),(gF j l).length=l.length
 | [],_=>rfl
 | _::r,j=>by simp [gF,tE r (j+1)]
structure bZl (N i:Nat) (x:FSt):Prop where
 len:x.1.length≤i
 lo : -1-(i:Int)≤x.2
 hi:x.2<0∨x.2<(i:Int)
 sp:∀ y∈x.1,0≤y.1∧y.1≤y.2∧y.2≤(N:Int)
theorem bIs(cs s:List UInt8)(n:Nat)(hn:n≤(gF 0 s).length):bZl s.length n (((gF 0 s).take n).foldl (lJ cs) aHl):=by
 refine aSx (Inv:=bZl s.length) ⟨by simp [aHl],by simp [aHl],by simp [aHl],fun y h=>by cases h⟩ (fun i x b hx hI => ?_) n hn
 obtain ⟨h1,h2,_⟩:=wL s 0 i x hx;obtain ⟨q1,q2,q3,q4⟩:=hI;rw [jB] at h1
 unfold lJ
 split
 ·split
  ·refine ⟨by simp;omega,by show _ ≤ -1-b.2;omega,.inl (by show -1-b.2<0;omega),fun y hy => ?_⟩
   rcases oG.1 hy with hy | hy
   ·exact q4 y hy
   ·rw [List.mem_singleton] at hy
    subst hy;exact ⟨by assumption,by show b.2≤(x.1:Int);omega,by show (x.1:Int)≤_;omega⟩
  ·exact ⟨by omega,by omega,by omega,q4⟩
 ·split
  ·exact ⟨by show b.1.length≤_;omega,by show _≤(x.1:Int);omega,.inr (by show (x.1:Int)<_;omega),q4⟩
  ·exact ⟨by omega,by omega,by omega,q4⟩
def ffG(s cs:List UInt8)(x:FSt)(g:PV):St:=⟨fr 65 [(0,(.p (aD s))),(1,(.fn 164 [(.p (aD cs))] [])),(4,(.p bO)),(5,(.own 0)),(6,(.p (aB x.2))),(14,(.p g))],[some (.row 302 x.1.length ((x.1.map spE).flatten))]⟩
abbrev ffS(s cs:List UInt8)(x:FSt):St:=tF s cs x.1.length ((x.1.map spE).flatten) x.2
theorem bIt(s cs:List UInt8)(hs:s.length≤90000)(x:FSt)(g:PV)(q:Nat × Nat)(i:Nat)(hI:bZl s.length i x)(hi:i<s.length)(h1:q.2<128) :
  aA Tp 0 (sub (cd Tryz.f165) [1,1,1,0,1,0,0,1,1]) ⟨nxT (ffG s cs x g).t 15 16 q.1 q.2,(ffG s cs x g).m⟩ .normal (ffG s cs (lJ cs x q) g):=by
 obtain ⟨p,z⟩:=x;obtain ⟨pos,rn⟩:=q;obtain ⟨q1,q2,q3,q4⟩:=hI;dsimp only at q1 q2 q3 q4 h1
 refine aA.post (st1:=mP s cs g pos rn (lJ cs (p,z) (pos,rn)).1.length (((lJ cs (p,z) (pos,rn)).1.map spE).flatten) (lJ cs (p,z) (pos,rn)).2) (g:=⟨[15,16],[0],[],[]⟩) (by kernel_rfl) ?_
 show aA Tp 0 _ (mP s cs g pos rn p.length ((p.map spE).flatten) z) .normal _;unfold lJ;dsimp only
 by_cases hb:aBk cs rn=true
 ·rw [if_pos hb]
  by_cases hz:0≤z
  ·rw [if_pos hz]
   refine bAy h1 hb hz ⟨rfl, by omega⟩ (bZq (id := 9) (i := 6) (j := 30) (k := 31) (El := 3) (Ej := 3) (Jh := 3) (p1 := "strings.go:443") (p2 := "strings.go:443") (p3 := "strings.go:443") (q := #[{ on := 1, ground := Ground.data }, { on := 0, ground := Ground.phase }, { on := 1, ground := Ground.phase }]) (v := z) (by kernel_rfl) rfl (by show 30 < 65; omega) (by show 31 < 65; omega) ⟨hz, by omega⟩ rfl rfl) (by simp) (by simp [spE])
  ·rw [if_neg hz]
   exact bAz h1 hb (Int.not_le.1 hz)
 ·rw [if_neg hb]
  have Ap:aBk cs rn=false:=by simpa using hb
  by_cases hz:z<0
  ·rw [if_pos hz]
   exact bBa h1 Ap hz rfl
  ·rw [if_neg hz]
   exact bBb h1 Ap (Int.not_lt.1 hz)
theorem bOr(s cs:List UInt8)(hs:s.length≤90000)(ha:∀ b∈s,b.toNat<128) :
  aA Tp 0 (sub (cd Tryz.f165) [1,1,1,0]) (ffS s cs aHl) .normal (ffS s cs ((gF 0 s).foldl (lJ cs) aHl)):=by
 refine bIx (i0 := 0) (m := 13) (O0 := 3) (id := 4) (gi := 14) (d := 15) (c := 16) (El := 0) (Ej := 4) (Jh := 9) (O1 := 0) (e0 := 0) (p1 := "strings.go:436") (p2 := "strings.go:436") (p3 := "strings.go:436") (p4 := "strings.go:436") (body := sub (cd Tryz.f165) [1, 1, 1, 0, 1, 0, 0, 1, 1]) s (ffS s cs) (ffG s cs) (lJ cs) aHl (gF 0 s) (aEw s ha s 0 rfl)
  (by kernel_rfl) (by kernel_rfl) rfl (by show 13<65;omega) (fun g=>rfl) (fun b g=>rfl) (fun b g=>rfl) (fun b g=>rfl) (fun b g=>by show 14<65;omega) (fun b g=>by show 15<65;omega) (fun b g=>by show 16<65;omega) (fun b g=>rfl) (fun b=>(eR (by rfl)).2) (fun pre x g hp => ?_)
 obtain ⟨l,hl⟩:=hp;have hlen:pre.length<(gF 0 s).length:=by rw [← hl];simp
 have hx:(gF 0 s)[pre.length]? = some x:=by rw [← hl];simp
 have ht:(gF 0 s).take pre.length=pre:=by rw [← hl];simp
 obtain ⟨_,h2,b,h3,h4⟩:=wL s 0 _ x hx;refine bIt s cs hs _ g x pre.length ?_ h2 (by rw [h4];exact ha b h3)
 have:=bIs cs s pre.length (by omega)
 rw [ht] at this
 exact this
theorem aHm(s:List UInt8)(q:List (Int × Int))(hq:∀ y∈q,0≤y.1∧y.1≤y.2∧y.2≤(s.length:Int))(hl:q.length≤100001):∀ (m i:Nat) (r:List (List UInt8)),i+m=q.length→r.length=q.length→r=(q.take i).map (aBj s)++List.replicate m [] →
  aF Tp 0 (sub (cd Tryz.f165) ba) (mO s q.length i q.length ((q.map spE).flatten) r.length ((r.map stE).flatten)) (.exit 2) (mO s q.length q.length q.length ((q.map spE).flatten) (q.map (aBj s)).length (((q.map (aBj s)).map stE).flatten))
 | 0,i,r,hi,hr,he=>by
  have:i=q.length:=by omega
  subst this;rw [List.take_length,List.replicate_zero,List.append_nil] at he
  subst he;exact .exit (bAx (aVt _)) (by simp)
 | m+1,i,r,hi,hr,he=>by
  have hlt:i<q.length:=by omega
  have hx:q[i]? = some q[i]:=B3 hlt;have hm:=hq _ (gX hlt);have hz:(q[i]).1=(q[i]).1:=rfl;obtain ⟨a,z,hay⟩:∃ a z,q[i]=(a,z):=⟨_,_,rfl⟩;rw [hay] at hx hm
  have hnx:r.set i (aBj s (a,z))=(q.take (i+1)).map (aBj s)++List.replicate m []:=by
   have hli:((q.take i).map (aBj s)).length=i:=by simp;omega
   rw [he,List.set_append,if_neg (by omega),hli,aVs,List.take_add_one,hx]
   simp [List.replicate_succ]
  refine .step (bAw (r':=r.set i (aBj s (a,z))) (by omega) (by omega) hx hm (by omega) (by rw [jO];simp;omega) (aV (by omega)) rfl (by simp) (by rw [jO,jO,List.map_set,Nat.mul_one];rfl)) (aHm s q hq hl m (i+1) _ (by omega) (by simpa using hr) hnx)
theorem qP(s cs:List UInt8)(hs:s.length≤90000)(ha:∀ b∈s,b.toNat<128){base:Nat}:FV Tp 165 [.p (aD s),.fn 164 [.p (aD cs)] []] base (.own base) [(base,.row 9 (aLn cs s).length (((aLn cs s).map stE).flatten))]:=by
 have hN:=bOr s cs hs ha;have hI:=bIs cs s (gF 0 s).length (Bb _);rw [List.take_length] at hI
 unfold aLn bZk;generalize (gF 0 s).foldl (lJ cs) aHl=x at hN hI
 obtain ⟨p,z⟩:=x;rw [tE] at hI
 obtain ⟨q1,q2,q3,q4⟩:=hI;dsimp only at q1 q2 q3 q4
 unfold bIr;dsimp only;have hN:aA Tp 0 (sub (cd Tryz.f165) [1,1,1,0]) (tF s cs 0 [] (-1:Int)) .normal (tF s cs p.length ((p.map spE).flatten) z):=hN;have hrep:∀ n:Nat,List.replicate n (aD ([]:List UInt8))=((List.replicate n ([]:List UInt8)).map stE).flatten:=fun n=>by rw [jO];simp
 by_cases hz:0≤z
 ·rw [if_pos hz]
  have hL:=aHm s (p++[(z,(s.length:Int))]) (fun y hy=>by
   rcases oG.1 hy with hy | hy
   ·exact q4 y hy
   ·rw [List.mem_singleton] at hy
    subst hy;exact ⟨hz,by show z≤_;omega,aVt _⟩) (by simp;omega) (p.length+1) 0 (List.replicate (p.length+1) []) (by simp) (by simp) rfl
  have e1:(p++[(z,(s.length:Int))]).length=p.length+1:=by simp
  have e2:(((p++[(z,(s.length:Int))]).map spE).flatten)=((p.map spE).flatten)++[(aB z),(aB (s.length:Int))]:=by simp [spE]
  refine bZn hN hz ⟨rfl,by omega⟩ (by omega) (Lu:=p.length+1) (Lv:=p.length+1) (Ji:=p++[(z,(s.length:Int))]) (Hl:=(p++[(z,(s.length:Int))]).map (aBj s)) ?_
  rw [hrep];rw [e1,List.length_replicate,e2] at hL
  rw [e1,e2];exact hL
 ·rw [if_neg hz]
  have hL:=aHm s p q4 (by omega) p.length 0 (List.replicate p.length []) (by simp) (by simp) rfl
  refine bZo hN (Int.not_le.1 hz) (by omega) (Lu:=p.length) (Lv:=p.length) (Ji:=p) (Hl:=p.map (aBj s)) ?_
  rw [hrep];rw [List.length_replicate] at hL
  exact hL
end KV
end Go.Proofs
end
namespace Go.Proofs
namespace KV
open Tryz
section

noncomputable abbrev aLl:Code:=sub (cd Tryz.f166) [1,0,0,0]
abbrev cI(s:List UInt8):List (List UInt8):=aLn [9,13,32] s
def mM(u:List UInt8):St:=⟨fr 14 [(0,(.p (aD u))),(2,(.p (aD ([]:List UInt8))))],[]⟩
theorem bZi{s Oz:List UInt8}(hl0:aF Tp 0 aLl (mM  s) (.exit 0) (mM  Oz)){base:Nat}:FV Tp 166 [(.p (aD s))] base (.p (aD Oz)) []:=FV.fi func166 [hl0.k 4 ⟨[1,3,4,5,6,7,8,9,10,11,12],[],[],[]⟩] (gc hl0.code gn)
section
variable{u:List UInt8}{Ea:UInt8}(h0:(1:Int)<(u.length:Int))(h1:u[0]? = some Ea)
include h0 h1
theorem bAu{u':List UInt8}(h2:(Ea.toNat:Int)=48)(h3:0≤(1:Int)∧(1:Int)≤(u.length:Int)∧(u.length:Int)≤(u.length:Int))(Qh:u'=(u.drop 1)):aA Tp 0 aLl (mM  u) .normal (mM  u'):=by
 subst Qh;exact aA.fi ⟨[1,3,4,5,6,7,8,9,10,11,12],[],[],[]⟩ [bT,bT,.x (.v (.int .u8 (Ea.toNat:Int))),bT,bT,bT] (gc h3 (gc (dC h2) (A2 (cP h0) (gt ((u[0]?).map (fun b:UInt8=>PV.v (.int .u8 (b.toNat:Int)))=some (.v (.int .u8 (Ea.toNat:Int)))) (bDe h1) (gt (0≤(0:Int)) (by decide) (gc (cP h0) (g0 h0)))))))
theorem bAv(h2:(Ea.toNat:Int)≠48):aA Tp 0 aLl (mM  u) (.exit 0) (mM  u):=aA.fi ⟨[1,3,4,5,6,7,8,9,10,11,12],[],[],[]⟩ [bT,bT,.x (.v (.int .u8 (Ea.toNat:Int))),bT,bT,bF] (gc (bP h2) (A2 (cP h0) (gt ((u[0]?).map (fun b:UInt8=>PV.v (.int .u8 (b.toNat:Int)))=some (.v (.int .u8 (Ea.toNat:Int)))) (bDe h1) (gt (0≤(0:Int)) (by decide) (gc (cP h0) (g0 h0))))))
end
theorem aEv{u:List UInt8}(h0:(u.length:Int)≤1):aA Tp 0 aLl (mM  u) (.exit 0) (mM  u):=aA.fi ⟨[1,3,4,5,6,7,8,9,10,11,12],[],[],[]⟩ [bF,bF,bF,bF] (Gm (bL h0) gn)
def fO:List UInt8→List UInt8
 | []=>[]
 | b::r=>if 0<r.length∧b=48 then fO r else b::r
theorem aLm:∀ u:List UInt8,aF Tp 0 aLl (mM u) (.exit 0) (mM (fO u))
 | [] => .exit (aEv (by simp)) (by simp)
 | b::r=>by
  by_cases h0:0<r.length
  ·by_cases hb:b=48
   ·have e:fO (b::r)=fO r:=by simp only [fO];rw [if_pos ⟨h0,hb⟩]
    rw [e];exact .step (bAu (u':=r) (Ea:=b) (by simp;omega) rfl (by rw [hb];rfl) (by simp;omega) (by simp)) (aLm r)
   ·have e:fO (b::r)=b::r:=by simp only [fO];rw [if_neg (fun h=>hb h.2)]
    rw [e];exact .exit (bAv (Ea:=b) (by simp;omega) rfl (fun h=>hb (UInt8.toNat_inj.1 (Int.ofNat.inj h)))) (by simp)
  ·have e:fO (b::r)=b::r:=by simp only [fO];rw [if_neg (fun h=>h0 h.1)]
   rw [e];exact .exit (aEv (by simp;omega)) (by simp)
theorem bZj(s:List UInt8){base:Nat}:FV Tp 166 [.p (aD s)] base (.p (aD (fO s))) []:=bZi (aLm s)
end
section
variable {xb:Bool}{k Ac:Int}{i i' nl Fg Cu:Nat}

noncomputable abbrev kL:Code:=pS (cd Tryz.f79) 7 [0,1,0,1]
noncomputable abbrev vD:Code:=pS (cd Tryz.f79) 7 [0,1,0,1,0,1,1,1,0,1,0,0]
def dA(k:Int)(nl Rn:Nat)(Rc:List PV)(me:List (Value × PV))(mk:Nat):St:=⟨fr 176 [(2,(.ptr 0 0)),(4,(.ptr 1 0)),(5,(.ptr 2 0)),(6,(.ptr 3 0)),(7,(.ptr 4 0)),(8,(.ptr 6 0)),(9,(.ptr 7 0)),(10,(.ptr 8 0)),(11,(pI (aO k))),(12,(.ptr 10 0)),(13,(.ptr 11 0)),(35,(.ptr 5 0)),(44,(.fn 175 [] [(.ptr 12 0)]))],[some (.box 23 [(pI k)]),some (.box 26 [(pI 0),(.p bO)]),some (.box 3 [(pI 0)]),some (.box 3 [(pI 0)]),some (.box 27 [(pI 0)]),some (.box 158 [(pI k),(.own 13),(pI 0),(pI 0),(pI 0)]),some (.box 156 [(.ptr 5 0)]),some (.box 260 [(.fn 164 [(.p (aD ([9,13,32]:List UInt8)))] [])]),some (.box 65 [(.p (bM (aJ k)))]),some (.mp me mk),some (.box 247 [(.mp 9)]),some (.box 3 [(pI (nl:Int))]),some .dead,some (.row 78 Rn Rc)]⟩
def wK(k:Int)(s:List UInt8):St:=⟨fr 176 [(2,(.ptr 0 0)),(4,(.ptr 1 0)),(5,(.ptr 2 0)),(6,(.ptr 3 0)),(7,(.ptr 4 0)),(8,(.ptr 6 0)),(9,(.ptr 7 0)),(10,(.ptr 8 0)),(11,(pI (aO k))),(12,(.ptr 10 0)),(13,(.ptr 11 0)),(35,(.ptr 5 0)),(44,(.fn 175 [] [(.ptr 12 0)]))],[some (.box 23 [(pI k)]),some (.box 26 [(pI 0),(.p bO)]),some (.box 3 [(pI 0)]),some (.box 3 [(pI 0)]),some (.box 27 [(pI 0)]),some (.box 158 [(pI k),(.p bO),(pI 0),(pI 0),(pI 0)]),some (.box 156 [(.ptr 5 0)]),some (.box 260 [(.fn 164 [(.p (aD ([9,13,32]:List UInt8)))] [])]),some (.box 65 [(.p (bM (aJ k)))]),some (.mp [] 0),some (.box 247 [(.mp 9)]),some (.box 3 [(pI 0)]),some (.box 9 [(.p (aD s))])]⟩
theorem bZh{s:List UInt8}{Nt:Nat}{R'1 Dr:List (List Cel)}(h0:(within k 0 4)=true)(h1:(s.length:Int)≤65536)(Bp:aA Tp 0 (sub (cd Tryz.f79) bc) (wK k s) .normal (dA k Nt R'1.length ((R'1.map rwE).flatten) ((bQ k) Dr) Dr.length))(h3:(R'1.length:Int)≤200)(Jg:R'1.length≤12)(Qg:1≤R'1.length)(Nu:∀ x∈R'1,aO k≤(x.length:Int)):FMM Tp 79 [(pI k),(.p (aD s))] [] (.tup [(.p (.agg [(aB k),(.sl ((isG (bU k) R'1).length) (((isG (bU k) R'1).map rwE).flatten))])),(pI 0),(pI 0),(pI 0)]) []:=have k1:=fk 5 (qD k) rfl;have k2:=fk 8 (fE k) rfl;have k3:=mq [13,0] 14 (cAx (D:=R'1) (k:=k) Jg Qg Nu);have k4:=mq [5,13] 14 (bIe (k:=k) (l:=(0:Int)) (f:=(0:Int)) (e:=0) (n:=((isG (bU k) R'1).length)) (cs:=(((isG (bU k) R'1).map rwE).flatten)) rfl);FMM.fi 0 ⟨[],[],[13],[]⟩ func79 [k1.o,bF,bF,k2.o,.c (.fn 175 [] [(.ptr 12 0)]) [(12,(.box 9 [(.p (aD s))]))],Bp.k 1 ⟨(rng [(0,2),(3,1),(14,21),(36,8),(45,110),(169,1)]),(rng [(0,13)]),[],[]⟩,bF,k3.o,k4.o] (gc k4 (gc k3 (gc (bL h3) (gc Bp (gt (FC Tp 88 [(.p (aD s))] [] 12 (.fn 175 [] [(.ptr 12 0)]) [(12,(.box 9 [(.p (aD s))]))]) (FMM.fcN (k:=1) rfl (ids:=[]) (aHi (s:=s)) (by kernel_rfl)) (gc k2 (gc (bL h1) (gc (aU h0) (gc k1 gn)))))))))
def dR(k:Int)(nl:Nat)(R m:List (List Cel))(xl Aa:List UInt8)(i fsn:Nat)(fsc:List PV):St:=⟨fr 176 [(2,(.ptr 0 0)),(4,(.ptr 1 0)),(5,(.ptr 2 0)),(6,(.ptr 3 0)),(7,(.ptr 4 0)),(8,(.ptr 6 0)),(9,(.ptr 7 0)),(10,(.ptr 8 0)),(11,(pI (aO k))),(12,(.ptr 10 0)),(13,(.ptr 11 0)),(14,(.p (aD xl))),(15,(.own 14)),(35,(.ptr 5 0)),(44,(.fn 175 [] [(.ptr 12 0)])),(45,(.p (aD xl))),(47,(pI (nl:Int))),(48,(pI (((nl+1):Nat):Int))),(49,(.p (aD xl))),(50,(.fn 164 [(.p (aD ([9,13,32]:List UInt8)))] [])),(51,(.own 14)),(52,(.own 14)),(53,(pI ((cI xl).length:Int))),(54,(pB (((cI xl).length:Int) == 0))),(55,(pB (((cI xl).length:Int) == 0))),(56,(.own 14)),(57,(.ptr 14 0)),(58,(.p (aD Aa))),(59,(pB (decide (Aa=([107,108,105,115,116,101,114]:List UInt8))))),(60,(pB (decide (Aa=([107,108,105,115,116,101,114]:List UInt8))))),(61,(pB (decide (Aa=([107,108,105,115,116,101,114]:List UInt8))))),(62,(.own 14)),(63,(.ptr 14 0)),(64,(.p (aD Aa))),(65,(pB (decide (Aa=([115,117,109]:List UInt8))))),(66,(pB (decide (Aa=([115,117,109]:List UInt8))))),(67,(.own 14)),(68,(pI ((cI xl).length:Int))),(69,(pI (i:Int)))],[some (.box 23 [(pI k)]),some (.box 26 [(pI 0),(.p bO)]),some (.box 3 [(pI 0)]),some (.box 3 [(pI 0)]),some (.box 27 [(pI 0)]),some (.box 158 [(pI k),(.own 13),(pI 0),(pI 0),(pI 0)]),some (.box 156 [(.ptr 5 0)]),some (.box 260 [(.fn 164 [(.p (aD ([9,13,32]:List UInt8)))] [])]),some (.box 65 [(.p (bM (aJ k)))]),some (.mp ((bQ k) m) m.length),some (.box 247 [(.mp 9)]),some (.box 3 [(pI (((nl+1):Nat):Int))]),some .dead,some (.row 78 R.length ((R.map rwE).flatten)),some (.row 9 fsn fsc)]⟩
theorem bAi{R m:List (List Cel)}{xl:List UInt8}(h0:inR (((nl+1):Nat):Int))(Db:xl.length≤90000)(Ew:∀ b∈xl,b.toNat<128)(h3:((cI xl).length:Int)=0)(C6:Fg=(nl+1)):bY Tp 14 13 kL (pD (dA k nl R.length ((R.map rwE).flatten) ((bQ k) m) m.length) 45 46 14 xl xb) .normal (dA k Fg R.length ((R.map rwE).flatten) ((bQ k) m) m.length).m:=by
 subst C6;have raw:bY Tp 14 13 kL (pD (dA k nl R.length ((R.map rwE).flatten) ((bQ k) m) m.length) 45 46 14 xl xb) .normal (dA k (nl+1) R.length ((R.map rwE).flatten) ((bQ k) m) m.length).m:=⟨⟨fr 176 [(2,(.ptr 0 0)),(4,(.ptr 1 0)),(5,(.ptr 2 0)),(6,(.ptr 3 0)),(7,(.ptr 4 0)),(8,(.ptr 6 0)),(9,(.ptr 7 0)),(10,(.ptr 8 0)),(11,(pI (aO k))),(12,(.ptr 10 0)),(13,(.ptr 11 0)),(35,(.ptr 5 0)),(44,(.fn 175 [] [(.ptr 12 0)]))],[some (.box 23 [(pI k)]),some (.box 26 [(pI 0),(.p bO)]),some (.box 3 [(pI 0)]),some (.box 3 [(pI 0)]),some (.box 27 [(pI 0)]),some (.box 158 [(pI k),(.own 13),(pI 0),(pI 0),(pI 0)]),some (.box 156 [(.ptr 5 0)]),some (.box 260 [(.fn 164 [(.p (aD ([9,13,32]:List UInt8)))] [])]),some (.box 65 [(.p (bM (aJ k)))]),some (.mp ((bQ k) m) m.length),some (.box 247 [(.mp 9)]),some (.box 3 [(pI (((nl+1):Nat):Int))]),some .dead,some (.row 78 R.length ((R.map rwE).flatten))]⟩,⟨[],[13],[],[]⟩,aA.fin (g:=⟨(rng [(0,2),(3,1),(14,21),(36,8),(45,110),(169,1)]),[],[],[]⟩) (o:=[.c (.own 14) [(14,(.row 9 ((cI xl).length) (((cI xl).map stE).flatten)))],bT,bT,bT,bT,bT]) (l:=[_,_,_,_,_,_,_]) (by kernel_rfl) (Cw (dC h3) (gc (fk 14 (qP xl [9,13,32] Db Ew) rfl) (gc h0 gn))),by kernel_rfl,(⟨fr 176 [(2,(.ptr 0 0)),(4,(.ptr 1 0)),(5,(.ptr 2 0)),(6,(.ptr 3 0)),(7,(.ptr 4 0)),(8,(.ptr 6 0)),(9,(.ptr 7 0)),(10,(.ptr 8 0)),(11,(pI (aO k))),(12,(.ptr 10 0)),(13,(.ptr 11 0)),(35,(.ptr 5 0)),(44,(.fn 175 [] [(.ptr 12 0)]))],[some (.box 23 [(pI k)]),some (.box 26 [(pI 0),(.p bO)]),some (.box 3 [(pI 0)]),some (.box 3 [(pI 0)]),some (.box 27 [(pI 0)]),some (.box 158 [(pI k),(.own 13),(pI 0),(pI 0),(pI 0)]),some (.box 156 [(.ptr 5 0)]),some (.box 260 [(.fn 164 [(.p (aD ([9,13,32]:List UInt8)))] [])]),some (.box 65 [(.p (bM (aJ k)))]),some (.mp ((bQ k) m) m.length),some (.box 247 [(.mp 9)]),some (.box 3 [(pI (((nl+1):Nat):Int))]),some .dead,some (.row 78 R.length ((R.map rwE).flatten))]⟩:St).t,by kernel_rfl⟩
 exact raw
theorem bAj{R m:List (List Cel)}{xl Aa:List UInt8}(h0:inR (((nl+1):Nat):Int))(Db:xl.length≤90000)(Ew:∀ b∈xl,b.toNat<128)(h3:((cI xl).length:Int)≠0)(h4:0≤(0:Int)∧(0:Int)<((cI xl).length:Int))(h5:(cI xl)[0]? = some (Aa))(h6:Aa=([107,108,105,115,116,101,114]:List UInt8))(C6:Fg=(nl+1)):bY Tp 14 13 kL (pD (dA k nl R.length ((R.map rwE).flatten) ((bQ k) m) m.length) 45 46 14 xl xb) .normal (dA k Fg R.length ((R.map rwE).flatten) ((bQ k) m) m.length).m:=by
 subst C6
 have raw:bY Tp 14 13 kL (pD (dA k nl R.length ((R.map rwE).flatten) ((bQ k) m) m.length) 45 46 14 xl xb) .normal (dA k (nl+1) R.length ((R.map rwE).flatten) ((bQ k) m) m.length).m:=⟨⟨fr 176 [(2,(.ptr 0 0)),(4,(.ptr 1 0)),(5,(.ptr 2 0)),(6,(.ptr 3 0)),(7,(.ptr 4 0)),(8,(.ptr 6 0)),(9,(.ptr 7 0)),(10,(.ptr 8 0)),(11,(pI (aO k))),(12,(.ptr 10 0)),(13,(.ptr 11 0)),(35,(.ptr 5 0)),(44,(.fn 175 [] [(.ptr 12 0)]))],[some (.box 23 [(pI k)]),some (.box 26 [(pI 0),(.p bO)]),some (.box 3 [(pI 0)]),some (.box 3 [(pI 0)]),some (.box 27 [(pI 0)]),some (.box 158 [(pI k),(.own 13),(pI 0),(pI 0),(pI 0)]),some (.box 156 [(.ptr 5 0)]),some (.box 260 [(.fn 164 [(.p (aD ([9,13,32]:List UInt8)))] [])]),some (.box 65 [(.p (bM (aJ k)))]),some (.mp ((bQ k) m) m.length),some (.box 247 [(.mp 9)]),some (.box 3 [(pI (((nl+1):Nat):Int))]),some .dead,some (.row 78 R.length ((R.map rwE).flatten))]⟩,⟨[],[13],[],[]⟩,aA.fin (g:=⟨(rng [(0,2),(3,1),(14,21),(36,8),(45,110),(169,1)]),[],[],[]⟩) (o:=[.c (.own 14) [(14,(.row 9 ((cI xl).length) (((cI xl).map stE).flatten)))],bF,bF,bF,.x (aD Aa),bF,bF,bT,bT,bT,bT,bT]) (l:=[(decide (Aa=([107,108,105,115,116,101,114]:List UInt8)))=true,(decide (Aa=([107,108,105,115,116,101,114]:List UInt8)))=true,(decide (Aa=([107,108,105,115,116,101,114]:List UInt8)))=true,(decide (Aa=([107,108,105,115,116,101,114]:List UInt8)))=true,(decide (Aa=([107,108,105,115,116,101,114]:List UInt8)))=true,_,_,(((cI xl).map stE).flatten)[0]? = some (aD Aa),_,_,_,_,_,_]) (by kernel_rfl) (Cw (decide_eq_true h6) (A2 (bP h3) (gc (aM (E:=stE) (i:=0) (f:=0) (k:=1) (fun _=>rfl) h5 rfl) (gc (bP h3) (gc h4 (A2 (bP h3) (gc (fk 14 (qP xl [9,13,32] Db Ew) rfl) (gc h0 gn)))))))),by kernel_rfl,(⟨fr 176 [(2,(.ptr 0 0)),(4,(.ptr 1 0)),(5,(.ptr 2 0)),(6,(.ptr 3 0)),(7,(.ptr 4 0)),(8,(.ptr 6 0)),(9,(.ptr 7 0)),(10,(.ptr 8 0)),(11,(pI (aO k))),(12,(.ptr 10 0)),(13,(.ptr 11 0)),(35,(.ptr 5 0)),(44,(.fn 175 [] [(.ptr 12 0)]))],[some (.box 23 [(pI k)]),some (.box 26 [(pI 0),(.p bO)]),some (.box 3 [(pI 0)]),some (.box 3 [(pI 0)]),some (.box 27 [(pI 0)]),some (.box 158 [(pI k),(.own 13),(pI 0),(pI 0),(pI 0)]),some (.box 156 [(.ptr 5 0)]),some (.box 260 [(.fn 164 [(.p (aD ([9,13,32]:List UInt8)))] [])]),some (.box 65 [(.p (bM (aJ k)))]),some (.mp ((bQ k) m) m.length),some (.box 247 [(.mp 9)]),some (.box 3 [(pI (((nl+1):Nat):Int))]),some .dead,some (.row 78 R.length ((R.map rwE).flatten))]⟩:St).t,by kernel_rfl⟩
 exact raw
theorem bAk{R m:List (List Cel)}{xl Aa:List UInt8}(h0:inR (((nl+1):Nat):Int))(Db:xl.length≤90000)(Ew:∀ b∈xl,b.toNat<128)(h3:((cI xl).length:Int)≠0)(h4:0≤(0:Int)∧(0:Int)<((cI xl).length:Int))(h5:(cI xl)[0]? = some (Aa))(h6:Aa≠([107,108,105,115,116,101,114]:List UInt8))(h7:Aa=([115,117,109]:List UInt8))(C6:Fg=(nl+1)):bY Tp 14 13 kL (pD (dA k nl R.length ((R.map rwE).flatten) ((bQ k) m) m.length) 45 46 14 xl xb) .normal (dA k Fg R.length ((R.map rwE).flatten) ((bQ k) m) m.length).m:=by
 subst C6
 have raw:bY Tp 14 13 kL (pD (dA k nl R.length ((R.map rwE).flatten) ((bQ k) m) m.length) 45 46 14 xl xb) .normal (dA k (nl+1) R.length ((R.map rwE).flatten) ((bQ k) m) m.length).m:=⟨⟨fr 176 [(2,(.ptr 0 0)),(4,(.ptr 1 0)),(5,(.ptr 2 0)),(6,(.ptr 3 0)),(7,(.ptr 4 0)),(8,(.ptr 6 0)),(9,(.ptr 7 0)),(10,(.ptr 8 0)),(11,(pI (aO k))),(12,(.ptr 10 0)),(13,(.ptr 11 0)),(35,(.ptr 5 0)),(44,(.fn 175 [] [(.ptr 12 0)]))],[some (.box 23 [(pI k)]),some (.box 26 [(pI 0),(.p bO)]),some (.box 3 [(pI 0)]),some (.box 3 [(pI 0)]),some (.box 27 [(pI 0)]),some (.box 158 [(pI k),(.own 13),(pI 0),(pI 0),(pI 0)]),some (.box 156 [(.ptr 5 0)]),some (.box 260 [(.fn 164 [(.p (aD ([9,13,32]:List UInt8)))] [])]),some (.box 65 [(.p (bM (aJ k)))]),some (.mp ((bQ k) m) m.length),some (.box 247 [(.mp 9)]),some (.box 3 [(pI (((nl+1):Nat):Int))]),some .dead,some (.row 78 R.length ((R.map rwE).flatten))]⟩,⟨[],[13],[],[]⟩,aA.fin (g:=⟨(rng [(0,2),(3,1),(14,21),(36,8),(45,110),(169,1)]),[],[],[]⟩) (o:=[.c (.own 14) [(14,(.row 9 ((cI xl).length) (((cI xl).map stE).flatten)))],bF,bF,bF,.x (aD Aa),bF,bF,bF,bF,bF,.x (aD Aa),bF,bF,bT]) (l:=[(decide (Aa=([115,117,109]:List UInt8)))=true,(decide (Aa=([107,108,105,115,116,101,114]:List UInt8)))=false,(decide (Aa=([107,108,105,115,116,101,114]:List UInt8)))=false,(((cI xl).map stE).flatten)[0]? = some (aD Aa),(decide (Aa=([107,108,105,115,116,101,114]:List UInt8)))=false,_,(decide (Aa=([107,108,105,115,116,101,114]:List UInt8)))=false,(decide (Aa=([107,108,105,115,116,101,114]:List UInt8)))=false,_,_,(((cI xl).map stE).flatten)[0]? = some (aD Aa),_,_,_,_,_,_]) (by kernel_rfl) (gc (decide_eq_true h7) (A2 (decide_eq_false h6) (gc (aM (E:=stE) (i:=0) (f:=0) (k:=1) (fun _=>rfl) h5 rfl) (gc (decide_eq_false h6) (gc h4 (A2 (decide_eq_false h6) (A2 (bP h3) (gc (aM (E:=stE) (i:=0) (f:=0) (k:=1) (fun _=>rfl) h5 rfl) (gc (bP h3) (gc h4 (A2 (bP h3) (gc (fk 14 (qP xl [9,13,32] Db Ew) rfl) (gc h0 gn))))))))))))),by kernel_rfl,(⟨fr 176 [(2,(.ptr 0 0)),(4,(.ptr 1 0)),(5,(.ptr 2 0)),(6,(.ptr 3 0)),(7,(.ptr 4 0)),(8,(.ptr 6 0)),(9,(.ptr 7 0)),(10,(.ptr 8 0)),(11,(pI (aO k))),(12,(.ptr 10 0)),(13,(.ptr 11 0)),(35,(.ptr 5 0)),(44,(.fn 175 [] [(.ptr 12 0)]))],[some (.box 23 [(pI k)]),some (.box 26 [(pI 0),(.p bO)]),some (.box 3 [(pI 0)]),some (.box 3 [(pI 0)]),some (.box 27 [(pI 0)]),some (.box 158 [(pI k),(.own 13),(pI 0),(pI 0),(pI 0)]),some (.box 156 [(.ptr 5 0)]),some (.box 260 [(.fn 164 [(.p (aD ([9,13,32]:List UInt8)))] [])]),some (.box 65 [(.p (bM (aJ k)))]),some (.mp ((bQ k) m) m.length),some (.box 247 [(.mp 9)]),some (.box 3 [(pI (((nl+1):Nat):Int))]),some .dead,some (.row 78 R.length ((R.map rwE).flatten))]⟩:St).t,by kernel_rfl⟩
 exact raw
theorem bAl{R m:List (List Cel)}{xl Aa:List UInt8}{Af:List (List UInt8)}{Ad Cp:List Cel}(h0:inR (((nl+1):Nat):Int))(Db:xl.length≤90000)(Ew:∀ b∈xl,b.toNat<128)(h3:((cI xl).length:Int)≠0)(h4:0≤(0:Int)∧(0:Int)<((cI xl).length:Int))(h5:(cI xl)[0]? = some (Aa))(h6:Aa≠([107,108,105,115,116,101,114]:List UInt8))(h7:Aa≠([115,117,109]:List UInt8))(H8:aF Tp 14 vD (dR k nl R m xl Aa 0 ((cI xl).length) (((cI xl).map stE).flatten)) (.exit 3) (dR k nl R m xl Aa Cu Af.length ((Af.map stE).flatten)))(Fz:∀ u∈Af,u.length≤90000)(E0:rdL (aJ k) Af 0 = .inl Ad)(F3:Af.length=(aJ k).length)(Ba:aO k≤(Ad.length:Int))(Cn:eM Tp 186 ((bQ k) m) (k3V (aK k Ad 0) (aK k Ad 1) (aK k Ad 2)))(D3:(gW ((bQ k) m) (k3V (aK k Ad 0) (aK k Ad 1) (aK k Ad 2)))=true)(Eu:gS ((bQ k) m) (k3V (aK k Ad 0) (aK k Ad 1) (aK k Ad 2))=some (.sl Cp.length ((Cp.map cE).flatten)))(Gs:Cp.length≤100000)(Ff:(decide (Cp=Ad))=false)(C6:Fg=(nl+1)):bY Tp 14 13 kL (pD (dA k nl R.length ((R.map rwE).flatten) ((bQ k) m) m.length) 45 46 14 xl xb) .ret (bX (bX (bX (bX (dA k Fg R.length ((R.map rwE).flatten) ((bQ k) m) m.length) 5 (some (.box 158 [(pI k),(.own 13),(pI (((nl+1):Nat):Int)),(pI 1),(pI 5)]))) 2 (some (.box 3 [(pI (((nl+1):Nat):Int))]))) 3 (some (.box 3 [(pI 1)]))) 4 (some (.box 27 [(pI 5)]))).m:=by
 subst C6
 have raw:bY Tp 14 13 kL (pD (dA k nl R.length ((R.map rwE).flatten) ((bQ k) m) m.length) 45 46 14 xl xb) .ret (bX (bX (bX (bX (dA k (nl+1) R.length ((R.map rwE).flatten) ((bQ k) m) m.length) 5 (some (.box 158 [(pI k),(.own 13),(pI (((nl+1):Nat):Int)),(pI 1),(pI 5)]))) 2 (some (.box 3 [(pI (((nl+1):Nat):Int))]))) 3 (some (.box 3 [(pI 1)]))) 4 (some (.box 27 [(pI 5)]))).m:=⟨⟨fr 176 [(2,(.ptr 0 0)),(4,(.ptr 1 0)),(5,(.ptr 2 0)),(6,(.ptr 3 0)),(7,(.ptr 4 0)),(8,(.ptr 6 0)),(9,(.ptr 7 0)),(10,(.ptr 8 0)),(11,(pI (aO k))),(12,(.ptr 10 0)),(13,(.ptr 11 0)),(35,(.ptr 5 0))],[some (.box 23 [(pI k)]),some (.box 26 [(pI 0),(.p bO)]),some (.box 3 [(pI (((nl+1):Nat):Int))]),some (.box 3 [(pI 1)]),some (.box 27 [(pI 5)]),some (.box 158 [(pI k),(.own 13),(pI (((nl+1):Nat):Int)),(pI 1),(pI 5)]),some (.box 156 [(.ptr 5 0)]),some (.box 260 [(.fn 164 [(.p (aD ([9,13,32]:List UInt8)))] [])]),some (.box 65 [(.p (bM (aJ k)))]),some (.mp ((bQ k) m) m.length),some (.box 247 [(.mp 9)]),some (.box 3 [(pI (((nl+1):Nat):Int))]),some .dead,some (.row 78 R.length ((R.map rwE).flatten))]⟩,⟨[],[13],[],[]⟩,aA.fin (g:=⟨(rng [(0,2),(3,1),(14,21),(36,8),(45,110),(169,1)]),[],[],[]⟩) (o:=[.c (.own 14) [(14,(.row 9 ((cI xl).length) (((cI xl).map stE).flatten)))],bF,bF,bF,.x (aD Aa),bF,bF,bF,bF,bF,.x (aD Aa),bF,bF,bF,.k 4 ⟨(rng [(0,2),(3,1),(16,1),(22,13),(36,8),(46,1),(70,22),(169,1)]),[14],[],[]⟩ (.exit 3) (dR k nl R m xl Aa Cu Af.length ((Af.map stE).flatten)),.c (.fn 176 [] [(.ptr 15 0),(.ptr 16 0)]) [(5,(.box 158 [(pI k),(.own 13),(pI 0),(pI 0),(pI 0)])),(13,(.row 78 R.length ((R.map rwE).flatten))),(15,(.box 156 [(.ptr 5 0)])),(16,(.box 3 [(pI (((nl+1):Nat):Int))]))],.g 1 ⟨[44],[15,16],[14],[]⟩,.c (.tup [(.own 16),(pB true)]) [(5,(.box 158 [(pI k),(.own 13),(pI 0),(pI 0),(pI 0)])),(13,(.row 78 R.length ((R.map rwE).flatten))),(14,(.box 156 [(.ptr 5 0)])),(15,(.box 3 [(pI (((nl+1):Nat):Int))])),(16,(.row 80 Ad.length ((Ad.map cE).flatten)))],bF,.g 1 ⟨[],[14,15],[16],[]⟩,.c (.p (.agg [(aB (aK k Ad 0)),(aB (aK k Ad 1)),(aB (aK k Ad 2))])) [],bT,.x (.sl Cp.length ((Cp.map cE).flatten)),.c (pB (decide (Cp=Ad))) [],bT,bT,.c (pB false) [(14,(.box 156 [(.ptr 5 0)])),(15,(.box 3 [(pI (((nl+1):Nat):Int))])),(5,(.box 158 [(pI k),(.own 13),(pI (((nl+1):Nat):Int)),(pI 1),(pI 5)])),(13,(.row 78 R.length ((R.map rwE).flatten)))],bT,bT,bT,.c (.tup [(.p (.agg [(aB 0),bO])),(pI (((nl+1):Nat):Int)),(pI 1),(pI 5)]) [(5,(.box 158 [(pI k),(.own 13),(pI (((nl+1):Nat):Int)),(pI 1),(pI 5)])),(13,(.row 78 R.length ((R.map rwE).flatten)))]]) (l:=[FC Tp 94 [(.ptr 5 0)] [(5,(.box 158 [(pI k),(.own 13),(pI (((nl+1):Nat):Int)),(pI 1),(pI 5)])),(13,(.row 78 R.length ((R.map rwE).flatten)))] 16 (.tup [(.p (.agg [(aB 0),bO])),(pI (((nl+1):Nat):Int)),(pI 1),(pI 5)]) [(5,(.box 158 [(pI k),(.own 13),(pI (((nl+1):Nat):Int)),(pI 1),(pI 5)])),(13,(.row 78 R.length ((R.map rwE).flatten)))],true=true,_,_,FC Tp 176 [(pI 1),(pI 5),(.ptr 14 0),(.ptr 15 0)] [(14,(.box 156 [(.ptr 5 0)])),(15,(.box 3 [(pI (((nl+1):Nat):Int))])),(5,(.box 158 [(pI k),(.own 13),(pI 0),(pI 0),(pI 0)])),(13,(.row 78 R.length ((R.map rwE).flatten)))] 16 (pB false) [(14,(.box 156 [(.ptr 5 0)])),(15,(.box 3 [(pI (((nl+1):Nat):Int))])),(5,(.box 158 [(pI k),(.own 13),(pI (((nl+1):Nat):Int)),(pI 1),(pI 5)])),(13,(.row 78 R.length ((R.map rwE).flatten)))],_,_,_,_,_,_,_,false=false,FC Tp 91 [(.ptr 5 0),(.p (.sl Af.length ((Af.map stE).flatten))),(.fn 176 [] [(.ptr 14 0),(.ptr 15 0)])] [(5,(.box 158 [(pI k),(.own 13),(pI 0),(pI 0),(pI 0)])),(14,(.box 156 [(.ptr 5 0)])),(15,(.box 3 [(pI (((nl+1):Nat):Int))])),(13,(.row 78 R.length ((R.map rwE).flatten)))] 16 (.tup [(.own 16),(pB true)]) [(5,(.box 158 [(pI k),(.own 13),(pI 0),(pI 0),(pI 0)])),(13,(.row 78 R.length ((R.map rwE).flatten))),(14,(.box 156 [(.ptr 5 0)])),(15,(.box 3 [(pI (((nl+1):Nat):Int))])),(16,(.row 80 Ad.length ((Ad.map cE).flatten)))],FC Tp 89 [(.ptr 5 0),(pI (((nl+1):Nat):Int))] [(5,(.box 158 [(pI k),(.own 13),(pI 0),(pI 0),(pI 0)])),(13,(.row 78 R.length ((R.map rwE).flatten)))] 15 (.fn 176 [] [(.ptr 15 0),(.ptr 16 0)]) [(5,(.box 158 [(pI k),(.own 13),(pI 0),(pI 0),(pI 0)])),(13,(.row 78 R.length ((R.map rwE).flatten))),(15,(.box 156 [(.ptr 5 0)])),(16,(.box 3 [(pI (((nl+1):Nat):Int))]))],_,(decide (Aa=([115,117,109]:List UInt8)))=false,(decide (Aa=([107,108,105,115,116,101,114]:List UInt8)))=false,(decide (Aa=([107,108,105,115,116,101,114]:List UInt8)))=false,(((cI xl).map stE).flatten)[0]? = some (aD Aa),(decide (Aa=([107,108,105,115,116,101,114]:List UInt8)))=false,_,(decide (Aa=([107,108,105,115,116,101,114]:List UInt8)))=false,(decide (Aa=([107,108,105,115,116,101,114]:List UInt8)))=false,_,_,(((cI xl).map stE).flatten)[0]? = some (aD Aa),_,_,_,_,_,_]) (by kernel_rfl) (gc (FMM.fc (ids:=[5,13]) (kG (k:=k) (l:=(((nl+1):Nat):Int)) (f:=(1:Int)) (e:=(5:Int)) (n:=R.length) (cs:=((R.map rwE).flatten)) (by decide)) (by kernel_rfl)) (gc rfl (A2 (dB Ff) (gc (FMM.fc (ids:=[14,15,5,13]) (cS 1 5 (((nl+1):Nat):Int) k 0 0 0 R) (by kernel_rfl)) (A2 (dB Ff) (gc (fk 16 (bFs Cp Ad Gs) rfl) (gc Eu (gc D3 (gc Cn (gc (fk 16 (eH k Ad Ba) rfl) (gc rfl (gc (FMM.fcN (k:=1) rfl (ids:=[5,13,14,15]) (lD (((nl+1):Nat):Int) R 0 0 Fz E0 F3) (by kernel_rfl)) (gc (FMM.fcN (k:=2) rfl (ids:=[5,13]) (fA (ln:=(((nl+1):Nat):Int)) (k:=k) (l:=(0:Int)) (f:=(0:Int)) (e:=(0:Int)) (R:=R)) (by kernel_rfl)) (gc H8.code (gc (decide_eq_false h7) (A2 (decide_eq_false h6) (gc (aM (E:=stE) (i:=0) (f:=0) (k:=1) (fun _=>rfl) h5 rfl) (gc (decide_eq_false h6) (gc h4 (A2 (decide_eq_false h6) (A2 (bP h3) (gc (aM (E:=stE) (i:=0) (f:=0) (k:=1) (fun _=>rfl) h5 rfl) (gc (bP h3) (gc h4 (A2 (bP h3) (gc (fk 14 (qP xl [9,13,32] Db Ew) rfl) (gc h0 gn))))))))))))))))))))))))))),by kernel_rfl,(⟨fr 176 [(2,(.ptr 0 0)),(4,(.ptr 1 0)),(5,(.ptr 2 0)),(6,(.ptr 3 0)),(7,(.ptr 4 0)),(8,(.ptr 6 0)),(9,(.ptr 7 0)),(10,(.ptr 8 0)),(11,(pI (aO k))),(12,(.ptr 10 0)),(13,(.ptr 11 0)),(35,(.ptr 5 0))],[some (.box 23 [(pI k)]),some (.box 26 [(pI 0),(.p bO)]),some (.box 3 [(pI (((nl+1):Nat):Int))]),some (.box 3 [(pI 1)]),some (.box 27 [(pI 5)]),some (.box 158 [(pI k),(.own 13),(pI (((nl+1):Nat):Int)),(pI 1),(pI 5)]),some (.box 156 [(.ptr 5 0)]),some (.box 260 [(.fn 164 [(.p (aD ([9,13,32]:List UInt8)))] [])]),some (.box 65 [(.p (bM (aJ k)))]),some (.mp ((bQ k) m) m.length),some (.box 247 [(.mp 9)]),some (.box 3 [(pI (((nl+1):Nat):Int))]),some .dead,some (.row 78 R.length ((R.map rwE).flatten))]⟩:St).t,by kernel_rfl⟩
 exact raw
theorem bAm{R m:List (List Cel)}{xl Aa:List UInt8}{Af:List (List UInt8)}{Ad Cp:List Cel}(h0:inR (((nl+1):Nat):Int))(Db:xl.length≤90000)(Ew:∀ b∈xl,b.toNat<128)(h3:((cI xl).length:Int)≠0)(h4:0≤(0:Int)∧(0:Int)<((cI xl).length:Int))(h5:(cI xl)[0]? = some (Aa))(h6:Aa≠([107,108,105,115,116,101,114]:List UInt8))(h7:Aa≠([115,117,109]:List UInt8))(H8:aF Tp 14 vD (dR k nl R m xl Aa 0 ((cI xl).length) (((cI xl).map stE).flatten)) (.exit 3) (dR k nl R m xl Aa Cu Af.length ((Af.map stE).flatten)))(Fz:∀ u∈Af,u.length≤90000)(E0:rdL (aJ k) Af 0 = .inl Ad)(F3:Af.length=(aJ k).length)(Ba:aO k≤(Ad.length:Int))(Cn:eM Tp 186 ((bQ k) m) (k3V (aK k Ad 0) (aK k Ad 1) (aK k Ad 2)))(D3:(gW ((bQ k) m) (k3V (aK k Ad 0) (aK k Ad 1) (aK k Ad 2)))=true)(Eu:gS ((bQ k) m) (k3V (aK k Ad 0) (aK k Ad 1) (aK k Ad 2))=some (.sl Cp.length ((Cp.map cE).flatten)))(Gs:Cp.length≤100000)(Ff:(decide (Cp=Ad))=true)(C6:Fg=(nl+1)):bY Tp 14 13 kL (pD (dA k nl R.length ((R.map rwE).flatten) ((bQ k) m) m.length) 45 46 14 xl xb) .normal (dA k Fg R.length ((R.map rwE).flatten) ((bQ k) m) m.length).m:=by
 subst C6
 have raw:bY Tp 14 13 kL (pD (dA k nl R.length ((R.map rwE).flatten) ((bQ k) m) m.length) 45 46 14 xl xb) .normal (dA k (nl+1) R.length ((R.map rwE).flatten) ((bQ k) m) m.length).m:=⟨⟨fr 176 [(2,(.ptr 0 0)),(4,(.ptr 1 0)),(5,(.ptr 2 0)),(6,(.ptr 3 0)),(7,(.ptr 4 0)),(8,(.ptr 6 0)),(9,(.ptr 7 0)),(10,(.ptr 8 0)),(11,(pI (aO k))),(12,(.ptr 10 0)),(13,(.ptr 11 0)),(35,(.ptr 5 0))],[some (.box 23 [(pI k)]),some (.box 26 [(pI 0),(.p bO)]),some (.box 3 [(pI 0)]),some (.box 3 [(pI 0)]),some (.box 27 [(pI 0)]),some (.box 158 [(pI k),(.own 13),(pI 0),(pI 0),(pI 0)]),some (.box 156 [(.ptr 5 0)]),some (.box 260 [(.fn 164 [(.p (aD ([9,13,32]:List UInt8)))] [])]),some (.box 65 [(.p (bM (aJ k)))]),some (.mp ((bQ k) m) m.length),some (.box 247 [(.mp 9)]),some (.box 3 [(pI (((nl+1):Nat):Int))]),some .dead,some (.row 78 R.length ((R.map rwE).flatten))]⟩,⟨[],[13],[],[]⟩,aA.fin (g:=⟨(rng [(0,2),(3,1),(14,21),(36,8),(45,110),(169,1)]),[],[],[]⟩) (o:=[.c (.own 14) [(14,(.row 9 ((cI xl).length) (((cI xl).map stE).flatten)))],bF,bF,bF,.x (aD Aa),bF,bF,bF,bF,bF,.x (aD Aa),bF,bF,bF,.k 4 ⟨(rng [(0,2),(3,1),(16,1),(22,13),(36,8),(46,1),(70,22),(169,1)]),[14],[],[]⟩ (.exit 3) (dR k nl R m xl Aa Cu Af.length ((Af.map stE).flatten)),.c (.fn 176 [] [(.ptr 15 0),(.ptr 16 0)]) [(5,(.box 158 [(pI k),(.own 13),(pI 0),(pI 0),(pI 0)])),(13,(.row 78 R.length ((R.map rwE).flatten))),(15,(.box 156 [(.ptr 5 0)])),(16,(.box 3 [(pI (((nl+1):Nat):Int))]))],.g 1 ⟨[44],[15,16],[14],[]⟩,.c (.tup [(.own 16),(pB true)]) [(5,(.box 158 [(pI k),(.own 13),(pI 0),(pI 0),(pI 0)])),(13,(.row 78 R.length ((R.map rwE).flatten))),(14,(.box 156 [(.ptr 5 0)])),(15,(.box 3 [(pI (((nl+1):Nat):Int))])),(16,(.row 80 Ad.length ((Ad.map cE).flatten)))],bF,.g 1 ⟨[],[14,15],[16],[]⟩,.c (.p (.agg [(aB (aK k Ad 0)),(aB (aK k Ad 1)),(aB (aK k Ad 2))])) [],bT,.x (.sl Cp.length ((Cp.map cE).flatten)),.c (pB (decide (Cp=Ad))) [],bF,bF,bF,bF]) (l:=[_,_,_,_,_,_,_,_,_,false=false,FC Tp 91 [(.ptr 5 0),(.p (.sl Af.length ((Af.map stE).flatten))),(.fn 176 [] [(.ptr 14 0),(.ptr 15 0)])] [(5,(.box 158 [(pI k),(.own 13),(pI 0),(pI 0),(pI 0)])),(14,(.box 156 [(.ptr 5 0)])),(15,(.box 3 [(pI (((nl+1):Nat):Int))])),(13,(.row 78 R.length ((R.map rwE).flatten)))] 16 (.tup [(.own 16),(pB true)]) [(5,(.box 158 [(pI k),(.own 13),(pI 0),(pI 0),(pI 0)])),(13,(.row 78 R.length ((R.map rwE).flatten))),(14,(.box 156 [(.ptr 5 0)])),(15,(.box 3 [(pI (((nl+1):Nat):Int))])),(16,(.row 80 Ad.length ((Ad.map cE).flatten)))],FC Tp 89 [(.ptr 5 0),(pI (((nl+1):Nat):Int))] [(5,(.box 158 [(pI k),(.own 13),(pI 0),(pI 0),(pI 0)])),(13,(.row 78 R.length ((R.map rwE).flatten)))] 15 (.fn 176 [] [(.ptr 15 0),(.ptr 16 0)]) [(5,(.box 158 [(pI k),(.own 13),(pI 0),(pI 0),(pI 0)])),(13,(.row 78 R.length ((R.map rwE).flatten))),(15,(.box 156 [(.ptr 5 0)])),(16,(.box 3 [(pI (((nl+1):Nat):Int))]))],_,(decide (Aa=([115,117,109]:List UInt8)))=false,(decide (Aa=([107,108,105,115,116,101,114]:List UInt8)))=false,(decide (Aa=([107,108,105,115,116,101,114]:List UInt8)))=false,(((cI xl).map stE).flatten)[0]? = some (aD Aa),(decide (Aa=([107,108,105,115,116,101,114]:List UInt8)))=false,_,(decide (Aa=([107,108,105,115,116,101,114]:List UInt8)))=false,(decide (Aa=([107,108,105,115,116,101,114]:List UInt8)))=false,_,_,(((cI xl).map stE).flatten)[0]? = some (aD Aa),_,_,_,_,_,_]) (by kernel_rfl) (Gm (aU Ff) (gc (fk 16 (bFs Cp Ad Gs) rfl) (gc Eu (gc D3 (gc Cn (gc (fk 16 (eH k Ad Ba) rfl) (gc rfl (gc (FMM.fcN (k:=1) rfl (ids:=[5,13,14,15]) (lD (((nl+1):Nat):Int) R 0 0 Fz E0 F3) (by kernel_rfl)) (gc (FMM.fcN (k:=2) rfl (ids:=[5,13]) (fA (ln:=(((nl+1):Nat):Int)) (k:=k) (l:=(0:Int)) (f:=(0:Int)) (e:=(0:Int)) (R:=R)) (by kernel_rfl)) (gc H8.code (gc (decide_eq_false h7) (A2 (decide_eq_false h6) (gc (aM (E:=stE) (i:=0) (f:=0) (k:=1) (fun _=>rfl) h5 rfl) (gc (decide_eq_false h6) (gc h4 (A2 (decide_eq_false h6) (A2 (bP h3) (gc (aM (E:=stE) (i:=0) (f:=0) (k:=1) (fun _=>rfl) h5 rfl) (gc (bP h3) (gc h4 (A2 (bP h3) (gc (fk 14 (qP xl [9,13,32] Db Ew) rfl) (gc h0 gn))))))))))))))))))))))),by kernel_rfl,(⟨fr 176 [(2,(.ptr 0 0)),(4,(.ptr 1 0)),(5,(.ptr 2 0)),(6,(.ptr 3 0)),(7,(.ptr 4 0)),(8,(.ptr 6 0)),(9,(.ptr 7 0)),(10,(.ptr 8 0)),(11,(pI (aO k))),(12,(.ptr 10 0)),(13,(.ptr 11 0)),(35,(.ptr 5 0))],[some (.box 23 [(pI k)]),some (.box 26 [(pI 0),(.p bO)]),some (.box 3 [(pI 0)]),some (.box 3 [(pI 0)]),some (.box 27 [(pI 0)]),some (.box 158 [(pI k),(.own 13),(pI 0),(pI 0),(pI 0)]),some (.box 156 [(.ptr 5 0)]),some (.box 260 [(.fn 164 [(.p (aD ([9,13,32]:List UInt8)))] [])]),some (.box 65 [(.p (bM (aJ k)))]),some (.mp ((bQ k) m) m.length),some (.box 247 [(.mp 9)]),some (.box 3 [(pI (((nl+1):Nat):Int))]),some .dead,some (.row 78 R.length ((R.map rwE).flatten))]⟩:St).t,by kernel_rfl⟩
 exact raw
theorem bAn{R m:List (List Cel)}{xl Aa:List UInt8}{Af:List (List UInt8)}{Ad:List Cel}{R' m':List (List Cel)}(h0:inR (((nl+1):Nat):Int))(Db:xl.length≤90000)(Ew:∀ b∈xl,b.toNat<128)(h3:((cI xl).length:Int)≠0)(h4:0≤(0:Int)∧(0:Int)<((cI xl).length:Int))(h5:(cI xl)[0]? = some (Aa))(h6:Aa≠([107,108,105,115,116,101,114]:List UInt8))(h7:Aa≠([115,117,109]:List UInt8))(H8:aF Tp 14 vD (dR k nl R m xl Aa 0 ((cI xl).length) (((cI xl).map stE).flatten)) (.exit 3) (dR k nl R m xl Aa Cu Af.length ((Af.map stE).flatten)))(Fz:∀ u∈Af,u.length≤90000)(E0:rdL (aJ k) Af 0 = .inl Ad)(F3:Af.length=(aJ k).length)(Ba:aO k≤(Ad.length:Int))(Cn:eM Tp 186 ((bQ k) m) (k3V (aK k Ad 0) (aK k Ad 1) (aK k Ad 2)))(D3:(gW ((bQ k) m) (k3V (aK k Ad 0) (aK k Ad 1) (aK k Ad 2)))=false)(Eu:[(PV.sl Ad.length ((Ad.map cE).flatten))].length=1*1∧R.length+1≤1000000)(C6:Fg=(nl+1))(D5:R'.length=(R.length+1))(D6:(R'.map rwE).flatten=(((R.map rwE).flatten)++[(PV.sl Ad.length ((Ad.map cE).flatten))]))(E1:(bQ k) m'=(((bQ k) m)++[((k3V (aK k Ad 0) (aK k Ad 1) (aK k Ad 2)),(.sl Ad.length ((Ad.map cE).flatten)))]))(E2:m'.length=(m.length+1)):bY Tp 14 13 kL (pD (dA k nl R.length ((R.map rwE).flatten) ((bQ k) m) m.length) 45 46 14 xl xb) .normal (dA k Fg R'.length ((R'.map rwE).flatten) ((bQ k) m') m'.length).m:=by
 subst C6
 have raw:bY Tp 14 13 kL (pD (dA k nl R.length ((R.map rwE).flatten) ((bQ k) m) m.length) 45 46 14 xl xb) .normal (dA k (nl+1) (R.length+1) (((R.map rwE).flatten)++[(PV.sl Ad.length ((Ad.map cE).flatten))]) (((bQ k) m)++[((k3V (aK k Ad 0) (aK k Ad 1) (aK k Ad 2)),(.sl Ad.length ((Ad.map cE).flatten)))]) (m.length+1)).m:=⟨⟨fr 176 [(2,(.ptr 0 0)),(4,(.ptr 1 0)),(5,(.ptr 2 0)),(6,(.ptr 3 0)),(7,(.ptr 4 0)),(8,(.ptr 6 0)),(9,(.ptr 7 0)),(10,(.ptr 8 0)),(11,(pI (aO k))),(12,(.ptr 10 0)),(13,(.ptr 11 0)),(35,(.ptr 5 0))],[some (.box 23 [(pI k)]),some (.box 26 [(pI 0),(.p bO)]),some (.box 3 [(pI 0)]),some (.box 3 [(pI 0)]),some (.box 27 [(pI 0)]),some (.box 158 [(pI k),(.own 14),(pI 0),(pI 0),(pI 0)]),some (.box 156 [(.ptr 5 0)]),some (.box 260 [(.fn 164 [(.p (aD ([9,13,32]:List UInt8)))] [])]),some (.box 65 [(.p (bM (aJ k)))]),some (.mp (((bQ k) m)++[((k3V (aK k Ad 0) (aK k Ad 1) (aK k Ad 2)),(.sl Ad.length ((Ad.map cE).flatten)))]) (m.length+1)),some (.box 247 [(.mp 9)]),some (.box 3 [(pI (((nl+1):Nat):Int))]),some .dead,some .dead,some (.row 78 (R.length+1) (((R.map rwE).flatten)++[(PV.sl Ad.length ((Ad.map cE).flatten))]))]⟩,⟨[],[14],[],[]⟩,aA.fin (g:=⟨(rng [(0,2),(3,1),(14,21),(36,8),(45,110),(169,1)]),[17],[],[]⟩) (o:=[.c (.own 14) [(14,(.row 9 ((cI xl).length) (((cI xl).map stE).flatten)))],bF,bF,bF,.x (aD Aa),bF,bF,bF,bF,bF,.x (aD Aa),bF,bF,bF,.k 4 ⟨(rng [(0,2),(3,1),(16,1),(22,13),(36,8),(46,1),(70,22),(169,1)]),[14],[],[]⟩ (.exit 3) (dR k nl R m xl Aa Cu Af.length ((Af.map stE).flatten)),.c (.fn 176 [] [(.ptr 15 0),(.ptr 16 0)]) [(5,(.box 158 [(pI k),(.own 13),(pI 0),(pI 0),(pI 0)])),(13,(.row 78 R.length ((R.map rwE).flatten))),(15,(.box 156 [(.ptr 5 0)])),(16,(.box 3 [(pI (((nl+1):Nat):Int))]))],.g 1 ⟨[44],[15,16],[14],[]⟩,.c (.tup [(.own 16),(pB true)]) [(5,(.box 158 [(pI k),(.own 13),(pI 0),(pI 0),(pI 0)])),(13,(.row 78 R.length ((R.map rwE).flatten))),(14,(.box 156 [(.ptr 5 0)])),(15,(.box 3 [(pI (((nl+1):Nat):Int))])),(16,(.row 80 Ad.length ((Ad.map cE).flatten)))],bF,.g 1 ⟨[],[14,15],[16],[]⟩,.c (.p (.agg [(aB (aK k Ad 0)),(aB (aK k Ad 1)),(aB (aK k Ad 2))])) [],bF,.c (.p (.agg [(aB (aK k Ad 0)),(aB (aK k Ad 1)),(aB (aK k Ad 2))])) [],bF]) (l:=[_,_,_,_,_,_,_,false=false,FC Tp 91 [(.ptr 5 0),(.p (.sl Af.length ((Af.map stE).flatten))),(.fn 176 [] [(.ptr 14 0),(.ptr 15 0)])] [(5,(.box 158 [(pI k),(.own 13),(pI 0),(pI 0),(pI 0)])),(14,(.box 156 [(.ptr 5 0)])),(15,(.box 3 [(pI (((nl+1):Nat):Int))])),(13,(.row 78 R.length ((R.map rwE).flatten)))] 16 (.tup [(.own 16),(pB true)]) [(5,(.box 158 [(pI k),(.own 13),(pI 0),(pI 0),(pI 0)])),(13,(.row 78 R.length ((R.map rwE).flatten))),(14,(.box 156 [(.ptr 5 0)])),(15,(.box 3 [(pI (((nl+1):Nat):Int))])),(16,(.row 80 Ad.length ((Ad.map cE).flatten)))],FC Tp 89 [(.ptr 5 0),(pI (((nl+1):Nat):Int))] [(5,(.box 158 [(pI k),(.own 13),(pI 0),(pI 0),(pI 0)])),(13,(.row 78 R.length ((R.map rwE).flatten)))] 15 (.fn 176 [] [(.ptr 15 0),(.ptr 16 0)]) [(5,(.box 158 [(pI k),(.own 13),(pI 0),(pI 0),(pI 0)])),(13,(.row 78 R.length ((R.map rwE).flatten))),(15,(.box 156 [(.ptr 5 0)])),(16,(.box 3 [(pI (((nl+1):Nat):Int))]))],_,(decide (Aa=([115,117,109]:List UInt8)))=false,(decide (Aa=([107,108,105,115,116,101,114]:List UInt8)))=false,(decide (Aa=([107,108,105,115,116,101,114]:List UInt8)))=false,(((cI xl).map stE).flatten)[0]? = some (aD Aa),(decide (Aa=([107,108,105,115,116,101,114]:List UInt8)))=false,_,(decide (Aa=([107,108,105,115,116,101,114]:List UInt8)))=false,(decide (Aa=([107,108,105,115,116,101,114]:List UInt8)))=false,_,_,(((cI xl).map stE).flatten)[0]? = some (aD Aa),_,_,_,_,_,_]) (by kernel_rfl) (gc Eu (gc D3 (gc Cn (gc (fk 16 (eH k Ad Ba) rfl) (gc D3 (gc Cn (gc (fk 16 (eH k Ad Ba) rfl) (gc rfl (gc (FMM.fcN (k:=1) rfl (ids:=[5,13,14,15]) (lD (((nl+1):Nat):Int) R 0 0 Fz E0 F3) (by kernel_rfl)) (gc (FMM.fcN (k:=2) rfl (ids:=[5,13]) (fA (ln:=(((nl+1):Nat):Int)) (k:=k) (l:=(0:Int)) (f:=(0:Int)) (e:=(0:Int)) (R:=R)) (by kernel_rfl)) (gc H8.code (gc (decide_eq_false h7) (A2 (decide_eq_false h6) (gc (aM (E:=stE) (i:=0) (f:=0) (k:=1) (fun _=>rfl) h5 rfl) (gc (decide_eq_false h6) (gc h4 (A2 (decide_eq_false h6) (A2 (bP h3) (gc (aM (E:=stE) (i:=0) (f:=0) (k:=1) (fun _=>rfl) h5 rfl) (gc (bP h3) (gc h4 (A2 (bP h3) (gc (fk 14 (qP xl [9,13,32] Db Ew) rfl) (gc h0 gn)))))))))))))))))))))))),by kernel_rfl,(⟨fr 176 [(2,(.ptr 0 0)),(4,(.ptr 1 0)),(5,(.ptr 2 0)),(6,(.ptr 3 0)),(7,(.ptr 4 0)),(8,(.ptr 6 0)),(9,(.ptr 7 0)),(10,(.ptr 8 0)),(11,(pI (aO k))),(12,(.ptr 10 0)),(13,(.ptr 11 0)),(35,(.ptr 5 0))],[some (.box 23 [(pI k)]),some (.box 26 [(pI 0),(.p bO)]),some (.box 3 [(pI 0)]),some (.box 3 [(pI 0)]),some (.box 27 [(pI 0)]),some (.box 158 [(pI k),(.own 14),(pI 0),(pI 0),(pI 0)]),some (.box 156 [(.ptr 5 0)]),some (.box 260 [(.fn 164 [(.p (aD ([9,13,32]:List UInt8)))] [])]),some (.box 65 [(.p (bM (aJ k)))]),some (.mp (((bQ k) m)++[((k3V (aK k Ad 0) (aK k Ad 1) (aK k Ad 2)),(.sl Ad.length ((Ad.map cE).flatten)))]) (m.length+1)),some (.box 247 [(.mp 9)]),some (.box 3 [(pI (((nl+1):Nat):Int))]),some .dead,some .dead,some (.row 78 (R.length+1) (((R.map rwE).flatten)++[(PV.sl Ad.length ((Ad.map cE).flatten))]))]⟩:St).t,by kernel_rfl⟩
 exact raw.cast (by rw [D5,D6,E1,E2])
theorem bAo{R m:List (List Cel)}{xl Aa:List UInt8}{Af:List (List UInt8)}{Ad:List Cel}(h0:inR (((nl+1):Nat):Int))(Db:xl.length≤90000)(Ew:∀ b∈xl,b.toNat<128)(h3:((cI xl).length:Int)≠0)(h4:0≤(0:Int)∧(0:Int)<((cI xl).length:Int))(h5:(cI xl)[0]? = some (Aa))(h6:Aa≠([107,108,105,115,116,101,114]:List UInt8))(h7:Aa≠([115,117,109]:List UInt8))(H8:aF Tp 14 vD (dR k nl R m xl Aa 0 ((cI xl).length) (((cI xl).map stE).flatten)) (.exit 3) (dR k nl R m xl Aa Cu Af.length ((Af.map stE).flatten)))(Fz:∀ u∈Af,u.length≤90000)(E0:rdL (aJ k) Af 0 = .inl Ad)(F3:Af.length≠(aJ k).length)(C6:Fg=(nl+1)):bY Tp 14 13 kL (pD (dA k nl R.length ((R.map rwE).flatten) ((bQ k) m) m.length) 45 46 14 xl xb) .ret (bX (bX (bX (bX (dA k Fg R.length ((R.map rwE).flatten) ((bQ k) m) m.length) 5 (some (.box 158 [(pI k),(.own 13),(pI (((nl+1):Nat):Int)),(pI (((aJ k).length+1:Nat):Int)),(pI 11)]))) 2 (some (.box 3 [(pI (((nl+1):Nat):Int))]))) 3 (some (.box 3 [(pI (((aJ k).length+1:Nat):Int))]))) 4 (some (.box 27 [(pI 11)]))).m:=by
 subst C6
 have raw:bY Tp 14 13 kL (pD (dA k nl R.length ((R.map rwE).flatten) ((bQ k) m) m.length) 45 46 14 xl xb) .ret (bX (bX (bX (bX (dA k (nl+1) R.length ((R.map rwE).flatten) ((bQ k) m) m.length) 5 (some (.box 158 [(pI k),(.own 13),(pI (((nl+1):Nat):Int)),(pI (((aJ k).length+1:Nat):Int)),(pI 11)]))) 2 (some (.box 3 [(pI (((nl+1):Nat):Int))]))) 3 (some (.box 3 [(pI (((aJ k).length+1:Nat):Int))]))) 4 (some (.box 27 [(pI 11)]))).m:=⟨⟨fr 176 [(2,(.ptr 0 0)),(4,(.ptr 1 0)),(5,(.ptr 2 0)),(6,(.ptr 3 0)),(7,(.ptr 4 0)),(8,(.ptr 6 0)),(9,(.ptr 7 0)),(10,(.ptr 8 0)),(11,(pI (aO k))),(12,(.ptr 10 0)),(13,(.ptr 11 0)),(35,(.ptr 5 0))],[some (.box 23 [(pI k)]),some (.box 26 [(pI 0),(.p bO)]),some (.box 3 [(pI (((nl+1):Nat):Int))]),some (.box 3 [(pI (((aJ k).length+1:Nat):Int))]),some (.box 27 [(pI 11)]),some (.box 158 [(pI k),(.own 13),(pI (((nl+1):Nat):Int)),(pI (((aJ k).length+1:Nat):Int)),(pI 11)]),some (.box 156 [(.ptr 5 0)]),some (.box 260 [(.fn 164 [(.p (aD ([9,13,32]:List UInt8)))] [])]),some (.box 65 [(.p (bM (aJ k)))]),some (.mp ((bQ k) m) m.length),some (.box 247 [(.mp 9)]),some (.box 3 [(pI (((nl+1):Nat):Int))]),some .dead,some (.row 78 R.length ((R.map rwE).flatten))]⟩,⟨[],[13],[],[]⟩,aA.fin (g:=⟨(rng [(0,2),(3,1),(14,21),(36,8),(45,110),(169,1)]),[],[],[]⟩) (o:=[.c (.own 14) [(14,(.row 9 ((cI xl).length) (((cI xl).map stE).flatten)))],bF,bF,bF,.x (aD Aa),bF,bF,bF,bF,bF,.x (aD Aa),bF,bF,bF,.k 4 ⟨(rng [(0,2),(3,1),(16,1),(22,13),(36,8),(46,1),(70,22),(169,1)]),[14],[],[]⟩ (.exit 3) (dR k nl R m xl Aa Cu Af.length ((Af.map stE).flatten)),.c (.fn 176 [] [(.ptr 15 0),(.ptr 16 0)]) [(5,(.box 158 [(pI k),(.own 13),(pI 0),(pI 0),(pI 0)])),(13,(.row 78 R.length ((R.map rwE).flatten))),(15,(.box 156 [(.ptr 5 0)])),(16,(.box 3 [(pI (((nl+1):Nat):Int))]))],.g 1 ⟨[44],[15,16],[14],[]⟩,.c (.tup [(.own 16),(pB false)]) [(5,(.box 158 [(pI k),(.own 13),(pI (((nl+1):Nat):Int)),(pI (((aJ k).length+1:Nat):Int)),(pI 11)])),(13,(.row 78 R.length ((R.map rwE).flatten))),(14,(.box 156 [(.ptr 5 0)])),(15,(.box 3 [(pI (((nl+1):Nat):Int))])),(16,(.row 80 Ad.length ((Ad.map cE).flatten)))],bT,.c (.tup [(.p (.agg [(aB 0),bO])),(pI (((nl+1):Nat):Int)),(pI (((aJ k).length+1:Nat):Int)),(pI 11)]) [(5,(.box 158 [(pI k),(.own 13),(pI (((nl+1):Nat):Int)),(pI (((aJ k).length+1:Nat):Int)),(pI 11)])),(13,(.row 78 R.length ((R.map rwE).flatten)))]]) (l:=[FC Tp 94 [(.ptr 5 0)] [(5,(.box 158 [(pI k),(.own 13),(pI (((nl+1):Nat):Int)),(pI (((aJ k).length+1:Nat):Int)),(pI 11)])),(13,(.row 78 R.length ((R.map rwE).flatten)))] 17 (.tup [(.p (.agg [(aB 0),bO])),(pI (((nl+1):Nat):Int)),(pI (((aJ k).length+1:Nat):Int)),(pI 11)]) [(5,(.box 158 [(pI k),(.own 13),(pI (((nl+1):Nat):Int)),(pI (((aJ k).length+1:Nat):Int)),(pI 11)])),(13,(.row 78 R.length ((R.map rwE).flatten)))],true=true,FC Tp 91 [(.ptr 5 0),(.p (.sl Af.length ((Af.map stE).flatten))),(.fn 176 [] [(.ptr 14 0),(.ptr 15 0)])] [(5,(.box 158 [(pI k),(.own 13),(pI 0),(pI 0),(pI 0)])),(14,(.box 156 [(.ptr 5 0)])),(15,(.box 3 [(pI (((nl+1):Nat):Int))])),(13,(.row 78 R.length ((R.map rwE).flatten)))] 16 (.tup [(.own 16),(pB false)]) [(5,(.box 158 [(pI k),(.own 13),(pI (((nl+1):Nat):Int)),(pI (((aJ k).length+1:Nat):Int)),(pI 11)])),(13,(.row 78 R.length ((R.map rwE).flatten))),(14,(.box 156 [(.ptr 5 0)])),(15,(.box 3 [(pI (((nl+1):Nat):Int))])),(16,(.row 80 Ad.length ((Ad.map cE).flatten)))],FC Tp 89 [(.ptr 5 0),(pI (((nl+1):Nat):Int))] [(5,(.box 158 [(pI k),(.own 13),(pI 0),(pI 0),(pI 0)])),(13,(.row 78 R.length ((R.map rwE).flatten)))] 15 (.fn 176 [] [(.ptr 15 0),(.ptr 16 0)]) [(5,(.box 158 [(pI k),(.own 13),(pI 0),(pI 0),(pI 0)])),(13,(.row 78 R.length ((R.map rwE).flatten))),(15,(.box 156 [(.ptr 5 0)])),(16,(.box 3 [(pI (((nl+1):Nat):Int))]))],_,(decide (Aa=([115,117,109]:List UInt8)))=false,(decide (Aa=([107,108,105,115,116,101,114]:List UInt8)))=false,(decide (Aa=([107,108,105,115,116,101,114]:List UInt8)))=false,(((cI xl).map stE).flatten)[0]? = some (aD Aa),(decide (Aa=([107,108,105,115,116,101,114]:List UInt8)))=false,_,(decide (Aa=([107,108,105,115,116,101,114]:List UInt8)))=false,(decide (Aa=([107,108,105,115,116,101,114]:List UInt8)))=false,_,_,(((cI xl).map stE).flatten)[0]? = some (aD Aa),_,_,_,_,_,_]) (by kernel_rfl) (gc (FMM.fc (ids:=[5,13]) (kG (k:=k) (l:=(((nl+1):Nat):Int)) (f:=(((aJ k).length+1:Nat):Int)) (e:=(11:Int)) (n:=R.length) (cs:=((R.map rwE).flatten)) (by decide)) (by kernel_rfl)) (gc rfl (gc (FMM.fcN (k:=1) rfl (ids:=[5,13,14,15]) (aKd (((nl+1):Nat):Int) R 0 0 Fz E0 F3) (by kernel_rfl)) (gc (FMM.fcN (k:=2) rfl (ids:=[5,13]) (fA (ln:=(((nl+1):Nat):Int)) (k:=k) (l:=(0:Int)) (f:=(0:Int)) (e:=(0:Int)) (R:=R)) (by kernel_rfl)) (gc H8.code (gc (decide_eq_false h7) (A2 (decide_eq_false h6) (gc (aM (E:=stE) (i:=0) (f:=0) (k:=1) (fun _=>rfl) h5 rfl) (gc (decide_eq_false h6) (gc h4 (A2 (decide_eq_false h6) (A2 (bP h3) (gc (aM (E:=stE) (i:=0) (f:=0) (k:=1) (fun _=>rfl) h5 rfl) (gc (bP h3) (gc h4 (A2 (bP h3) (gc (fk 14 (qP xl [9,13,32] Db Ew) rfl) (gc h0 gn)))))))))))))))))),by kernel_rfl,(⟨fr 176 [(2,(.ptr 0 0)),(4,(.ptr 1 0)),(5,(.ptr 2 0)),(6,(.ptr 3 0)),(7,(.ptr 4 0)),(8,(.ptr 6 0)),(9,(.ptr 7 0)),(10,(.ptr 8 0)),(11,(pI (aO k))),(12,(.ptr 10 0)),(13,(.ptr 11 0)),(35,(.ptr 5 0))],[some (.box 23 [(pI k)]),some (.box 26 [(pI 0),(.p bO)]),some (.box 3 [(pI (((nl+1):Nat):Int))]),some (.box 3 [(pI (((aJ k).length+1:Nat):Int))]),some (.box 27 [(pI 11)]),some (.box 158 [(pI k),(.own 13),(pI (((nl+1):Nat):Int)),(pI (((aJ k).length+1:Nat):Int)),(pI 11)]),some (.box 156 [(.ptr 5 0)]),some (.box 260 [(.fn 164 [(.p (aD ([9,13,32]:List UInt8)))] [])]),some (.box 65 [(.p (bM (aJ k)))]),some (.mp ((bQ k) m) m.length),some (.box 247 [(.mp 9)]),some (.box 3 [(pI (((nl+1):Nat):Int))]),some .dead,some (.row 78 R.length ((R.map rwE).flatten))]⟩:St).t,by kernel_rfl⟩
 exact raw
theorem bAp{R m:List (List Cel)}{xl Aa:List UInt8}{Af:List (List UInt8)}{Bt Bo:Int}(h0:inR (((nl+1):Nat):Int))(Db:xl.length≤90000)(Ew:∀ b∈xl,b.toNat<128)(h3:((cI xl).length:Int)≠0)(h4:0≤(0:Int)∧(0:Int)<((cI xl).length:Int))(h5:(cI xl)[0]? = some (Aa))(h6:Aa≠([107,108,105,115,116,101,114]:List UInt8))(h7:Aa≠([115,117,109]:List UInt8))(H8:aF Tp 14 vD (dR k nl R m xl Aa 0 ((cI xl).length) (((cI xl).map stE).flatten)) (.exit 3) (dR k nl R m xl Aa Cu Af.length ((Af.map stE).flatten)))(Fz:∀ u∈Af,u.length≤90000)(E0:rdL (aJ k) Af 0 = .inr (Bt,Bo))(Nv:Bo≠0)(C6:Fg=(nl+1)):bY Tp 14 13 kL (pD (dA k nl R.length ((R.map rwE).flatten) ((bQ k) m) m.length) 45 46 14 xl xb) .ret (bX (bX (bX (bX (dA k Fg R.length ((R.map rwE).flatten) ((bQ k) m) m.length) 5 (some (.box 158 [(pI k),(.own 13),(pI (((nl+1):Nat):Int)),(pI Bt),(pI Bo)]))) 2 (some (.box 3 [(pI (((nl+1):Nat):Int))]))) 3 (some (.box 3 [(pI Bt)]))) 4 (some (.box 27 [(pI Bo)]))).m:=by
 subst C6
 have raw:bY Tp 14 13 kL (pD (dA k nl R.length ((R.map rwE).flatten) ((bQ k) m) m.length) 45 46 14 xl xb) .ret (bX (bX (bX (bX (dA k (nl+1) R.length ((R.map rwE).flatten) ((bQ k) m) m.length) 5 (some (.box 158 [(pI k),(.own 13),(pI (((nl+1):Nat):Int)),(pI Bt),(pI Bo)]))) 2 (some (.box 3 [(pI (((nl+1):Nat):Int))]))) 3 (some (.box 3 [(pI Bt)]))) 4 (some (.box 27 [(pI Bo)]))).m:=⟨⟨fr 176 [(2,(.ptr 0 0)),(4,(.ptr 1 0)),(5,(.ptr 2 0)),(6,(.ptr 3 0)),(7,(.ptr 4 0)),(8,(.ptr 6 0)),(9,(.ptr 7 0)),(10,(.ptr 8 0)),(11,(pI (aO k))),(12,(.ptr 10 0)),(13,(.ptr 11 0)),(35,(.ptr 5 0))],[some (.box 23 [(pI k)]),some (.box 26 [(pI 0),(.p bO)]),some (.box 3 [(pI (((nl+1):Nat):Int))]),some (.box 3 [(pI Bt)]),some (.box 27 [(pI Bo)]),some (.box 158 [(pI k),(.own 13),(pI (((nl+1):Nat):Int)),(pI Bt),(pI Bo)]),some (.box 156 [(.ptr 5 0)]),some (.box 260 [(.fn 164 [(.p (aD ([9,13,32]:List UInt8)))] [])]),some (.box 65 [(.p (bM (aJ k)))]),some (.mp ((bQ k) m) m.length),some (.box 247 [(.mp 9)]),some (.box 3 [(pI (((nl+1):Nat):Int))]),some .dead,some (.row 78 R.length ((R.map rwE).flatten))]⟩,⟨[],[13],[],[]⟩,aA.fin (g:=⟨(rng [(0,2),(3,1),(14,21),(36,8),(45,110),(169,1)]),[],[],[]⟩) (o:=[.c (.own 14) [(14,(.row 9 ((cI xl).length) (((cI xl).map stE).flatten)))],bF,bF,bF,.x (aD Aa),bF,bF,bF,bF,bF,.x (aD Aa),bF,bF,bF,.k 4 ⟨(rng [(0,2),(3,1),(16,1),(22,13),(36,8),(46,1),(70,22),(169,1)]),[14],[],[]⟩ (.exit 3) (dR k nl R m xl Aa Cu Af.length ((Af.map stE).flatten)),.c (.fn 176 [] [(.ptr 15 0),(.ptr 16 0)]) [(5,(.box 158 [(pI k),(.own 13),(pI 0),(pI 0),(pI 0)])),(13,(.row 78 R.length ((R.map rwE).flatten))),(15,(.box 156 [(.ptr 5 0)])),(16,(.box 3 [(pI (((nl+1):Nat):Int))]))],.g 1 ⟨[44],[15,16],[14],[]⟩,.c (.tup [(.p bO),(pB false)]) [(5,(.box 158 [(pI k),(.own 13),(pI (((nl+1):Nat):Int)),(pI Bt),(pI Bo)])),(13,(.row 78 R.length ((R.map rwE).flatten))),(14,(.box 156 [(.ptr 5 0)])),(15,(.box 3 [(pI (((nl+1):Nat):Int))]))],bT,.c (.tup [(.p (.agg [(aB 0),bO])),(pI (((nl+1):Nat):Int)),(pI Bt),(pI Bo)]) [(5,(.box 158 [(pI k),(.own 13),(pI (((nl+1):Nat):Int)),(pI Bt),(pI Bo)])),(13,(.row 78 R.length ((R.map rwE).flatten)))]]) (l:=[FC Tp 94 [(.ptr 5 0)] [(5,(.box 158 [(pI k),(.own 13),(pI (((nl+1):Nat):Int)),(pI Bt),(pI Bo)])),(13,(.row 78 R.length ((R.map rwE).flatten)))] 16 (.tup [(.p (.agg [(aB 0),bO])),(pI (((nl+1):Nat):Int)),(pI Bt),(pI Bo)]) [(5,(.box 158 [(pI k),(.own 13),(pI (((nl+1):Nat):Int)),(pI Bt),(pI Bo)])),(13,(.row 78 R.length ((R.map rwE).flatten)))],true=true,FC Tp 91 [(.ptr 5 0),(.p (.sl Af.length ((Af.map stE).flatten))),(.fn 176 [] [(.ptr 14 0),(.ptr 15 0)])] [(5,(.box 158 [(pI k),(.own 13),(pI 0),(pI 0),(pI 0)])),(14,(.box 156 [(.ptr 5 0)])),(15,(.box 3 [(pI (((nl+1):Nat):Int))])),(13,(.row 78 R.length ((R.map rwE).flatten)))] 16 (.tup [(.p bO),(pB false)]) [(5,(.box 158 [(pI k),(.own 13),(pI (((nl+1):Nat):Int)),(pI Bt),(pI Bo)])),(13,(.row 78 R.length ((R.map rwE).flatten))),(14,(.box 156 [(.ptr 5 0)])),(15,(.box 3 [(pI (((nl+1):Nat):Int))]))],FC Tp 89 [(.ptr 5 0),(pI (((nl+1):Nat):Int))] [(5,(.box 158 [(pI k),(.own 13),(pI 0),(pI 0),(pI 0)])),(13,(.row 78 R.length ((R.map rwE).flatten)))] 15 (.fn 176 [] [(.ptr 15 0),(.ptr 16 0)]) [(5,(.box 158 [(pI k),(.own 13),(pI 0),(pI 0),(pI 0)])),(13,(.row 78 R.length ((R.map rwE).flatten))),(15,(.box 156 [(.ptr 5 0)])),(16,(.box 3 [(pI (((nl+1):Nat):Int))]))],_,(decide (Aa=([115,117,109]:List UInt8)))=false,(decide (Aa=([107,108,105,115,116,101,114]:List UInt8)))=false,(decide (Aa=([107,108,105,115,116,101,114]:List UInt8)))=false,(((cI xl).map stE).flatten)[0]? = some (aD Aa),(decide (Aa=([107,108,105,115,116,101,114]:List UInt8)))=false,_,(decide (Aa=([107,108,105,115,116,101,114]:List UInt8)))=false,(decide (Aa=([107,108,105,115,116,101,114]:List UInt8)))=false,_,_,(((cI xl).map stE).flatten)[0]? = some (aD Aa),_,_,_,_,_,_]) (by kernel_rfl) (gc (FMM.fc (ids:=[5,13]) (kG (k:=k) (l:=(((nl+1):Nat):Int)) (f:=Bt) (e:=Bo) (n:=R.length) (cs:=((R.map rwE).flatten)) Nv) (by kernel_rfl)) (gc rfl (gc (FMM.fcN (k:=0) rfl (ids:=[5,13,14,15]) (aRs (((nl+1):Nat):Int) R 0 0 Fz E0).2 (by kernel_rfl)) (gc (FMM.fcN (k:=2) rfl (ids:=[5,13]) (fA (ln:=(((nl+1):Nat):Int)) (k:=k) (l:=(0:Int)) (f:=(0:Int)) (e:=(0:Int)) (R:=R)) (by kernel_rfl)) (gc H8.code (gc (decide_eq_false h7) (A2 (decide_eq_false h6) (gc (aM (E:=stE) (i:=0) (f:=0) (k:=1) (fun _=>rfl) h5 rfl) (gc (decide_eq_false h6) (gc h4 (A2 (decide_eq_false h6) (A2 (bP h3) (gc (aM (E:=stE) (i:=0) (f:=0) (k:=1) (fun _=>rfl) h5 rfl) (gc (bP h3) (gc h4 (A2 (bP h3) (gc (fk 14 (qP xl [9,13,32] Db Ew) rfl) (gc h0 gn)))))))))))))))))),by kernel_rfl,(⟨fr 176 [(2,(.ptr 0 0)),(4,(.ptr 1 0)),(5,(.ptr 2 0)),(6,(.ptr 3 0)),(7,(.ptr 4 0)),(8,(.ptr 6 0)),(9,(.ptr 7 0)),(10,(.ptr 8 0)),(11,(pI (aO k))),(12,(.ptr 10 0)),(13,(.ptr 11 0)),(35,(.ptr 5 0))],[some (.box 23 [(pI k)]),some (.box 26 [(pI 0),(.p bO)]),some (.box 3 [(pI (((nl+1):Nat):Int))]),some (.box 3 [(pI Bt)]),some (.box 27 [(pI Bo)]),some (.box 158 [(pI k),(.own 13),(pI (((nl+1):Nat):Int)),(pI Bt),(pI Bo)]),some (.box 156 [(.ptr 5 0)]),some (.box 260 [(.fn 164 [(.p (aD ([9,13,32]:List UInt8)))] [])]),some (.box 65 [(.p (bM (aJ k)))]),some (.mp ((bQ k) m) m.length),some (.box 247 [(.mp 9)]),some (.box 3 [(pI (((nl+1):Nat):Int))]),some .dead,some (.row 78 R.length ((R.map rwE).flatten))]⟩:St).t,by kernel_rfl⟩
 exact raw
section
variable{xl:List UInt8}(h0:(i:Int)<((cI xl).length:Int))(h1:(i:Int)<((aJ k).length:Int))(h2:(aJ k)[i]? = some Ac)
include h0 h1 h2
theorem bAq{R m:List (List Cel)}{Aa:List UInt8}{fs:List (List UInt8)}{Hk:List UInt8}{Ls:List (List UInt8)}(h3:Ac=0)(h4:0≤(i:Int)∧(i:Int)<(fs.length:Int))(h5:fs[i]? = some (Hk))(h6:(i*1)<((fs.map stE).flatten).length)(h7:cn i)(Aj:i'=(i+1))(Kv:Ls.length=fs.length)(Kw:(Ls.map stE).flatten=(((fs.map stE).flatten).set (i*1) (aD (fO Hk)))):aA Tp 14 vD (dR k nl R m xl Aa i fs.length ((fs.map stE).flatten)) .normal (dR k nl R m xl Aa i' Ls.length ((Ls.map stE).flatten)):=by
 subst Aj;have k1:=fk 15 (bZj Hk) rfl;rw [Kv,Kw];exact aA.fi (gI ae [14]) (rT 5++[.x (aB Ac),bT,bT,bT,.x (aD Hk),k1.o]) (gc h7 (gc h6 (gc h4 (gc k1 (gt (((fs.map stE).flatten)[(i*1)]? = some (aD Hk)) (aM (E:=stE) (i:=i) (f:=0) (k:=1) (fun _=>rfl) h5 rfl) (gc h4 (gc (dC h3) (A2 (cP h1) (gc (atm aB h2) (gc (cP h1) (gc (ixn aB h2) (Ay (cP h1) (g0 h0)))))))))))))
theorem bAr{R m:List (List Cel)}{Aa:List UInt8}{fs:List (List UInt8)}(h3:Ac≠0)(h4:cn i)(Aj:i'=(i+1)):aA Tp 14 vD (dR k nl R m xl Aa i fs.length ((fs.map stE).flatten)) .normal (dR k nl R m xl Aa i' fs.length ((fs.map stE).flatten)):=by
 subst Aj;exact aA.fi (gI ae [14]) (rT 5++[.x (aB Ac),bT,bT,bF]) (gc h4 (gc (bP h3) (A2 (cP h1) (gc (atm aB h2) (gc (cP h1) (gc (ixn aB h2) (Ay (cP h1) (g0 h0))))))))
end
theorem bAs{R m:List (List Cel)}{xl Aa:List UInt8}{fs:List (List UInt8)}(h0:(i:Int)<((cI xl).length:Int))(h1:((aJ k).length:Int)≤(i:Int))(h2:cn i)(Aj:i'=(i+1)):aA Tp 14 vD (dR k nl R m xl Aa i fs.length ((fs.map stE).flatten)) .normal (dR k nl R m xl Aa i' fs.length ((fs.map stE).flatten)):=by
 subst Aj;exact aA.fi (gI ae [14]) ([bT]++rF 6) (gc h2 (Hq (bL h1) (g0 h0)))
theorem bAt{R m:List (List Cel)}{xl Aa:List UInt8}{fs:List (List UInt8)}(h0:((cI xl).length:Int)≤(i:Int)):aA Tp 14 vD (dR k nl R m xl Aa i fs.length ((fs.map stE).flatten)) (.exit 3) (dR k nl R m xl Aa i fs.length ((fs.map stE).flatten)):=aA.fi (gI ae [14]) [bF] (gc (bL h0) gn)
end
end KV
end Go.Proofs
section
set_option maxRecDepth 1000000
namespace Go.Proofs
open Go.RowKit Go.Maps
namespace KV
open Tryz
theorem bOq(s p:List UInt8):(∀ b∈(Lib.cut s p).1,b∈s)∧(Lib.cut s p).1.length≤s.length∧∀ b∈(Lib.cut s p).2.1,b∈s:=by
 unfold Lib.cut
 split
 ·exact ⟨fun b hb=>List.mem_of_mem_take hb,by rw [vV];omega,fun b hb=>List.mem_of_mem_drop hb⟩
 ·exact ⟨fun b hb=>hb,Bb _,fun b hb=>(by cases hb)⟩
theorem aLi:∀ (k:Nat) (s:List UInt8),s.length≤k→∀ x∈bW s,x.1.length≤s.length∧∀ b∈x.1,b∈s
 | k,s,h,x,hx=>by
  by_cases hs:s=[]
  ·subst hs;rw [lI] at hx;cases hx
  ·rw [eO hs] at hx
   obtain ⟨c1,c2,c3⟩:=bOq s [10];have hlt:=tB (s:=s) (x:=[10]) hs (by simp)
   rcases kD.1 hx with rfl | hx
   ·exact ⟨c2,c1⟩
   ·match k,h with
    | 0,h=>exact absurd (pA (by omega)) hs
    | k+1,h =>
     obtain ⟨h1,h2⟩:=aLi k (Lib.cut s [10]).2.1 (by omega) x hx
     exact ⟨by omega,fun b hb=>c3 b (h2 b hb)⟩
def oP:List Int→List (List UInt8)→List (List UInt8)
 | [],us=>us
 | _::_,[]=>[]
 | t::ts,u::us=>(if t=0 then fO u else u)::oP ts us
theorem aLj:∀ (ts:List Int) (us:List (List UInt8)),(oP ts us).length=us.length
 | [],us=>rfl
 | _::_,[]=>rfl
 | t::ts,u::us=>by simp [oP,aLj ts us]
theorem aBg:∀ u:List UInt8,(fO u).length≤u.length
 | []=>Bb _
 | b::r=>by
  simp only [fO]
  split
  ·have:=aBg r;simp;omega
  ·exact Bb _
theorem aLk:∀ (ts:List Int) (us:List (List UInt8)) (N:Nat),(∀ u∈us,u.length≤N)→∀ u∈oP ts us,u.length≤N
 | [],us,N,h,u,hu=>h u hu
 | _::_,[],N,h,u,hu=>by cases hu
 | t::ts,v::us,N,h,u,hu=>by
  rcases kD.1 hu with rfl | hu
  ·have:=h v (by simp)
   split
   ·exact iL (aBg v) this
   ·exact this
  ·exact aLk ts us N (fun u hu=>h u (Ci _ hu)) u hu
theorem bZd{cs s u:List UInt8}(h:u∈aLn cs s):u.length≤s.length:=by
 unfold aLn at h
 obtain ⟨x,_,rfl⟩:=sY.1 h;unfold aBj;rw [vV,xV];omega
theorem cCw{cs s:List UInt8}:(aLn cs s).length≤s.length+1:=by
 have hI:=bIs cs s (gF 0 s).length (Bb _);rw [List.take_length] at hI
 have h1:=hI.len;rw [tE] at h1
 unfold aLn bZk bIr;rw [mE]
 split
 ·rw [B4];simp;omega
 ·omega
theorem yF{k:Int}{nl:Nat}{R m:List (List Cel)}{xl Aa:List UInt8}(hn:xl.length≤90000):∀ (us:List (List UInt8)) (ts:List Int) (dn:List (List UInt8)) (fs:List (List UInt8)),fs=dn++us→fs.length=(cI xl).length→(aJ k).drop dn.length=ts →
  aF Tp 14 (sub (cd Tryz.f79) [1,1,1,1,1,1,1,0,1,0,1,0,1,1,1,0,1,0,0]) (dR k nl R m xl Aa dn.length fs.length ((fs.map stE).flatten)) (.exit 3) (dR k nl R m xl Aa (cI xl).length (dn++oP ts us).length (((dn++oP ts us).map stE).flatten))
 | [],ts,dn,fs,he,hl,hd=>by
  subst he;rw [List.append_nil] at hl ⊢
  have:oP ts []=[]:=by cases ts <;> rfl
  rw [this,List.append_nil,hl];have hx:=bAt (k:=k) (nl:=nl) (R:=R) (m:=m) (xl:=xl) (Aa:=Aa) (i:=dn.length) (fs:=dn) (by omega)
  rw [hl] at hx
  exact .exit hx (by simp)
 | u::us,ts,dn,fs,he,hl,hd=>by
  subst he;have h0:(dn.length:Int)<((cI xl).length:Int):=by rw [← hl];simp;omega
  have hN:(cI xl).length≤xl.length+1:=cCw;have hi:inR (((dn.length+1:Nat)):Int):=aV (by omega)
  have hat:(dn++u::us)[dn.length]? = some u:=by simp
  have hset:∀ v,(dn++u::us).set dn.length v=(dn++[v])++us:=fun v=>by
   rw [List.set_append,if_neg (by omega),aVs];simp
  match ts,hd with
  | [],hd =>
   have h1:((aJ k).length:Int)≤(dn.length:Int):=by
    have:=congrArg List.length hd;simp at this;omega
   have:=yF (k:=k) (nl:=nl) (R:=R) (m:=m) (Aa:=Aa) hn us [] (dn++[u]) ((dn++[u])++us) rfl (by rw [← hl];simp) (by
    rw [List.drop_eq_nil_iff] at hd ⊢
    simp;omega)
   have e:(dn++[u])++us=dn++u::us:=by simp
   rw [e,B4,List.length_singleton] at this
   have e2:(dn++[u])++oP [] us=dn++oP [] (u::us):=by simp [oP]
   rw [e2] at this
   exact .step (bAs h0 h1 hi rfl) this
  | t::ts,hd =>
   have hlt:dn.length<(aJ k).length:=by
    have:=congrArg List.length hd;simp at this;omega
   have ht:(aJ k)[dn.length]? = some t:=by
    have:=congrArg (·[0]?) hd
    simpa using this
   have Fo:(aJ k).drop (dn.length+1)=ts:=by rw [← List.tail_drop,hd];rfl
   by_cases hz:t=0
   ·have:=yF (k:=k) (nl:=nl) (R:=R) (m:=m) (Aa:=Aa) hn us ts (dn++[fO u]) ((dn++[fO u])++us) rfl (by rw [← hl];simp) (by simpa using Fo)
    rw [← hset,B4,List.length_singleton] at this
    have e2:(dn++[fO u])++oP ts us=dn++oP (t::ts) (u::us):=by simp [oP,hz]
    rw [e2] at this
    exact .step (bAq h0 (by omega) ht hz (by simp;omega) hat (by rw [jO];simp) hi rfl (by simp) (by rw [jO,jO,List.map_set,Nat.mul_one])) this
   ·have:=yF (k:=k) (nl:=nl) (R:=R) (m:=m) (Aa:=Aa) hn us ts (dn++[u]) ((dn++[u])++us) rfl (by rw [← hl];simp) (by simpa using Fo)
    have e:(dn++[u])++us=dn++u::us:=by simp
    rw [e,B4,List.length_singleton] at this
    have e2:(dn++[u])++oP ts us=dn++oP (t::ts) (u::us):=by simp [oP,hz]
    rw [e2] at this
    exact .step (bAr h0 (by omega) ht hz hi rfl) this
theorem bZe(s:List UInt8):0≤(paM s).1∧(paM s).1≤360000:=by
 unfold paM
 split
 ·rename_i h
  obtain ⟨_,_,h7,h8,_⟩:=h;have b1:=aGv (by omega) h7
  have b2:=aGv (by omega) h8
  have bn:=lZ (Lib.cut s [58]).1 360000 (by omega)
  split
  ·exact ⟨aVt _,by decide⟩
  ·rename_i h2
   have h3:=fun q=>h2 (.inr q)
   dsimp only;constructor <;> omega
 ·exact ⟨aVt _,by decide⟩
theorem bZf(t:Int)(u:List UInt8) : -1000000000≤(rdM t u).1.1∧(rdM t u).1.1≤1000000000:=by
 unfold rdM;have h1:=lZ u 999999 (by omega)
 have h2:=bZe u
 split
 ·dsimp only;omega
 ·split
  ·dsimp only;omega
  ·by_cases hh:(if t=2 then mH u else mI u)=true
   ·rw [if_pos hh];exact (by decide : -1000000000≤(0:Int)∧(0:Int)≤1000000000)
   ·rw [if_neg hh];exact (by decide : -1000000000≤(0:Int)∧(0:Int)≤1000000000)
theorem aPx:∀ (ts:List Int) (us:List (List UInt8)) (i:Nat) (cs:List Cel),rdL ts us i = .inl cs→∀ c∈cs,-1000000000≤c.1∧c.1≤1000000000
 | [],us,i,cs,h,c,hc=>by cases h;cases hc
 | t::ts,[],i,cs,h,c,hc=>by cases h
 | t::ts,u::us,i,cs,h,c,hc=>by
  unfold rdL at h
  split at h
  ·cases h
  ·split at h
   ·rename_i Bh he
    cases h
    rcases kD.1 hc with rfl | hc
    ·exact bZf t u
    ·exact aPx ts us (i+1) Bh he c hc
   ·cases h
theorem bIn{k:Int}{r:List Cel}(h:∀ c∈r,-1000000000≤c.1∧c.1≤1000000000):kN k r:=by
 have hj:∀ j,-1000000000≤aK k r j∧aK k r j≤1000000000:=fun j=>by
  unfold aK
  split
  ·cases hr:r[j]? with
   | none=>simp
   | some c=>simpa using h c (Cj hr)
  ·simp
 intro x hx;simp only [Av,kD,List.not_mem_nil,or_false] at hx
 rcases hx with rfl | rfl | rfl <;> exact hj _
structure TSt where
 nl:Nat
 R:List (List Cel)
def wKl:List UInt8:=[107,108,105,115,116,101,114]
def cCx:List UInt8:=[115,117,109]
def tdF(k:Int)(a:TSt)(x:List UInt8 × Bool):Except (TSt × Int × Int × Int) TSt :=
 match (cI x.1)[0]? with
 | none => .ok ⟨a.nl+1,a.R⟩
 | some u=>if u=wKl then .ok ⟨a.nl+1,a.R⟩ else if u=cCx then .ok ⟨a.nl+1,a.R⟩ else
  match rdL (aJ k) (oP (aJ k) (cI x.1)) 0 with
  | .inr p => .error (⟨a.nl+1,a.R⟩,((a.nl+1:Nat):Int),p.1,p.2)
  | .inl cs=>if (cI x.1).length≠(aJ k).length then .error (⟨a.nl+1,a.R⟩,((a.nl+1:Nat):Int),(((aJ k).length+1:Nat):Int),11) else
   match kO k a.R cs with
   | none => .ok ⟨a.nl+1,a.R++[cs]⟩
   | some y=>if y=cs then .ok ⟨a.nl+1,a.R⟩ else .error (⟨a.nl+1,a.R⟩,((a.nl+1:Nat):Int),1,5)
structure aPy (k:Int) (pre:List (List UInt8 × Bool)) (a:TSt):Prop where
 nl:a.nl=pre.length
 Rn:a.R.length≤a.nl
 len:∀ r∈a.R,r.length=(aJ k).length
 ky:∀ r∈a.R,kN k r
 nd:(a.R.map (Av k)).Nodup
theorem bAf{k:Int}{R:List (List Cel)}{r y:List Cel}(h:kO k R r=some y):y∈R:=bLh h
theorem bAg{k:Int}{pre:List (List UInt8 × Bool)}{a a2:TSt}{x:List UInt8 × Bool}(h:aPy k pre a)(hf:tdF k a x = .ok a2):aPy k (pre++[x]) a2:=by
 obtain ⟨h1,h2,h3,h4,h5⟩:=h;have keep:aPy k (pre++[x]) ⟨a.nl+1,a.R⟩:=⟨by simp [h1],by show a.R.length≤a.nl+1;omega,h3,h4,h5⟩
 unfold tdF at hf
 split at hf
 ·cases hf;exact keep
 ·split at hf
  ·cases hf;exact keep
  ·split at hf
   ·cases hf;exact keep
   ·split at hf
    ·cases hf
    ·rename_i cs hr
     split at hf
     ·cases hf
     ·split at hf
      ·rename_i hl
       cases hf;refine ⟨by simp [h1],by simp;omega,fun r Du => ?_,fun r Du => ?_,?_⟩
       ·rcases oG.1 Du with q | q
        ·exact h3 r q
        ·rw [List.mem_singleton] at q;subst q;exact rN _ _ _ _ hr
       ·rcases oG.1 Du with q | q
        ·exact h4 r q
        ·rw [List.mem_singleton] at q;subst q;exact bIn (aPx _ _ _ _ hr)
       ·show ((a.R++[cs]).map (Av k)).Nodup
        rw [pT,List.nodup_append];refine ⟨h5,by simp,fun u hu v hv e => ?_⟩
        simp only [eZ,List.map_nil,List.mem_singleton] at hv
        subst hv;subst e;obtain ⟨y,hy,hyk⟩:=sY.1 hu;have:=List.find?_eq_none.1 hl y hy;simp [hyk] at this
      ·split at hf
       ·cases hf;exact keep
       ·cases hf
theorem aBh{k:Int}:∀ (l pre:List (List UInt8 × Bool)) (a a2:TSt),aPy k pre a→itB (tdF k) a l = .ok a2→aPy k (pre++l) a2
 | [],pre,a,a2,h,hi=>by cases hi;rw [List.append_nil];exact h
 | x::l,pre,a,a2,h,hi=>by
  cases hf:tdF k a x with
  | error e=>simp only [itB,hf] at hi;cases hi
  | ok a' =>
   simp only [itB,hf] at hi
   have:=aBh l (pre++[x]) a' a2 (bAg h hf) hi;rw [List.append_assoc] at this
   exact this
def tdA:TSt:=⟨0,[]⟩
theorem bIo(k:Int):aPy k [] tdA:=⟨rfl,Bb _,fun r h=>(by cases h),fun r h=>(by cases h),List.nodup_nil⟩
abbrev tdS(k:Int)(a:TSt):St:=dA k a.nl a.R.length ((a.R.map rwE).flatten) (bQ k a.R) a.R.length
abbrev tdR(k:Int)(e:TSt × Int × Int × Int):St:=bX (bX (bX (bX (tdS k e.1) 5 (some (.box 158 [.p (aB k),.own 13,.p (aB e.2.1),.p (aB e.2.2.1),.p (aB e.2.2.2)]))) 2 (some (.box 3 [.p (aB e.2.1)]))) 3 (some (.box 3 [.p (aB e.2.2.1)]))) 4 (some (.box 27 [.p (aB e.2.2.2)]))
theorem bIp{k:Int}{s:List UInt8}(hs:s.length≤65536)(ha:∀ b∈s,b.toNat<128){pre:List (List UInt8 × Bool)}{x:List UInt8 × Bool}{a:TSt}(hp:pre++[x] <+: bW s)(h:aPy k pre a) :
  (∀ a',tdF k a x = .ok a'→bY Tp 14 13 (sub (cd Tryz.f79) [1,1,1,1,1,1,1,0,1,0,1]) (pD (tdS k a) 45 46 14 x.1 x.2) .normal (tdS k a').m) ∧
  (∀ e,tdF k a x = .error e→bY Tp 14 13 (sub (cd Tryz.f79) [1,1,1,1,1,1,1,0,1,0,1]) (pD (tdS k a) 45 46 14 x.1 x.2) .ret (tdR k e).m):=by
 have hxm:x∈bW s:=by
  obtain ⟨l,hl⟩:=hp;rw [← hl];simp
 obtain ⟨Gk,Fc⟩:=aLi _ s (Bb _) x hxm;have hpl:pre.length<s.length+1:=by
  have h1:=tC _ s (Bb _);obtain ⟨l,hl⟩:=hp;have:=congrArg List.length hl;simp at this;omega
 obtain ⟨xl,xb⟩:=x;obtain ⟨nl,R⟩:=a;obtain ⟨h1,h2,h3,h4,h5⟩:=h;dsimp only at h1 h2 h3 h4 h5 Gk Fc
 have i1:inR (((nl+1:Nat)):Int):=aV (by omega)
 have i2:xl.length≤90000:=by omega
 have i3:∀ b∈xl,b.toNat<128:=fun b hb=>ha b (Fc b hb)
 unfold tdF;dsimp only;cases hf:(cI xl)[0]? with
 | none =>
  refine ⟨fun _ h => ?_,fun _ h=>(by cases h)⟩
  cases h;have:(cI xl).length=0:=by simpa using hf
  exact bAi i1 i2 i3 (by omega) rfl
 | some u =>
  have hn:0<(cI xl).length:=bN hf;have z1:((cI xl).length:Int)≠(0:Int):=by omega
  have z2:0≤(0:Int)∧(0:Int)<((cI xl).length:Int):=by omega
  dsimp only
  by_cases hk:u=wKl
  ·rw [if_pos hk]
   refine ⟨fun _ h => ?_,fun _ h=>(by cases h)⟩
   cases h;exact bAj i1 i2 i3 z1 z2 hf hk rfl
  rw [if_neg hk]
  by_cases hu:u=cCx
  ·rw [if_pos hu]
   refine ⟨fun _ h => ?_,fun _ h=>(by cases h)⟩
   cases h;exact bAk i1 i2 i3 z1 z2 hf hk hu rfl
  rw [if_neg hu];have hL:=yF (k:=k) (nl:=nl) (R:=R) (m:=R) (xl:=xl) (Aa:=u) i2 (cI xl) (aJ k) [] (cI xl) rfl rfl rfl;rw [List.nil_append,List.length_nil] at hL
  have Fz:∀ v∈oP (aJ k) (cI xl),v.length≤90000:=aLk _ _ _ (fun v hv=>iL (bZd hv) i2)
  cases hr:rdL (aJ k) (oP (aJ k) (cI xl)) 0 with
  | inr p =>
   obtain ⟨fd,er⟩:=p;refine ⟨fun _ h=>(by cases h),fun _ h => ?_⟩
   cases h;exact bAp i1 i2 i3 z1 z2 hf hk hu hL Fz hr (aHh _ _ _ _ hr) rfl
  | inl cs =>
   have hcl:=rN _ _ _ _ hr;have hsl:=aLj (aJ k) (cI xl);dsimp only
   by_cases hfl:(cI xl).length=(aJ k).length
   ·rw [if_neg (by simp [hfl])]
    have hkc:aO k≤(cs.length:Int):=by rw [hcl];exact uQ k
    have hki:=bIn (k:=k) (aPx _ _ _ _ hr);have hKA:=vF h4 hki h5;cases hlk:kO k R cs with
    | none =>
     refine ⟨fun _ h => ?_,fun _ h=>(by cases h)⟩
     cases h;exact bAn (R:=R) (m:=R) (R':=R++[cs]) (m':=R++[cs]) i1 i2 i3 z1 z2 hf hk hu hL Fz hr (by rw [hsl];exact hfl) hkc hKA (by rw [nR,nS,hlk];rfl) ⟨rfl,by omega⟩ rfl (by simp) (nP R cs) (aFb k R cs) (by simp)
    | some y =>
     have hy:=h3 y (bAf hlk);have hcol:(aJ k).length≤10:=by unfold aJ;(repeat' split) <;> decide
     dsimp only
     by_cases he:y=cs
     ·rw [if_pos he]
      refine ⟨fun _ h => ?_,fun _ h=>(by cases h)⟩
      cases h;exact bAm i1 i2 i3 z1 z2 hf hk hu hL Fz hr (by rw [hsl];exact hfl) hkc hKA (by rw [nR,nS,hlk];rfl) (by rw [rQ,hlk];rfl) (by omega) (decide_eq_true he) rfl
     ·rw [if_neg he]
      refine ⟨fun _ h=>(by cases h),fun _ h => ?_⟩
      cases h;exact bAl i1 i2 i3 z1 z2 hf hk hu hL Fz hr (by rw [hsl];exact hfl) hkc hKA (by rw [nR,nS,hlk];rfl) (by rw [rQ,hlk];rfl) (by omega) (decide_eq_false he) rfl
   ·rw [if_pos hfl]
    refine ⟨fun _ h=>(by cases h),fun _ h => ?_⟩
    cases h;exact bAo i1 i2 i3 z1 z2 hf hk hu hL Fz hr (by rw [hsl];exact hfl) rfl
theorem aBi{M A B:Mem}{es:List (Value × PV)}{cl:Nat}{o:AO}(hA:oN A=true)(hB:oN B=true)(ho:M[A.length]? = some (some o))(hv:∀ e∈es,nmP e.2=true):oM M (A++some (.mp es cl)::B):=by
 intro id E8 Ju h
 rcases Nat.lt_trichotomy id A.length with q | q | q
 ·rw [aCd q] at h
  exact absurd h ((eR hA).1 _ _ _)
 ·subst q
  rw [aGi (Bb _),aVs] at h
  simp at h
  obtain ⟨rfl,_⟩:=h;exact ⟨⟨o,ho⟩,fun j hj=>hv _ (gX hj)⟩
 ·rw [aGi (by omega)] at h
  obtain ⟨d,hd⟩:∃ d,id-A.length=d+1:=⟨id-A.length-1,by omega⟩
  rw [hd,List.getElem?_cons_succ] at h
  exact absurd h ((eR hB).1 _ _ _)
theorem bIq(k:Int)(R:List (List Cel)):∀ e∈bQ k R,nmP e.2=true:=fun e he=>by
 obtain ⟨r,_,rfl⟩:=sY.1 he;have:=aSq r;show nmP (aN r)=true;unfold rwE at this
 simpa [iQ] using this
theorem wJ:∀ l:List Int,iQ (l.map aB)=true
 | []=>rfl
 | _::l=>wJ l
theorem bAh{k:Int}{s:List UInt8}(hs:s.length≤65536)(ha:∀ b∈s,b.toNat<128) :
  (∀ a,itB (tdF k) tdA (bW s) = .ok a→aA Tp 0 (sub (cd Tryz.f79) bc) (wK k s) .normal (tdS k a))∧(∀ e,itB (tdF k) tdA (bW s) = .error e→aA Tp 0 (sub (cd Tryz.f79) bc) (wK k s) .ret (tdR k e)):=by
 refine aBd (k:=0) (kb:=14) (kk:=13) (gi:=44) (p1:=45) (p2:=46) (bx:=12) (g0:=⟨[],[13],[],[(105001,78)]⟩) s (by omega) (wK k s) (tdS k) (tdR k) (wK k s).t (tdF k) tdA
  (s1T 45 46 14) (Hj 45 46 14) (asg := aPv 11 45 14 9 "read.go:179") (body := (sub (cd Tryz.f79) [1, 1, 1, 1, 1, 1, 1, 0, 1, 0, 1])) (by kernel_rfl) rfl rfl rfl (by show 13 ≤ 13; omega) ⟨(wK k s).t, by kernel_rfl⟩ (fun _ => rfl) (fun _ => rfl)
  (fun a => ?_) (fun e => ?_) (fun a=>gQ (by rfl)) (fun e=>gQ (by rfl)) (gQ (by rfl)) (fun a => ?_) (fun e => ?_) (fun a=>by show 14≤14;omega) (by kernel_rfl)
  (fun a x l K W h=>Nq a x l K W h) (fun a x C M W h=>aSs (fun _=>rfl) a x h) (fun _ _=>rfl) (fun pre x a hp hi=>bIp hs ha hp (by have:=aBh pre [] tdA a (bIo k) hi;exact this))
 ·exact aBi (A:=(tdS k a).m.take 9) (B:=(tdS k a).m.drop 10) (o := .mp [] 0) (by rfl) (by rfl) rfl (bIq k a.R)
 ·exact aBi (A:=(tdR k e).m.take 9) (B:=(tdR k e).m.drop 10) (o := .mp [] 0) (by rfl) (by rfl) rfl (bIq k e.1.R)
 ·show ((iQ ((aJ k).map aB) && true) && (iQ (a.R.map rwE).flatten && true))=true
  rw [qL,wJ];rfl
 ·show ((iQ ((aJ k).map aB) && true) && (iQ (e.1.R.map rwE).flatten && true))=true
  rw [qL,wJ];rfl
theorem bZg{k:Int}(hk:within k 0 4=true){s:List UInt8}(hs:s.length≤65536)(ha:∀ b∈s,b.toNat<128){a:TSt}(hi:itB (tdF k) tdA (bW s) = .ok a)(h1:1≤a.R.length)(Ba:a.R.length≤12){base:Nat} :
  FV Tp 79 [.p (aB k),.p (aD s)] base (.tup [.p (.agg [aB k,cD (isG (bU k) a.R)]),.p (aB 0),.p (aB 0),.p (aB 0)]) []:=by
 have hok:=aBh (bW s) [] tdA a (bIo k) hi;have:=bZh (s:=s) hk (by omega) ((bAh hs ha).1 a hi) (by omega) Ba h1 (fun x hx=>by rw [hok.len x hx];exact uQ k)
 rw [fH] at this
 exact FV.frz this (by rfl)
end KV
end Go.Proofs
end
namespace Go.Proofs
namespace KV
open Tryz
section
variable {Ab A3:Int}{R T Dt Ek:List Int}{i i' Aq base:Nat}

noncomputable abbrev aFc:Code:=sub (cd Tryz.f49) [1,1,0,1,0,0]
noncomputable abbrev aFd:Code:=sub (cd Tryz.f23) [1,1,0,1,0,0]
def jK(R T:List Int)(i:Nat):St:=⟨fr 26 [(0,(.p (bM R))),(1,(.p (bM T))),(12,(pI (R.length:Int))),(13,(pI (i:Int)))],[]⟩
theorem cBi(h0:(R.length:Int)≠(T.length:Int)):FV Tp 49 [(.p (bM R)),(.p (bM T))] base (pB false) []:=FV.fi func49 [bT] (gc (fJ h0) gn)
theorem cBj(h0:(R.length:Int)=(T.length:Int))(An:aF Tp 0 aFc (jK R T 0) (.exit 0) (jK R T Aq)):FV Tp 49 [(.p (bM R)),(.p (bM T))] base (pB true) []:=FV.fi func49 [bF,An.k 4 (gZ bv)] (gc An.code (gc (bK h0) gn))
theorem cBk(h0:(R.length:Int)=(T.length:Int))(An:aF Tp 0 aFc (jK R T 0) .ret (cN (jK R T Aq) [(4,(pB false))])):FV Tp 49 [(.p (bM R)),(.p (bM T))] base (pB false) []:=FV.fi func49 [bF,An.k 4 (gZ bv)] (gc An.code (gc (bK h0) gn))
section
variable(h0:(i:Int)<(R.length:Int))(h1:R[i]? = some Ab)(h2:T[i]? = some A3)
include h0 h1 h2
theorem bCv(h3:Ab≠A3):aA Tp 0 aFc (jK R T i) .ret (cN (jK R T i) [(4,(pB false))]):=aA.fi (gN bp [] [(4,0)]) [bT,.x (aB Ab),.x (aB A3),bT] (gc (fJ h3) (gc (atm aB h2) (gc (ixn aB h2) (gc (atm aB h1) (gc (ixn aB h1) (g0 h0))))))
theorem bCw(h3:Ab=A3)(h4:cn i)(Aj:i'=(i+1)):aA Tp 0 aFc (jK R T i) .normal (jK R T i'):=by
 subst Aj;exact aA.fi (gZ bv) [bT,.x (aB Ab),.x (aB A3),bF] (gc h4 (gc (bK h3) (gc (atm aB h2) (gc (ixn aB h2) (gc (atm aB h1) (gc (ixn aB h1) (g0 h0)))))))
end
theorem bCx(h0:(R.length:Int)≤(i:Int)):aA Tp 0 aFc (jK R T i) (.exit 0) (jK R T i):=aA.fi (gZ bv) [bF] (gc (bL h0) gn)
theorem bKe(R T:List Int)(h:R.length≤100000){base:Nat}:FV Tp 49 [(.p (bM R)),(.p (bM T))] base (pB (decide (R=T))) []:=by
 by_cases hl:R.length=T.length
 ·have hz:(R.zip T).length=R.length:=by rw [List.length_zip,hl,Nat.min_self]
  rcases aF.find (P:=Tp) (k:=0) (b:=aFc) (fun i=>jK R T i) (fun i _=>cN (jK R T i) [(4,.p (blP false))]) (jK R T R.length) .ret (.exit 0) (by simp) (by simp) (fun q:Int × Int => !(decide (q.1=q.2))) (R.zip T)
   (fun i q hx hp=>by
    obtain ⟨h1,h3⟩:=dZ hx;have hi:=bN h1;have hp:=(Bool.not_eq_false' _).mp hp;exact bCw (by omega) h1 h3 (of_decide_eq_true hp) (aV (by omega)) rfl)
   (fun i q hx hp=>by
    obtain ⟨h1,h3⟩:=dZ hx;have hi:=bN h1;have hp:=(Bool.not_eq_true' _).mp hp;exact bCv (by omega) h1 h3 (of_decide_eq_false hp))
   (by rw [hz];exact bCx (by omega)) with ⟨i,q,h1,h2,h3,h4⟩ | ⟨h1,h2,h3⟩
  ·have hne:decide (R=T)=false:=by
    apply decide_eq_false;intro e;subst e;obtain ⟨q1,q2⟩:=dZ h1;rw [q1] at q2
    have:q.1=q.2:=by simpa using q2
    simp [this] at h3
   rw [hne];exact cBk (by omega) h4
  ·rw [decide_eq_true (jE R T hl h2)];exact cBj (by omega) h3
 ·have hne:decide (R=T)=false:=decide_eq_false (fun e=>hl (by rw [e]))
  rw [hne];exact cBi (by omega)
def jL(R T:Lqq)(i:Nat):St:=⟨fr 27 [(0,(.p (.sl R.length ((R.map ixE).flatten)))),(1,(.p (.sl T.length ((T.map ixE).flatten)))),(12,(pI (R.length:Int))),(13,(pI (i:Int)))],[]⟩
theorem cBl{R T:Lqq}(h0:(R.length:Int)≠(T.length:Int)):FV Tp 23 [(.p (.sl R.length ((R.map ixE).flatten))),(.p (.sl T.length ((T.map ixE).flatten)))] base (pB false) []:=FV.fi func23 [bT] (gc (fJ h0) gn)
theorem cBm{R T:Lqq}(h0:(R.length:Int)=(T.length:Int))(An:aF Tp 0 aFd (jL R T 0) (.exit 0) (jL R T Aq)):FV Tp 23 [(.p (.sl R.length ((R.map ixE).flatten))),(.p (.sl T.length ((T.map ixE).flatten)))] base (pB true) []:=FV.fi func23 [bF,An.k 4 (gZ bw)] (gc An.code (gc (bK h0) gn))
theorem cBn{R T:Lqq}(h0:(R.length:Int)=(T.length:Int))(An:aF Tp 0 aFd (jL R T 0) .ret (cN (jL R T Aq) [(4,(pB false))])):FV Tp 23 [(.p (.sl R.length ((R.map ixE).flatten))),(.p (.sl T.length ((T.map ixE).flatten)))] base (pB false) []:=FV.fi func23 [bF,An.k 4 (gZ bw)] (gc An.code (gc (bK h0) gn))
section
variable{R T:Lqq}(h0:(i:Int)<(R.length:Int))(h1:R[i]? = some (Dt))(h2:T[i]? = some (Ek))(K1:Dt.length≤100000)
include h0 h1 h2 K1
theorem bCy(h4:(decide (Dt=Ek))=false):aA Tp 0 aFd (jL R T i) .ret (cN (jL R T i) [(4,(pB false))]):=have k1:=fk 0 (bKe Dt Ek K1) rfl;aA.fi (gN [2,2,5,7,14,13] [] [(4,0)]) [bT,.x (bM Dt),.x (bM Ek),k1.o,bT] (gc (dB h4) (gc k1 (gt (((T.map ixE).flatten)[(i*1)]? = some (bM Ek)) (aM (E:=ixE) (i:=i) (f:=0) (k:=1) (fun _=>rfl) h2 rfl) (gc (bC (E:=ixE) (k:=1) (i:=(i:Int)) (fun _=>rfl) (by decide) (Bu _) h2) (gt (((R.map ixE).flatten)[(i*1)]? = some (bM Dt)) (aM (E:=ixE) (i:=i) (f:=0) (k:=1) (fun _=>rfl) h1 rfl) (gc (bC (E:=ixE) (k:=1) (i:=(i:Int)) (fun _=>rfl) (by decide) (Bu _) h1) (g0 h0)))))))
theorem bCz(h4:(decide (Dt=Ek))=true)(h5:cn i)(Aj:i'=(i+1)):aA Tp 0 aFd (jL R T i) .normal (jL R T i'):=by
 subst Aj;have k1:=fk 0 (bKe Dt Ek K1) rfl;exact aA.fi (gZ bw) [bT,.x (bM Dt),.x (bM Ek),k1.o,bF] (gc h5 (gc (aU h4) (gc k1 (gt (((T.map ixE).flatten)[(i*1)]? = some (bM Ek)) (aM (E:=ixE) (i:=i) (f:=0) (k:=1) (fun _=>rfl) h2 rfl) (gc (bC (E:=ixE) (k:=1) (i:=(i:Int)) (fun _=>rfl) (by decide) (Bu _) h2) (gt (((R.map ixE).flatten)[(i*1)]? = some (bM Dt)) (aM (E:=ixE) (i:=i) (f:=0) (k:=1) (fun _=>rfl) h1 rfl) (gc (bC (E:=ixE) (k:=1) (i:=(i:Int)) (fun _=>rfl) (by decide) (Bu _) h1) (g0 h0))))))))
end
theorem bDa{R T:Lqq}(h0:(R.length:Int)≤(i:Int)):aA Tp 0 aFd (jL R T i) (.exit 0) (jL R T i):=aA.fi (gZ bw) [bF] (gc (bL h0) gn)
theorem cBo(R T:Lqq)(h:R.length≤100000)(h2:∀ r∈R,r.length≤100000){base:Nat}:FV Tp 23 [(.p (.sl R.length ((R.map ixE).flatten))),(.p (.sl T.length ((T.map ixE).flatten)))] base (pB (decide (R=T))) []:=by
 by_cases hl:R.length=T.length
 ·have hz:(R.zip T).length=R.length:=by rw [List.length_zip,hl,Nat.min_self]
  rcases aF.find (P:=Tp) (k:=0) (b:=aFd) (fun i=>jL R T i) (fun i _=>cN (jL R T i) [(4,.p (blP false))]) (jL R T R.length) .ret (.exit 0) (by simp) (by simp) (fun q:(List Int) × (List Int) => !(decide (q.1=q.2))) (R.zip T)
   (fun i q hx hp=>by
    obtain ⟨h1,h3⟩:=dZ hx;have hi:=bN h1;have hp:=(Bool.not_eq_false' _).mp hp;exact bCz (by omega) h1 h3 (h2 _ (Cj h1)) hp (aV (by omega)) rfl)
   (fun i q hx hp=>by
    obtain ⟨h1,h3⟩:=dZ hx;have hi:=bN h1;have hp:=(Bool.not_eq_true' _).mp hp;exact bCy (by omega) h1 h3 (h2 _ (Cj h1)) hp)
   (by rw [hz];exact bDa (by omega)) with ⟨i,q,h1,h2,h3,h4⟩ | ⟨h1,h2,h3⟩
  ·have hne:decide (R=T)=false:=by
    apply decide_eq_false;intro e;subst e;obtain ⟨q1,q2⟩:=dZ h1;rw [q1] at q2
    have:q.1=q.2:=by simpa using q2
    simp [this] at h3
   rw [hne];exact cBn (by omega) h4
  ·rw [decide_eq_true (jE R T hl h2)];exact cBm (by omega) h3
 ·have hne:decide (R=T)=false:=decide_eq_false (fun e=>hl (by rw [e]))
  rw [hne];exact cBl (by omega)
end
end KV
end Go.Proofs
section
namespace Go.Proofs
open Go.RowKit
namespace KV
open Tryz
theorem yG:dW 0 lL=0:=by decide +kernel
theorem bDb{n:Nat}(h:n<10):Lib.itoa (n:Int)=[UInt8.ofNat (48+n)]:=by rw [Lib.itoa_nonneg,kV h]
theorem aLw{n:Nat}(h:¬ n<10):Lib.itoa (n:Int)=Lib.itoa ((n / 10:Nat):Int)++[UInt8.ofNat (48+n % 10)]:=by rw [Lib.itoa_nonneg,uT h,Lib.itoa_nonneg]
theorem Q4:Lib.itoa 2=[50]:=bDb (n:=2) (by omega)
theorem Q5:Lib.itoa 7=[55]:=bDb (n:=7) (by omega)
theorem Lz:Lib.itoa 1=[49]:=bDb (n:=1) (by omega)
theorem Oa:Lib.itoa 0=[48]:=bDb (n:=0) (by omega)
theorem Q6:Lib.itoa 5=[53]:=bDb (n:=5) (by omega)
theorem Ob:Lib.itoa 12=[49,50]:=by
 have:=aLw (n:=12) (by omega)
 rw [show ((12 / 10:Nat):Int)=1 from rfl,Lz] at this
 exact this
theorem K9:Lib.itoa 100=[49,48,48]:=by
 have A5:=aLw (n:=10) (by omega)
 rw [show ((10 / 10:Nat):Int)=1 from rfl,Lz] at A5
 have:=aLw (n:=100) (by omega)
 rw [show ((100 / 10:Nat):Int)=((10:Nat):Int) from rfl,A5] at this
 exact this
theorem La:Lib.itoa 130=[49,51,48]:=by
 have A5:=aLw (n:=13) (by omega)
 rw [show ((13 / 10:Nat):Int)=1 from rfl,Lz] at A5
 have:=aLw (n:=130) (by omega)
 rw [show ((130 / 10:Nat):Int)=((13:Nat):Int) from rfl,A5] at this
 exact this
theorem Q7:(ptM 0).1=[48,58,48,48,46,48]:=by
 have e:ptM 0=((((((Lib.itoa 0)++[58])++((Lib.itoa 100).drop 1))++[46])++Lib.itoa 0),0):=by
  unfold ptM;rw [if_pos (by decide)];rfl
 rw [e,Oa,K9];rfl
theorem Lb:(ptM 305).1=[48,58,51,48,46,53]:=by
 have e:ptM 305=((((((Lib.itoa 0)++[58])++((Lib.itoa 130).drop 1))++[46])++Lib.itoa 5),0):=by
  unfold ptM;rw [if_pos (by decide)];rfl
 rw [e,Oa,La,Q6];rfl
def bPr:List UInt8:=[107,108,105,115,116,101,114,32,115,116,97,114,116,115,32,50,10,55,32,48,58,48,48,46,48,32,49,10,49,50,32,48,58,51,48,46,53,32,48,10]
theorem bKf:dX 0 lL=bPr:=by
 have e1:fQ 0 [(7,[]),(0,[]),(1,[])]=[[55],[48,58,48,48,46,48],[49]]:=by
  show [Lib.itoa 7,(ptM 0).1,Lib.itoa 1]=_;rw [Q5,Q7,Lz]
 have e2:fQ 0 [(12,[]),(305,[]),(0,[])]=[[49,50],[48,58,51,48,46,53],[48]]:=by
  show [Lib.itoa 12,(ptM 305).1,Lib.itoa 0]=_;rw [Ob,Lb,Oa]
 have e0:lX 0 2=[107,108,105,115,116,101,114,32,115,116,97,114,116,115,32,50,10]:=by
  show lnM [_,_,Lib.itoa 2]=_;rw [Q4];rfl
 show (lX 0 2++lnM (fQ 0 [(7,[]),(0,[]),(1,[])]))++lnM (fQ 0 [(12,[]),(305,[]),(0,[])])=_;rw [e0,e1,e2];rfl
theorem bPs:bI bPr=3900:=by decide +kernel
theorem Oc:Lib.itoa 3=[51]:=bDb (n:=3) (by omega)
theorem Lc:Lib.itoa 39=[51,57]:=by
 have:=aLw (n:=39) (by omega)
 rw [show ((39 / 10:Nat):Int)=3 from rfl,Oc] at this
 exact this
theorem Jq:Lib.itoa 390=[51,57,48]:=by
 have:=aLw (n:=390) (by omega)
 rw [show ((390 / 10:Nat):Int)=39 from rfl,Lc] at this
 exact this
theorem Ie:Lib.itoa 3900=[51,57,48,48]:=by
 have:=aLw (n:=3900) (by omega)
 rw [show ((3900 / 10:Nat):Int)=390 from rfl,Jq] at this
 exact this
def aLx:List UInt8:=bPr++[115,117,109,32,51,57,48,48,10]
theorem bDc:bE 0 lL=(aLx,0):=by
 unfold bE;rw [if_neg (by rw [yG];simp),bKf]
 have e:lE bPr=3900:=by unfold lE;rw [if_pos (by decide),bPs]
 rw [e,Ie];rfl
end KV
end Go.Proofs
end
section
set_option maxRecDepth 1000000
namespace Go.Proofs
open Go.RowKit
namespace KV
open Tryz
def bYs:List UInt8:=[107,108,105,115,116,101,114,32,115,116,97,114,116,115,32,50,10,55,32,54,48,49,58,48,48,46,48,32,49,10]
def bYt:List UInt8:=[48,49,50,32,32,32,48,58,51,48,46,53,32,48,10,10,55,32,48,58,48,48,46,48,32,49]
def oO:List (List Cel):=[[(7,[]),(10,[]),(1,[])],[(9,[]),(200,[]),(0,[])]]
def aHj:List (List Cel):=[[(7,[]),(0,[]),(2,[])],[(12,[]),(305,[]),(0,[])]]
theorem bOl:prM aLx=(0,lL,0,0,0):=by decide +kernel
theorem bOm:prM bYs=(0,[],2,2,3):=by decide +kernel
theorem bYu{base:Nat}:FV Tp 30 [.p (aD [97,98])] base (.tup [.p (aB 3105),.p (aB 0)]) []:=by
 have:=jP [97,98] (by decide) (base:=base)
 rw [show bI [97,98]=3105 by decide +kernel] at this
 exact this
theorem bIk{base:Nat}:FV Tp 28 [.p (.agg [aB 0,cD lL])] base (.tup [.p (aD aLx),.p (aB 0)]) []:=by
 have:=aAp 0 lL (base:=base);rw [bDc] at this
 exact this
theorem bIl{base:Nat}:FV Tp 15 [.p (aD aLx)] base (.tup [.p (.agg [aB 0,cD lL]),.p (aB 0),.p (aB 0),.p (aB 0)]) []:=by
 have:=wI aLx (base:=base);rw [bOl] at this
 exact this
theorem bYv{base:Nat}:FV Tp 15 [.p (aD bYs)] base (.tup [.p (.agg [aB 0,cD []]),.p (aB 2),.p (aB 2),.p (aB 3)]) []:=by
 have:=wI bYs (base:=base);rw [bOm] at this
 exact this
theorem bYw:itB (tdF 0) tdA (bW bYt) = .ok ⟨3,[[(12,[]),(305,[]),(0,[])],[(7,[]),(0,[]),(1,[])]]⟩:=by kernel_rfl
theorem bOn{base:Nat}:FV Tp 79 [.p (aB 0),.p (aD bYt)] base (.tup [.p (.agg [aB 0,cD lL]),.p (aB 0),.p (aB 0),.p (aB 0)]) []:=by
 have:=bZg (k:=0) (by decide) (s:=bYt) (by decide) (by decide) bYw (by decide) (by decide) (base:=base)
 rw [show isG (bU 0) [[(12,[]),(305,[]),(0,[])],[(7,[]),(0,[]),(1,[])]]=lL by decide +kernel] at this
 exact this
theorem aSu{R:List (List Cel)}(h:R.length≤100000)(h2:∀ r∈R,r.length≤100000){base:Nat}:FV Tp 24 [.p (.agg [aB 0,cD R]),.p (.agg [aB 0,cD R])] base (.p (blP true)) []:=by
 have:=aOc 0 R 0 R h h2 (base:=base);rw [decide_eq_true ⟨rfl,rfl⟩] at this
 exact this
theorem aLh{base:Nat}:FV Tp 24 [.p (.agg [aB 0,cD lL]),.p (.agg [aB 0,cD lL])] base (.p (blP true)) []:=aSu (by decide) (by decide)
theorem bIm{base:Nat}:FV Tp 24 [.p (.agg [aB 0,cD oO]),.p (.agg [aB 0,cD oO])] base (.p (blP true)) []:=aSu (by decide) (by decide)
theorem aHk:fZ 0 lL:=⟨by decide,by decide,by decide +kernel,by decide +kernel⟩
theorem aSv:fZ 0 oO:=⟨by decide,by decide,by decide +kernel,by decide +kernel⟩
theorem bOo:fZ 0 aHj:=⟨by decide,by decide,by decide +kernel,by decide +kernel⟩
theorem aSw:dW 0 oO=0:=by decide +kernel
theorem bOp:dW 0 aHj=0:=by decide +kernel
def aCh:List Chg:=[([(7,[]),(0,[]),(1,[])],[(7,[]),(10,[]),(1,[])]),([],[(9,[]),(200,[]),(0,[])]),([(12,[]),(305,[]),(0,[])],[])]
def bYx:List Chg:=[([(7,[]),(0,[]),(1,[])],[(7,[]),(0,[]),(2,[])])]
theorem vC:dfM 0 lL oO=aCh:=by decide +kernel
theorem yE:dfM 0 lL aHj=bYx:=by decide +kernel
theorem bYy{base:Nat}:FV Tp 56 [.p (.agg [aB 0,cD lL]),.p (.agg [aB 0,cD oO])] base (.tup [.p (.sl 3 ((aCh.map chE).flatten)),.p (aB 0)]) []:=by
 have:=cAi yG aSw aHk aSv (by decide +kernel) (by decide +kernel) (base:=base)
 rw [vC] at this
 exact this
theorem cCu:bOv 0 aCh:=⟨by decide +kernel,by decide,by decide +kernel,by decide +kernel,by decide +kernel,by unfold ckL;decide +kernel,by decide +kernel,by decide +kernel⟩
theorem bYz{base:Nat}:FV Tp 59 [.p (.agg [aB 0,cD lL]),.p (.sl 3 ((aCh.map chE).flatten))] base (.tup [.p (.agg [aB 0,cD oO]),.p (aB 0)]) []:=by
 have:=bZw (k:=0) (R:=lL) (l:=aCh) (m1:=((aCh.foldlM (apF 0) (lL.map fun r=>(r,r))).getD [])) yG aHk cCu (by decide +kernel) (by decide +kernel) (by decide +kernel) (by decide +kernel) (by decide +kernel) (by decide +kernel) (base:=base)
 rw [show isG (bU 0) (apL 0 ((aCh.foldlM (apF 0) (lL.map fun r=>(r,r))).getD []) lL aCh)=oO by decide +kernel] at this
 exact this
theorem bZa:aTd 0 aCh:=⟨by decide,by decide +kernel,by decide +kernel,by decide +kernel,by decide⟩
theorem bZb:aTd 0 bYx:=⟨by decide,by decide +kernel,by decide +kernel,by decide +kernel,by decide⟩
theorem bZc{base:Nat}:FV Tp 20 [.p (.agg [aB 0,cD lL]),.p (.agg [aB 0,cD oO]),.p (.agg [aB 0,cD aHj])] base (.tup [.p (.agg [aB 0,bO]),.p (.sl 1 [bM [7]]),.p (aB 0)]) []:=by
 have:=bZt yG aSw bOp aHk aSv bOo (by decide +kernel) (by decide +kernel) (by decide +kernel) (by decide +kernel) (by rw [vC];exact bZa) (by rw [yE];exact bZb) (by rw [vC,yE];decide +kernel) (by rw [vC,yE];decide +kernel)
 rw [vC,yE,show bYx.filterMap (Gz aCh)=[[7]] by decide +kernel] at this
 exact FV.frz this (by rfl)
theorem cCv{base:Nat}:FV Tp 23 [.p (.sl 1 [bM [7]]),.p (.sl 1 [bM [7]])] base (.p (blP true)) []:=by
 have:=cBo [[7]] [[7]] (by decide) (by decide) (base:=base)
 rw [decide_eq_true rfl] at this
 exact this
end KV
end Go.Proofs
end
namespace Go.Proofs
namespace KV
open Tryz
section

theorem xK:((0:Int) != 0)=false:=by first | decide | simp
theorem bRl:((0:Int) == 0)=true:=by first | decide | simp
theorem cCr:((2:Int) != 2)=false:=by first | decide | simp
theorem bRm:((3:Int) == 3)=true:=by first | decide | simp
theorem cCs:((3:Int) != 3)=false:=by first | decide | simp
theorem cCt:((3105:Int) != 3105)=false:=by first | decide | simp
theorem bYq{base:Nat}:FV Tp 32 [.p (aD aLx),.p (aD [107,108,105,115,116,101,114,32,115,116,97,114,116,115,32,50,10,55,32,48,58,48,48,46,48,32,49,10,49,50,32,48,58,51,48,46,53,32,48,10,115,117,109,32])] base (pB true) []:=by
 have:=aLz aLx [107,108,105,115,116,101,114,32,115,116,97,114,116,115,32,50,10,55,32,48,58,48,48,46,48,32,49,10,49,50,32,48,58,51,48,46,53,32,48,10,115,117,109,32] (base:=base);rw [show Lib.hasPrefix aLx [107,108,105,115,116,101,114,32,115,116,97,114,116,115,32,50,10,55,32,48,58,48,48,46,48,32,49,10,49,50,32,48,58,51,48,46,53,32,48,10,115,117,109,32]=true by decide +kernel] at this
 exact this
theorem bYr{base:Nat}:FV Tp 14 [] base (pB true) []:=by
 have k1:=fk 0 bYu rfl;have k2:=fk 0 (vY) rfl;have k3:=fk 0 bIk rfl;have k4:=fk 0 bIl rfl;have k5:=fk 1 (vY) rfl;have k6:=fk 1 bYv rfl;have k7:=fk 1 bOn rfl;have k8:=fk 1 (vY) rfl;have k9:=fk 1 (rH 7 10 1) rfl;have Il:=fk 1 (rH 9 200 0) rfl;have F9:=fk 2 (vY) rfl;have Ga:=fk 10 bYy rfl;have Ht:=fk 2 (vY) rfl;have E4:=fk 2 bYz rfl;have Ov:=fk 2 (rH 7 0 2) rfl;have Ow:=fk 2 (rH 12 305 0) rfl;have Ox:=fk 3 (vY) rfl;have Oy:=fk 11 bZc rfl;exact FV.fi func14 ([k1.o,k2.o,k3.o,k4.o]++rF 17++[k5.o,bF,.c (pB true) [],bF,bF,bF,bF,.c (pB true) [],bF,bF,bF,k6.o,k7.o]++rF 11++[k8.o,bF,.c (pB true) [],bF,bF,bF,k9.o,Il.o,.g 1 ⟨[],[0,2],[1],[]⟩,F9.o,Ga.o,Ht.o,E4.o,Ov.o,Ow.o,.g 1 ⟨[],[0,1,3],[2],[]⟩,Ox.o,Oy.o]++rT 13++[.c (pB true) []]++rT 5++[.c (pB true) [],bT]) (gt (true=true) rfl (gt (FC Tp 23 [(.p (.sl 1 [(bM [7])])),(.own 21)] [(21,(.row 68 1 [(PV.sl 1 [(aB 7)])]))] 22 (pB true) []) (fv cCv) (gt (true=true) rfl (gt (true=true) rfl (gt (true=true) rfl (gt (true=true) rfl (gc bRm (gc (fk 20 bIm rfl) (Ay bRm (Iv bRl (A2 bRl (gc Oy (gc Ox (gc Ow (gc Ov (gc E4 (gc Ht (gc Ga (gc F9 (gc Il (gc k9 (gf (A2 xK (gc (fk 9 aLh rfl) (gc xK (gc k8 (A2 xK (Hq cCr (Ay cCs (gc k7 (gc k6 (gf (gf (gf (gc (fk 17 bYq rfl) (gf (gf (A2 xK (gc (fk 9 aLh rfl) (gc xK (gc k5 (Cw xK (Ay cCt (Iv xK (gc xK (gc k4 (gc k3 (gc k2 (gc k1 gn)))))))))))))))))))))))))))))))))))))))))))))))))
end
end KV
end Go.Proofs
