/- Parts of the proof of JSheetFields: laws of walks, contracts of functions, plain models. No condition. -/
import Derived.Test.YtfekapdegmfgaaaGreatDoorPJSheetFieldsF
set_option linter.unusedVariables false
set_option linter.unusedSimpArgs false
set_option linter.unnecessarySimpa false
set_option maxRecDepth 100000
namespace Go.Proofs
namespace KV
open Tryz
section
variable {x:Lqq}{i j q j' q':Nat}

noncomputable abbrev aJc:Code:=sub (cd Tryz.f20) [1,0,1,0,0]
noncomputable abbrev aQi:Code:=pS (cd Tryz.f20) 8 [0,1,0,0]
noncomputable abbrev bEa:Code:=pS (cd Tryz.f20) 6 [0,1,0,0]
theorem aQj:((0:Int) != 0)=false:=by first | decide | simp
def ixE(l:List Int):List PV:=[bJ l]
def aAo(k:Int)(L:List Chg):List (Value × PV):=L.map fun c=>(iG k (crM c),.agg [aM c.1,aM c.2])
abbrev iI:=aAo 0
def jS(R A B:List (List Cel))(q:Nat):St:=⟨fr 132 [(3,(.ptr 0 0)),(4,(.ptr 1 0)),(5,(.ptr 2 0)),(6,(.ptr 3 0)),(30,(.p (.agg [(aB 0),(.sl R.length (R.map aM)),(aB 0),(.sl A.length (A.map aM)),(aB 0),(.sl B.length (B.map aM))]))),(31,(pI (q:Int)))],[some (.box 26 [(pI 0),(.p (.sl R.length (R.map aM)))]),some (.box 26 [(pI 0),(.p (.sl A.length (A.map aM)))]),some (.box 26 [(pI 0),(.p (.sl B.length (B.map aM)))]),some (.box 26 [(pI 0),(.p bK)])]⟩
def pC(R A B:List (List Cel))(i:Nat)(me:List (Value × PV))(mk:Nat):St:=⟨fr 132 [(3,(.ptr 0 0)),(5,(.ptr 1 0)),(6,(.ptr 2 0)),(12,(pI 0)),(14,(pI 1)),(15,(.mp 3)),(16,(.p (.sl ((dfM 0 R A).length) (((dfM 0 R A).map chE).flatten)))),(65,(.p (.sl ((dfM 0 R A).length) (((dfM 0 R A).map chE).flatten)))),(66,(pI ((dfM 0 R A).length:Int))),(67,(pI (i:Int)))],[some (.box 26 [(pI 0),(.p (.sl R.length (R.map aM)))]),some (.box 26 [(pI 0),(.p (.sl B.length (B.map aM)))]),some (.box 26 [(pI 0),(.p bK)]),some (.mp me mk)]⟩
def lU(R B:List (List Cel))(Dn:List (List Cel × List Cel))(j xn:Nat)(xc:List PV):St:=⟨fr 132 [(3,(.ptr 0 0)),(6,(.ptr 1 0)),(12,(pI 0)),(14,(pI 1)),(15,(.mp 2)),(19,(.own 3)),(80,(.p (.sl ((dfM 0 R B).length) (((dfM 0 R B).map chE).flatten)))),(81,(pI ((dfM 0 R B).length:Int))),(82,(pI (j:Int)))],[some (.box 26 [(pI 0),(.p (.sl R.length (R.map aM)))]),some (.box 26 [(pI 0),(.p bK)]),some (.mp (iI Dn) Dn.length),some (.row 68 xn xc)]⟩
theorem bTz{R A B:List (List Cel)}{G0 Kz:Nat}{Dn:List (List Cel × List Cel)}{Pu:Nat}{J9:Lqq}(Ay:aF Tp 0 aJc (jS R A B 0) (.exit 0) (jS R A B G0))(K6:fP 0 R)(I0:fP 0 A)(M4:(dfL 0 R A).length≤12)(M5:1≤(dfL 0 R A).length)(C5:aF Tp 0 bEa (pC R A B 0 [] 0) (.exit 2) (pC R A B Kz (iI Dn) Dn.length))(Pv:fP 0 B)(Pw:(dfL 0 R B).length≤12)(Px:1≤(dfL 0 R B).length)(Ka:aF Tp 0 aQi (lU R B Dn 0 0 []) (.exit 4) (lU R B Dn Pu J9.length ((J9.map ixE).flatten)))(A5:(0:Int)<(J9.length:Int)):FMM Tp 20 [(.p (.agg [(aB 0),(.sl R.length (R.map aM))])),(.p (.agg [(aB 0),(.sl A.length (A.map aM))])),(.p (.agg [(aB 0),(.sl B.length (B.map aM))]))] [] (.tup [(.p (.agg [(aB 0),bK])),(.p (.sl J9.length ((J9.map ixE).flatten))),(pI 0)]) []:=have k1:=fk 5 (FV.frz (aNe K6 I0 M4 M5) rfl) rfl;have k2:=fk 4 (FV.frz (aNe K6 Pv Pw Px) rfl) rfl;FMM.fi 0 ⟨[],[],[3],[]⟩ func20 ([Ay.k 6 (gI am cb)]++rF 7++[.c (.tup [(.p (.sl 3 [(aB 0),(aB 1),(aB 0)])),(pI 1)]) [],k1.o,C5.k 4 (gI ab [0,2,3,4]),k2.o,Ka.k 1 (gN ad [0,2,3,4] [(19,68)]),bT]) (gc (bX A5) (gc Ka.code (gc k2 (gc C5.code (gc k1 (gt (FC Tp 103 [(pI 0)] [] 4 (.tup [(.p (.sl 3 [(aB 0),(aB 1),(aB 0)])),(pI 1)]) []) (FV.fc (bCm rfl) rfl) (Lb aQj (gc Ay.code gn))))))))
theorem aWj{R A B:List (List Cel)}(Av:q=0)(E2:eQ 0 R=0)(Ey:q'=1):aA Tp 0 aJc (jS R A B q) .normal (jS R A B q'):=by
 subst Av;subst Ey;exact aA.fi (gI am cb) [bT,.c (pI 0) [],bF] (gt (inR 1) (by show _∧_;omega) (gc aQj (gc (fk 5 (aFf 0 R E2) rfl) (gt (0+2≤[(aB 0),(.sl R.length (R.map aM)),(aB 0),(.sl A.length (A.map aM)),(aB 0),(.sl B.length (B.map aM))].length) (by first | decide | simp) (gt (0≤(0:Int)∧(0:Int)<3) (by first | decide | simp) (gt ((decide ((0:Int)<3))=true) (by first | decide | simp) gn))))))
theorem aWk{R A B:List (List Cel)}(Av:q=1)(E2:eQ 0 A=0)(Ey:q'=2):aA Tp 0 aJc (jS R A B q) .normal (jS R A B q'):=by
 subst Av;subst Ey;exact aA.fi (gI am cb) [bT,.c (pI 0) [],bF] (gt (inR 2) (by show _∧_;omega) (gc aQj (gc (fk 5 (aFf 0 A E2) rfl) (gt (2+2≤[(aB 0),(.sl R.length (R.map aM)),(aB 0),(.sl A.length (A.map aM)),(aB 0),(.sl B.length (B.map aM))].length) (by first | decide | simp) (gt (0≤(1:Int)∧(1:Int)<3) (by first | decide | simp) (gt ((decide ((1:Int)<3))=true) (by first | decide | simp) gn))))))
theorem aWl{R A B:List (List Cel)}(Av:q=2)(E2:eQ 0 B=0)(Ey:q'=3):aA Tp 0 aJc (jS R A B q) .normal (jS R A B q'):=by
 subst Av;subst Ey;exact aA.fi (gI am cb) [bT,.c (pI 0) [],bF] (gt (inR 3) (by show _∧_;omega) (gc aQj (gc (fk 5 (aFf 0 B E2) rfl) (gt (4+2≤[(aB 0),(.sl R.length (R.map aM)),(aB 0),(.sl A.length (A.map aM)),(aB 0),(.sl B.length (B.map aM))].length) (by first | decide | simp) (gt (0≤(2:Int)∧(2:Int)<3) (by first | decide | simp) (gt ((decide ((2:Int)<3))=true) (by first | decide | simp) gn))))))
theorem aWm{R A B:List (List Cel)}(Av:q=3)(Ey:q'=3):aA Tp 0 aJc (jS R A B q) (.exit 0) (jS R A B q'):=by
 subst Av;subst Ey;exact aA.fi (gI am cb) [bF] (gt ((decide ((3:Int)<3))=false) (by first | decide | simp) gn)
theorem aWn{R A B:List (List Cel)}{m:List (List Cel × List Cel)}{A2 A3:List Cel}{i':Nat}{m':List (List Cel × List Cel)}(h0:(i:Int)<((dfM 0 R A).length:Int))(h1:(dfM 0 R A)[i]? = some (A2,A3))(h2:aK (0:Int)≤((crM (A2,A3)).length:Int))(h3:eG Tp 186 (iI m) (k3V (aL 0 (crM (A2,A3)) 0) (aL 0 (crM (A2,A3)) 1) (aL 0 (crM (A2,A3)) 2)))(h4:(gL (iI m) (k3V (aL 0 (crM (A2,A3)) 0) (aL 0 (crM (A2,A3)) 1) (aL 0 (crM (A2,A3)) 2)))=false)(h5:ce i)(Ai:i'=(i+1))(Eu:iI m'=((iI m)++[((k3V (aL 0 (crM (A2,A3)) 0) (aL 0 (crM (A2,A3)) 1) (aL 0 (crM (A2,A3)) 2)),(.agg [(.sl A2.length ((A2.map cE).flatten)),(.sl A3.length ((A3.map cE).flatten))]))]))(Ev:m'.length=(m.length+1)):aA Tp 0 bEa (pC R A B i (iI m) m.length) .normal (pC R A B i' (iI m') m'.length):=by
 subst Ai;have k1:=fk 5 (lX (A2,A3).1 (A2,A3).2) rfl;have k2:=fk 13 (eC 0 (crM (A2,A3)) h2) rfl;rw [Eu,Ev];exact aA.fi (gI ab cb) [bT,.x (.agg [(.sl A2.length ((A2.map cE).flatten)),(.sl A3.length ((A3.map cE).flatten))]),k1.o,k2.o,bF] (gc h5 (gc h4 (gc h3 (gc k2 (gc k1 (gc (bE (E:=chE) (i:=i) (k:=2) (fun _=>rfl) h1 rfl) (gc (bZ (E:=chE) (i:=i) (k:=2) (fun _=>rfl) h1) (gc (bD (E:=chE) (k:=2) (i:=(i:Int)) (fun _=>rfl) (by decide) (Bl _) h1) (g0 h0)))))))))
theorem aWo{R A B:List (List Cel)}{m:List (List Cel × List Cel)}(h0:((dfM 0 R A).length:Int)≤(i:Int)):aA Tp 0 bEa (pC R A B i (iI m) m.length) (.exit 2) (pC R A B i (iI m) m.length):=aA.fi (gI ab cb) [bF] (gc (aO h0) gn)
section
variable{R B:List (List Cel)}{Dn:List (List Cel × List Cel)}{Aw Ap:List Cel}{B0:Chg}(h0:(j:Int)<((dfM 0 R B).length:Int))(h1:(dfM 0 R B)[j]? = some (Aw,Ap))(h2:aK (0:Int)≤((crM (Aw,Ap)).length:Int))(h3:eG Tp 186 (iI Dn) (k3V (aL 0 (crM (Aw,Ap)) 0) (aL 0 (crM (Aw,Ap)) 1) (aL 0 (crM (Aw,Ap)) 2)))(h4:(gL (iI Dn) (k3V (aL 0 (crM (Aw,Ap)) 0) (aL 0 (crM (Aw,Ap)) 1) (aL 0 (crM (Aw,Ap)) 2)))=true)(h5:gG (iI Dn) (k3V (aL 0 (crM (Aw,Ap)) 0) (aL 0 (crM (Aw,Ap)) 1) (aL 0 (crM (Aw,Ap)) 2))=some (.agg [(.sl B0.1.length ((B0.1.map cE).flatten)),(.sl B0.2.length ((B0.2.map cE).flatten))]))(Ho:B0.2.length≤100000)
include h0 h1 h2 h3 h4 h5 Ho
theorem aWp{x':Lqq}(h7:(decide (B0.2=Ap))=false)(h8:[(PV.sl 1 [(aB (aL 0 (crM (Aw,Ap)) 0))])].length=1*1∧x.length+1≤1000000)(h9:ce j)(Ci:j'=(j+1))(M6:x'.length=(x.length+1))(M7:(x'.map ixE).flatten=(((x.map ixE).flatten)++[(PV.sl 1 [(aB (aL 0 (crM (Aw,Ap)) 0))])])):aA Tp 0 aQi (lU R B Dn j x.length ((x.map ixE).flatten)) .normal (lU R B Dn j' x'.length ((x'.map ixE).flatten)):=by
 subst Ci;have k1:=fk 5 (lX (Aw,Ap).1 (Aw,Ap).2) rfl;have k2:=fk 5 (eC 0 (crM (Aw,Ap)) h2) rfl;have k3:=fk 7 (pM B0.2 Ap Ho) rfl;have k4:=mq [5] 7 (bUa (aL 0 (crM (Aw,Ap)) 0) (aL 0 (crM (Aw,Ap)) 1) (aL 0 (crM (Aw,Ap)) 2));rw [M6,M7];exact aA.fi (gI ad [0,1,2,8]) [bT,.x (.agg [(.sl Aw.length ((Aw.map cE).flatten)),(.sl Ap.length ((Ap.map cE).flatten))]),k1.o,k2.o,bT,.x (.agg [(.sl B0.1.length ((B0.1.map cE).flatten)),(.sl B0.2.length ((B0.2.map cE).flatten))]),k3.o,bT,k4.o] (gc h9 (gc h8 (gc k4 (gt (0≤(0:Int)∧(0:Int)≤1∧(1:Int)≤3∧3≤maxLen) (by unfold maxLen;omega) (gc (cY h7) (gc k3 (gc h5 (gc h4 (gc h3 (gc k2 (gc k1 (gc (bE (E:=chE) (i:=j) (k:=2) (fun _=>rfl) h1 rfl) (gc (bZ (E:=chE) (i:=j) (k:=2) (fun _=>rfl) h1) (gc (bD (E:=chE) (k:=2) (i:=(j:Int)) (fun _=>rfl) (by decide) (Bl _) h1) (g0 h0)))))))))))))))
theorem aWq(h7:(decide (B0.2=Ap))=true)(h8:ce j)(Ci:j'=(j+1)):aA Tp 0 aQi (lU R B Dn j x.length ((x.map ixE).flatten)) .normal (lU R B Dn j' x.length ((x.map ixE).flatten)):=by
 subst Ci;have k1:=fk 5 (lX (Aw,Ap).1 (Aw,Ap).2) rfl;have k2:=fk 5 (eC 0 (crM (Aw,Ap)) h2) rfl;have k3:=fk 7 (pM B0.2 Ap Ho) rfl;exact aA.fi (gI ad cb) [bT,.x (.agg [(.sl Aw.length ((Aw.map cE).flatten)),(.sl Ap.length ((Ap.map cE).flatten))]),k1.o,k2.o,bT,.x (.agg [(.sl B0.1.length ((B0.1.map cE).flatten)),(.sl B0.2.length ((B0.2.map cE).flatten))]),k3.o,bF] (gc h8 (gc (aV h7) (gc k3 (gc h5 (gc h4 (gc h3 (gc k2 (gc k1 (gc (bE (E:=chE) (i:=j) (k:=2) (fun _=>rfl) h1 rfl) (gc (bZ (E:=chE) (i:=j) (k:=2) (fun _=>rfl) h1) (gc (bD (E:=chE) (k:=2) (i:=(j:Int)) (fun _=>rfl) (by decide) (Bl _) h1) (g0 h0))))))))))))
end
theorem aWr{R B:List (List Cel)}{Dn:List (List Cel × List Cel)}(h0:((dfM 0 R B).length:Int)≤(j:Int)):aA Tp 0 aQi (lU R B Dn j x.length ((x.map ixE).flatten)) (.exit 4) (lU R B Dn j x.length ((x.map ixE).flatten)):=aA.fi (gI ad cb) [bF] (gc (aO h0) gn)
end
end KV
end Go.Proofs
section
namespace Go.Proofs
open Go.RowKit
namespace KV
open Tryz
set_option maxRecDepth 1000000
def qU(k:Int)(L:List Chg)(r:List Cel):Option Chg:=L.find? fun c=>decide (Az k (crM c)=Az k r)
theorem bDy(k:Int)(L:List Chg)(r:List Cel):gL (aAo k L) (iG k r)=(qU k L r).isSome:=by
 unfold gL aAo qU;rw [List.any_map,Bool.eq_iff_iff,List.find?_isSome,List.any_eq_true];rfl
theorem bKo(k:Int)(L:List Chg)(r:List Cel):gG (aAo k L) (iG k r)=(qU k L r).map fun c => .agg [aM c.1,aM c.2]:=by
 unfold gG aAo qU;rw [List.find?_map];have e:((fun e:Value × PV=>decide (jM e.1=jM (iG k r))) ∘ fun c:Chg=>(iG k (crM c),PV.agg [aM c.1,aM c.2]))=fun c=>decide (Az k (crM c)=Az k r):=rfl
 rw [e];cases List.find? (fun c:Chg=>decide (Az k (crM c)=Az k r)) L <;> rfl
structure aQg (k:Int) (L:List Chg):Prop where
 n:L.length≤400
 kk:∀ x∈L,aK k≤((crM x).length:Int)
 ky:∀ x∈L,jZ k (crM x)
 nd:(L.map fun c=>Az k (crM c)).Nodup
 len:∀ x∈L,x.2.length≤1000
theorem aQh{k:Int}{L:List Chg}{r:List Cel}(h:∀ x∈L,jZ k (crM x))(hn:(L.map fun c=>Az k (crM c)).Nodup)(hr:jZ k r):eG Tp 186 (aAo k L) (iG k r):=by
 refine ⟨D3,fun e he => ?_,kJ hr,fun e he h => ?_,?_⟩
 ·obtain ⟨x,hx,rfl⟩:=tB.1 he
  exact kJ (h x hx)
 ·obtain ⟨x,hx,rfl⟩:=tB.1 he
  exact aFl h
 ·unfold aAo
  rw [aAl];exact hn
def Gm(L:List Chg)(c:Chg):Option (List Int):=match qU 0 L (crM c) with
 | some o=>if o.2=c.2 then none else some [aL 0 (crM c) 0]
 | none=>none
theorem bDz(L:Lqq)(x:List Int):((L++[x]).map ixE).flatten=(L.map ixE).flatten++[bJ x]:=by simp [ixE]
theorem bTy{R A B:List (List Cel)}(cR:eQ 0 R=0)(cA:eQ 0 A=0)(cB:eQ 0 B=0)(hR:fP 0 R)(hA:fP 0 A)(hB:fP 0 B)(Ps:(dfL 0 R A).length≤12)(a1:1≤(dfL 0 R A).length)(Pt:(dfL 0 R B).length≤12)(b1:1≤(dfL 0 R B).length)
  (hF:aQg 0 (dfM 0 R A)) (hG:aQg 0 (dfM 0 R B)) (hm:∀ c∈dfM 0 R B,(qU 0 (dfM 0 R A) (crM c)).isSome=true) (h1:0<((dfM 0 R B).filterMap (Gm (dfM 0 R A))).length) :
  FMM Tp 20 [.p (.agg [aB 0,cD R]),.p (.agg [aB 0,cD A]),.p (.agg [aB 0,cD B])] [] (.tup [.p (.agg [aB 0,bK]),.p (.sl ((dfM 0 R B).filterMap (Gm (dfM 0 R A))).length ((((dfM 0 R B).filterMap (Gm (dfM 0 R A))).map ixE).flatten)),.p (aB 0)]) []:=by
 have hFn:=hF.n;have hGn:=hG.n;have L0:aF Tp 0 (sub (cd Tryz.f20) bt) (jS R A B 0) (.exit 0) (jS R A B 3) := .step (aWj rfl cR rfl) (.step (aWk rfl cA rfl) (.step (aWl rfl cB rfl) (.exit (aWm rfl rfl) (by simp))))
 have L1:=aF.count (P:=Tp) (k:=0) (b:=(sub (cd Tryz.f20) ay)) (e := .exit 2) (R:=pC R A B (dfM 0 R A).length (iI (dfM 0 R A)) (dfM 0 R A).length) (dfM 0 R A).length
  (fun i=>pC R A B i (iI ((dfM 0 R A).take i)) ((dfM 0 R A).take i).length)
  (fun i hi=>by
   have hx:(dfM 0 R A)[i]? = some (dfM 0 R A)[i]:=Ca hi;have et:(dfM 0 R A).take (i+1)=(dfM 0 R A).take i++[(dfM 0 R A)[i]]:=by rw [List.take_add_one,hx];rfl
   have hc:=gP hi;have hnt:(((dfM 0 R A).take i).map fun c=>Az 0 (crM c)).Nodup:=by rw [List.map_take];exact hF.nd.sublist (List.take_sublist i _)
   have hno:qU 0 ((dfM 0 R A).take i) (crM (dfM 0 R A)[i])=none:=by
    unfold qU;rw [List.find?_eq_none];intro y hy hd;obtain ⟨j,hj,e⟩:=List.mem_iff_getElem.1 hy;rw [uJ] at hj
    rw [List.getElem_take] at e
    have hd:=of_decide_eq_true hd;rw [← e] at hd
    have:=List.pairwise_iff_getElem.1 hF.nd j i (by rw [oC];omega) (by rw [oC];omega) (by omega)
    rw [iA,iA] at this
    exact this hd
   have hK:=aQh (r:=crM (dfM 0 R A)[i]) (fun x hx=>hF.ky x (List.mem_of_mem_take hx)) hnt (hF.ky _ hc)
   have hhit:=bDy 0 ((dfM 0 R A).take i) (crM (dfM 0 R A)[i]);rw [hno] at hhit
   exact aWn (A2:=(dfM 0 R A)[i].1) (A3:=(dfM 0 R A)[i].2) (m:=(dfM 0 R A).take i) (m':=(dfM 0 R A).take (i+1)) (by omega) hx (hF.kk _ hc) hK hhit (aW (by omega)) rfl (by rw [et];show aAo 0 _=aAo 0 _++_;unfold aAo;rw [uL];rfl) (by simp;omega))
  (by rw [List.take_length];exact aWo (by omega)) (by simp)
 have L2:=aF.count (P:=Tp) (k:=0) (b:=(sub (cd Tryz.f20) [1,1,1,1,1,1,1,1,0,1,0,0])) (e := .exit 4) (R:=lU R B (dfM 0 R A) (dfM 0 R B).length ((dfM 0 R B).filterMap (Gm (dfM 0 R A))).length ((((dfM 0 R B).filterMap (Gm (dfM 0 R A))).map ixE).flatten)) (dfM 0 R B).length
  (fun j=>lU R B (dfM 0 R A) j (((dfM 0 R B).take j).filterMap (Gm (dfM 0 R A))).length (((((dfM 0 R B).take j).filterMap (Gm (dfM 0 R A))).map ixE).flatten))
  (fun j hj=>by
   have hx:(dfM 0 R B)[j]? = some (dfM 0 R B)[j]:=Ca hj;have hc:=gP hj;have hfl:=zR (Gm (dfM 0 R A)) (dfM 0 R B) j;rw [tN (Gm (dfM 0 R A)) hx];have hmt:=hm _ hc;have kk:=hG.kk _ hc;have ky:=hG.ky _ hc;generalize (dfM 0 R B)[j]=c at hx hc hmt kk ky
   have hK:=aQh (r:=crM c) hF.ky hF.nd ky;have hhit:=bDy 0 (dfM 0 R A) (crM c);have hlook:=bKo 0 (dfM 0 R A) (crM c);have hfx:Gm (dfM 0 R A) c=match qU 0 (dfM 0 R A) (crM c) with | some o=>if o.2=c.2 then none else some [aL 0 (crM c) 0] | none=>none:=rfl
   rw [hfx];generalize ((dfM 0 R B).take j).filterMap (Gm (dfM 0 R A))=x at hfl
   cases hlk:qU 0 (dfM 0 R A) (crM c) with
   | none=>rw [hlk] at hmt;cases hmt
   | some o =>
    rw [hlk] at hhit hlook
    have ho:=hF.len o (bHn hlk);dsimp only
    by_cases he:o.2=c.2
    ·rw [if_pos he,Option.toList_none,List.append_nil]
     exact aWq (Aw:=c.1) (Ap:=c.2) (by omega) hx kk hK hhit hlook (by omega) (by simp [he]) (aW (by omega)) rfl
    ·rw [if_neg he]
     exact aWp (Aw:=c.1) (Ap:=c.2) (x':=x++[[aL 0 (crM c) 0]]) (by omega) hx kk hK hhit hlook (by omega) (by simp [he]) ⟨rfl,by omega⟩ (aW (by omega)) rfl (by simp) (bDz x _))
  (by rw [List.take_length];exact aWr (by omega)) (by simp)
 exact bTz L0 hR hA Ps a1 L1 hB Pt b1 L2 (by omega)
end KV
end Go.Proofs
end
namespace Go.Proofs
namespace KV
open Tryz
section
variable {z Ip:Int}{i n rn K4 H4 pos base:Nat}{g:PV}

noncomputable abbrev aPq:Code:=pS (cd Tryz.f165) 6 [0,1,0,0]
noncomputable abbrev aPr:Code:=sub (cd Tryz.f165) [1,1,1,0,1,0,0,1,1]
noncomputable abbrev bLz:Code:=sub (cd Tryz.f165) [1,1,1,0]
theorem bMa:0≤(0:Int)∧(0:Int)≤32∧(32:Int)≤1000000:=by first | decide | simp
theorem bQz{cs:List UInt8}{r:Nat}{r0:Bool}(h0:r<128)(Am:r0=(zH cs r)):FV Tp 164 [(.p (aD cs)),(.p (.v (.int .i32 (r:Int))))] base (pB r0) []:=by
 subst Am;exact FV.fi func164 [.c (pB (zH cs r)) []] (gc (fk 0 (bRc cs r h0) rfl) gn)
theorem aEz(cs:List UInt8)(r:Nat)(h:r<128){v:Bool}(hv:zH cs r=v){base:Nat}:FV Tp 164 [.p (aD cs),.p (.v (.int .i32 (r:Int)))] base (pB v) []:=bQz (r0:=v) h hv.symm
def spE(x:Int × Int):List PV:=[aB x.1,aB x.2]
def rR(s cs:List UInt8)(pn:Nat)(pc:List PV)(z:Int):St:=⟨fr 65 [(0,(.p (aD s))),(1,(.fn 164 [(.p (aD cs))] [])),(4,(.p bK)),(5,(.own 0)),(6,(pI z))],[some (.row 302 pn pc)]⟩
def lQ(s:List UInt8)(n i qn:Nat)(qc:List PV)(rn:Nat)(rc:List PV):St:=⟨fr 65 [(0,(.p (aD s))),(4,(.p bK)),(9,(.own 1)),(47,(.own 0)),(48,(pI (n:Int))),(49,(pI (i:Int)))],[some (.row 302 qn qc),some (.row 9 rn rc)]⟩
section
variable{s cs:List UInt8}{Du:List (Int × Int)}(Ay:aA Tp 0 bLz (rR s cs 0 [] (-1)) .normal (rR s cs Du.length ((Du.map spE).flatten) Ip))
include Ay
theorem bRa{Io:List (Int × Int)}{Gz:List (List UInt8)}(h1:(0:Int)≤Ip)(h2:[(aB Ip),(aB (s.length:Int))].length=1*2∧Du.length+1≤1000000)(h3:0≤(((Du.length+1):Nat):Int)∧(((Du.length+1):Nat):Int)≤(((Du.length+1):Nat):Int)∧(((Du.length+1):Nat):Int)≤1000000)(Dy:aF Tp 0 aPq (lQ s (Du.length+1) 0 (Du.length+1) (((Du.map spE).flatten)++[(aB Ip),(aB (s.length:Int))]) (Du.length+1) (List.replicate (Du.length+1) (aD ([]:List UInt8)))) (.exit 2) (lQ s H4 K4 Io.length ((Io.map spE).flatten) Gz.length ((Gz.map stE).flatten))):FV Tp 165 [(.p (aD s)),(.fn 164 [(.p (aD cs))] [])] base (.own base) [(base,(.row 9 Gz.length ((Gz.map stE).flatten)))]:=FV.fi func165 [Ay.k 7 (gI [2,2,7,2,12,23] [0]),bT,Dy.k 7 (gI az [2,3])] (gc Dy.code (gc h3 (gc h2 (gt ([(aB Ip),(aB (s.length:Int))].length=2) (by first | decide | simp) (gc (kT h1) (gc Ay (gc bMa gn)))))))
theorem bRb{Io:List (Int × Int)}{Gz:List (List UInt8)}(h1:Ip<(0:Int))(h2:0≤(Du.length:Int)∧(Du.length:Int)≤(Du.length:Int)∧(Du.length:Int)≤1000000)(Eg:aF Tp 0 aPq (lQ s Du.length 0 Du.length ((Du.map spE).flatten) Du.length (List.replicate Du.length (aD ([]:List UInt8)))) (.exit 2) (lQ s H4 K4 Io.length ((Io.map spE).flatten) Gz.length ((Gz.map stE).flatten))):FV Tp 165 [(.p (aD s)),(.fn 164 [(.p (aD cs))] [])] base (.own base) [(base,(.row 9 Gz.length ((Gz.map stE).flatten)))]:=FV.fi func165 [Ay.k 7 (gI [2,2,7,2,12,23] [0]),bF,Eg.k 6 (gI az [0,1])] (gc Eg.code (gc h2 (gc (fA h1) (gc Ay (gc bMa gn)))))
end
theorem aUm{s:List UInt8}{q:List (Int × Int)}{r:List (List UInt8)}{Bq Bn:Int}{i':Nat}{r':List (List UInt8)}(h0:(i:Int)<(n:Int))(h1:0≤(i:Int)∧(i:Int)<(q.length:Int))(h2:q[i]? = some (Bq,Bn))(h3:0≤Bq∧Bq≤Bn∧Bn≤(s.length:Int))(h4:0≤(i:Int)∧(i:Int)<(r.length:Int))(h5:(i*1)<((r.map stE).flatten).length)(h6:ce i)(Ai:i'=(i+1))(Iq:r'.length=r.length)(Ir:(r'.map stE).flatten=(((r.map stE).flatten).set (i*1) (aD ((s.drop Bq.toNat).take (Bn.toNat-Bq.toNat))))):aA Tp 0 aPq (lQ s n i q.length ((q.map spE).flatten) r.length ((r.map stE).flatten)) .normal (lQ s n i' q.length ((q.map spE).flatten) r'.length ((r'.map stE).flatten)):=by
 subst Ai;rw [Iq,Ir];exact aA.fi (gI az [0,1]) [bT,.x (.agg [(aB Bq),(aB Bn)])] (gc h6 (gc h5 (gc h4 (gc h3 (gc (bE (E:=spE) (i:=i) (k:=2) (fun _=>rfl) h2 rfl) (gc (bZ (E:=spE) (i:=i) (k:=2) (fun _=>rfl) h2) (gc h1 (g0 h0))))))))
theorem aUn{s:List UInt8}{q:List (Int × Int)}{r:List (List UInt8)}(h0:(n:Int)≤(i:Int)):aA Tp 0 aPq (lQ s n i q.length ((q.map spE).flatten) r.length ((r.map stE).flatten)) (.exit 2) (lQ s n i q.length ((q.map spE).flatten) r.length ((r.map stE).flatten)):=aA.fi (gI az [0,1]) [bF] (gc (aO h0) gn)
def lR(s cs:List UInt8)(g:PV)(pos rn pn:Nat)(pc:List PV)(z:Int):St:=⟨fr 65 [(0,(.p (aD s))),(1,(.fn 164 [(.p (aD cs))] [])),(4,(.p bK)),(5,(.own 0)),(6,(pI z)),(14,(.p g)),(15,(.tup [(pB true),(pI (pos:Int)),(.p (.v (.int .i32 (rn:Int))))])),(16,(pB true))],[some (.row 302 pn pc)]⟩
def bCy(s cs:List UInt8)(g:PV)(pos rn:Nat)(p:List (Int × Int))(z y:Int):St:=⟨fr 65 [(0,(.p (aD s))),(1,(.fn 164 [(.p (aD cs))] [])),(4,(.p bK)),(5,(.own 2)),(6,(pI y)),(7,(pI (pos:Int))),(8,(.p (.v (.int .i32 (rn:Int))))),(14,(.p g)),(15,(.tup [(pB true),(pI (pos:Int)),(.p (.v (.int .i32 (rn:Int))))])),(16,(pB true)),(17,(pI (pos:Int))),(18,(.p (.v (.int .i32 (rn:Int))))),(19,(.fn 164 [(.p (aD cs))] [])),(20,(.p (.v (.int .i32 (rn:Int))))),(21,(pB true)),(22,(pI z)),(23,(pB (decide (z ≥ 0)))),(24,(.own 0)),(25,(pI z)),(26,(pI (pos:Int))),(27,(.p (.agg [(aB z),(aB (pos:Int))]))),(28,(.own 1)),(29,(.own 2))],[some .dead,some (.row 302 1 [(aB z),(aB (pos:Int))]),some (.row 302 (p.length+1) (((p.map spE).flatten)++[(aB z),(aB (pos:Int))]))]⟩
theorem aUo{s cs:List UInt8}{p:List (Int × Int)}{H5:Int}{p':List (Int × Int)}(h0:rn<128)(Cy:zH cs rn=true)(h2:(0:Int)≤z)(h3:[(aB z),(aB (pos:Int))].length=1*2∧p.length+1≤1000000)(Dy:aA Tp 0 (sub (cd Tryz.f165) [1,1,1,0,1,0,0,1,1,0,1,1,0,1,0,1]) (bCy s cs g pos rn p z z) .normal (bCy s cs g pos rn p z H5))(Mn:p'.length=(p.length+1))(Mo:(p'.map spE).flatten=(((p.map spE).flatten)++[(aB z),(aB (pos:Int))])):aA Tp 0 aPr (lR s cs g pos rn p.length ((p.map spE).flatten) z) .normal (lR s cs g pos rn p'.length ((p'.map spE).flatten) H5):=by
 rw [Mn,Mo];exact aA.fi (gI b7 [2]) [.c (pB true) [],bT,bT,Dy.k 2 ⟨[2,3,12,13,30,31],[0,1,2],[],[]⟩] (gc Dy (gc h3 (gt ([(aB z),(aB (pos:Int))].length=2) (by first | decide | simp) (gc (kT h2) (gt (true=true) rfl (gc (fk 1 (aEz cs rn h0 Cy) rfl) gn))))))
theorem aUp{s cs:List UInt8}{p:List (Int × Int)}(h0:rn<128)(Cy:zH cs rn=true)(h2:z<0):aA Tp 0 aPr (lR s cs g pos rn p.length ((p.map spE).flatten) z) .normal (lR s cs g pos rn p.length ((p.map spE).flatten) z):=aA.fi (gI b7 [0]) [.c (pB true) [],bT,bF] (gc (fA h2) (gt (true=true) rfl (gc (fk 1 (aEz cs rn h0 Cy) rfl) gn)))
theorem aUq{s cs:List UInt8}{p:List (Int × Int)}{z':Int}(h0:rn<128)(Cy:zH cs rn=false)(h2:z<0)(O3:z'=(pos:Int)):aA Tp 0 aPr (lR s cs g pos rn p.length ((p.map spE).flatten) z) .normal (lR s cs g pos rn p.length ((p.map spE).flatten) z'):=by
 subst O3;exact aA.fi (gI b7 [0]) [.c (pB false) [],bF,bT] (gc (bX h2) (gf (gc (fk 1 (aEz cs rn h0 Cy) rfl) gn)))
theorem aUr{s cs:List UInt8}{p:List (Int × Int)}(h0:rn<128)(Cy:zH cs rn=false)(h2:(0:Int)≤z):aA Tp 0 aPr (lR s cs g pos rn p.length ((p.map spE).flatten) z) .normal (lR s cs g pos rn p.length ((p.map spE).flatten) z):=aA.fi (gI b7 [0]) [.c (pB false) [],bF,bF] (gc (aO h2) (gf (gc (fk 1 (aEz cs rn h0 Cy) rfl) gn)))
end
end KV
end Go.Proofs
section
namespace Go.Proofs
open Go.RowKit
namespace KV
open Tryz
theorem aPp{α β:Type}{Inv:Nat→β→Prop}{f:β→α→β}{b0:β}{L:List α}(h0:Inv 0 b0)(hs:∀ (i:Nat) (x:α) (b:β),L[i]? = some x→Inv i b→Inv (i+1) (f b x)):∀ n,n≤L.length→Inv n ((L.take n).foldl f b0)
 | 0,_=>h0
 | n+1,h=>by
  have hx:L[n]? = some L[n]:=Ca (by omega)
  rw [List.take_add_one,hx,List.foldl_append];exact hs n _ _ hx (aPp h0 hs n (by omega))
abbrev FSt:=List (Int × Int) × Int
def kR(cs:List UInt8)(x:FSt)(q:Nat × Nat):FSt:=if zH cs q.2 then (if 0≤x.2 then (x.1++[(x.2,(q.1:Int))],-1-x.2) else x) else (if x.2<0 then (x.1,(q.1:Int)) else x)
def aEx:FSt:=([],-1)
def bCv(s:List UInt8)(x:FSt):List (Int × Int):=if 0≤x.2 then x.1++[(x.2,(s.length:Int))] else x.1
def bQx(cs s:List UInt8):List (Int × Int):=bCv s ((fU 0 s).foldl (kR cs) aEx)
def zG(s:List UInt8)(x:Int × Int):List UInt8:=(s.drop x.1.toNat).take (x.2.toNat-x.1.toNat)
def aIm(cs s:List UInt8):List (List UInt8):=(bQx cs s).map (zG s)
theorem uQ:∀ (l:List UInt8) (j i:Nat) (x:Nat × Nat),(fU j l)[i]? = some x→x.1=j+i∧i<l.length∧∃ b∈l,x.2=b.toNat
 | [],_,_,_,h=>by cases h
 | b::r,j,0,x,h=>by
  cases h;exact ⟨rfl,by simp,b,by simp,rfl⟩
 | b::r,j,i+1,x,h=>by
  obtain ⟨h1,h2,b',h3,h4⟩:=uQ r (j+1) i x h;exact ⟨by omega,by simp;omega,b',by simp [h3],h4⟩
theorem rQ:∀ (l:List UInt8) (j:Nat),(fU j l).length=l.length
 | [],_=>rfl
 | _::r,j=>by simp [fU,rQ r (j+1)]
structure bQy (N i:Nat) (x:FSt):Prop where
 len:x.1.length≤i
 lo : -1-(i:Int)≤x.2
 hi:x.2<0∨x.2<(i:Int)
 sp:∀ y∈x.1,0≤y.1∧y.1≤y.2∧y.2≤(N:Int)
theorem bCw(cs s:List UInt8)(n:Nat)(hn:n≤(fU 0 s).length):bQy s.length n (((fU 0 s).take n).foldl (kR cs) aEx):=by
 refine aPp (Inv:=bQy s.length) ⟨by simp [aEx],by simp [aEx],by simp [aEx],fun y h=>by cases h⟩ (fun i x b hx hI => ?_) n hn
 obtain ⟨h1,h2,_⟩:=uQ s 0 i x hx;obtain ⟨q1,q2,q3,q4⟩:=hI;rw [iO] at h1
 unfold kR
 split
 ·split
  ·refine ⟨by simp;omega,by show _ ≤ -1-b.2;omega,.inl (by show -1-b.2<0;omega),fun y hy => ?_⟩
   rcases aAj.1 hy with hy | hy
   ·exact q4 y hy
   ·rw [List.mem_singleton] at hy
    subst hy;exact ⟨by assumption,by show b.2≤(x.1:Int);omega,by show (x.1:Int)≤_;omega⟩
  ·exact ⟨by omega,by omega,by omega,q4⟩
 ·split
  ·exact ⟨by show b.1.length≤_;omega,by show _≤(x.1:Int);omega,.inr (by show (x.1:Int)<_;omega),q4⟩
  ·exact ⟨by omega,by omega,by omega,q4⟩
def ffG(s cs:List UInt8)(x:FSt)(g:PV):St:=⟨fr 65 [(0,(.p (aD s))),(1,(.fn 164 [(.p (aD cs))] [])),(4,(.p bK)),(5,(.own 0)),(6,(.p (aB x.2))),(14,(.p g))],[some (.row 302 x.1.length ((x.1.map spE).flatten))]⟩
abbrev ffS(s cs:List UInt8)(x:FSt):St:=rR s cs x.1.length ((x.1.map spE).flatten) x.2
theorem bCx(s cs:List UInt8)(hs:s.length≤90000)(x:FSt)(g:PV)(q:Nat × Nat)(i:Nat)(hI:bQy s.length i x)(hi:i<s.length)(h1:q.2<128) :
  aA Tp 0 (sub (cd Tryz.f165) [1,1,1,0,1,0,0,1,1]) ⟨nxT (ffG s cs x g).t 15 16 q.1 q.2,(ffG s cs x g).m⟩ .normal (ffG s cs (kR cs x q) g):=by
 obtain ⟨p,z⟩:=x;obtain ⟨pos,rn⟩:=q;obtain ⟨q1,q2,q3,q4⟩:=hI;dsimp only at q1 q2 q3 q4 h1
 refine aA.post (st1:=lR s cs g pos rn (kR cs (p,z) (pos,rn)).1.length (((kR cs (p,z) (pos,rn)).1.map spE).flatten) (kR cs (p,z) (pos,rn)).2) (g:=⟨[15,16],[0],[],[]⟩) (by kernel_rfl) ?_
 show aA Tp 0 _ (lR s cs g pos rn p.length ((p.map spE).flatten) z) .normal _;unfold kR;dsimp only
 by_cases hb:zH cs rn=true
 ·rw [if_pos hb]
  by_cases hz:0≤z
  ·rw [if_pos hz]
   refine aUo h1 hb hz ⟨rfl, by omega⟩ (bRd (id := 9) (i := 6) (j := 30) (k := 31) (Ej := 3) (Ef := 3) (Im := 3) (p1 := "strings.go:443") (p2 := "strings.go:443") (p3 := "strings.go:443") (q := #[{ on := 1, ground := Ground.data }, { on := 0, ground := Ground.phase }, { on := 1, ground := Ground.phase }]) (v := z) (by kernel_rfl) rfl (by show 30 < 65; omega) (by show 31 < 65; omega) ⟨hz, by omega⟩ rfl rfl) (by simp) (by simp [spE])
  ·rw [if_neg hz]
   exact aUp h1 hb (Int.not_le.1 hz)
 ·rw [if_neg hb]
  have Ar:zH cs rn=false:=by simpa using hb
  by_cases hz:z<0
  ·rw [if_pos hz]
   exact aUq h1 Ar hz rfl
  ·rw [if_neg hz]
   exact aUr h1 Ar (Int.not_lt.1 hz)
theorem bJd(s cs:List UInt8)(hs:s.length≤90000)(ha:∀ b∈s,b.toNat<128) :
  aA Tp 0 (sub (cd Tryz.f165) [1,1,1,0]) (ffS s cs aEx) .normal (ffS s cs ((fU 0 s).foldl (kR cs) aEx)):=by
 refine bDb (i0 := 0) (m := 13) (N6 := 3) (id := 4) (gi := 14) (d := 15) (c := 16) (Ej := 0) (Ef := 4) (Im := 9) (N7 := 0) (e0 := 0) (p1 := "strings.go:436") (p2 := "strings.go:436") (p3 := "strings.go:436") (p4 := "strings.go:436") (body := sub (cd Tryz.f165) [1, 1, 1, 0, 1, 0, 0, 1, 1]) s (ffS s cs) (ffG s cs) (kR cs) aEx (fU 0 s) (aCg s ha s 0 rfl)
  (by kernel_rfl) (by kernel_rfl) rfl (by show 13<65;omega) (fun g=>rfl) (fun b g=>rfl) (fun b g=>rfl) (fun b g=>rfl) (fun b g=>by show 14<65;omega) (fun b g=>by show 15<65;omega) (fun b g=>by show 16<65;omega) (fun b g=>rfl) (fun b=>(eK (by rfl)).2) (fun pre x g hp => ?_)
 obtain ⟨l,hl⟩:=hp;have hlen:pre.length<(fU 0 s).length:=by rw [← hl];simp
 have hx:(fU 0 s)[pre.length]? = some x:=by rw [← hl];simp
 have ht:(fU 0 s).take pre.length=pre:=by rw [← hl];simp
 obtain ⟨_,h2,b,h3,h4⟩:=uQ s 0 _ x hx;refine bCx s cs hs _ g x pre.length ?_ h2 (by rw [h4];exact ha b h3)
 have:=bCw cs s pre.length (by omega)
 rw [ht] at this
 exact this
theorem aEy(s:List UInt8)(q:List (Int × Int))(hq:∀ y∈q,0≤y.1∧y.1≤y.2∧y.2≤(s.length:Int))(hl:q.length≤100001):∀ (m i:Nat) (r:List (List UInt8)),i+m=q.length→r.length=q.length→r=(q.take i).map (zG s)++List.replicate m [] →
  aF Tp 0 (sub (cd Tryz.f165) ay) (lQ s q.length i q.length ((q.map spE).flatten) r.length ((r.map stE).flatten)) (.exit 2) (lQ s q.length q.length q.length ((q.map spE).flatten) (q.map (zG s)).length (((q.map (zG s)).map stE).flatten))
 | 0,i,r,hi,hr,he=>by
  have:i=q.length:=by omega
  subst this;rw [List.take_length,List.replicate_zero,List.append_nil] at he
  subst he;exact .exit (aUn (aTd _)) (by simp)
 | m+1,i,r,hi,hr,he=>by
  have hlt:i<q.length:=by omega
  have hx:q[i]? = some q[i]:=Ca hlt;have hm:=hq _ (gP hlt);have hz:(q[i]).1=(q[i]).1:=rfl;obtain ⟨a,z,hay⟩:∃ a z,q[i]=(a,z):=⟨_,_,rfl⟩;rw [hay] at hx hm
  have hnx:r.set i (zG s (a,z))=(q.take (i+1)).map (zG s)++List.replicate m []:=by
   have hli:((q.take i).map (zG s)).length=i:=by simp;omega
   rw [he,List.set_append,if_neg (by omega),hli,bBz,List.take_add_one,hx]
   simp [List.replicate_succ]
  refine .step (aUm (r':=r.set i (zG s (a,z))) (by omega) (by omega) hx hm (by omega) (by rw [jB];simp;omega) (aW (by omega)) rfl (by simp) (by rw [jB,jB,List.map_set,Nat.mul_one];rfl)) (aEy s q hq hl m (i+1) _ (by omega) (by simpa using hr) hnx)
theorem oW(s cs:List UInt8)(hs:s.length≤90000)(ha:∀ b∈s,b.toNat<128){base:Nat}:FV Tp 165 [.p (aD s),.fn 164 [.p (aD cs)] []] base (.own base) [(base,.row 9 (aIm cs s).length (((aIm cs s).map stE).flatten))]:=by
 have hN:=bJd s cs hs ha;have hI:=bCw cs s (fU 0 s).length (Bj _);rw [List.take_length] at hI
 unfold aIm bQx;generalize (fU 0 s).foldl (kR cs) aEx=x at hN hI
 obtain ⟨p,z⟩:=x;rw [rQ] at hI
 obtain ⟨q1,q2,q3,q4⟩:=hI;dsimp only at q1 q2 q3 q4
 unfold bCv;dsimp only;have hN:aA Tp 0 (sub (cd Tryz.f165) [1,1,1,0]) (rR s cs 0 [] (-1:Int)) .normal (rR s cs p.length ((p.map spE).flatten) z):=hN;have hrep:∀ n:Nat,List.replicate n (aD ([]:List UInt8))=((List.replicate n ([]:List UInt8)).map stE).flatten:=fun n=>by rw [jB];simp
 by_cases hz:0≤z
 ·rw [if_pos hz]
  have hL:=aEy s (p++[(z,(s.length:Int))]) (fun y hy=>by
   rcases aAj.1 hy with hy | hy
   ·exact q4 y hy
   ·rw [List.mem_singleton] at hy
    subst hy;exact ⟨hz,by show z≤_;omega,aTd _⟩) (by simp;omega) (p.length+1) 0 (List.replicate (p.length+1) []) (by simp) (by simp) rfl
  have e1:(p++[(z,(s.length:Int))]).length=p.length+1:=by simp
  have e2:(((p++[(z,(s.length:Int))]).map spE).flatten)=((p.map spE).flatten)++[(aB z),(aB (s.length:Int))]:=by simp [spE]
  refine bRa hN hz ⟨rfl,by omega⟩ (by omega) (H4:=p.length+1) (K4:=p.length+1) (Io:=p++[(z,(s.length:Int))]) (Gz:=(p++[(z,(s.length:Int))]).map (zG s)) ?_
  rw [hrep];rw [e1,List.length_replicate,e2] at hL
  rw [e1,e2];exact hL
 ·rw [if_neg hz]
  have hL:=aEy s p q4 (by omega) p.length 0 (List.replicate p.length []) (by simp) (by simp) rfl
  refine bRb hN (Int.not_le.1 hz) (by omega) (H4:=p.length) (K4:=p.length) (Io:=p) (Gz:=p.map (zG s)) ?_
  rw [hrep];rw [List.length_replicate] at hL
  exact hL
end KV
end Go.Proofs
end
namespace Go.Proofs
namespace KV
open Tryz
section

noncomputable abbrev aIk:Code:=sub (cd Tryz.f166) [1,0,0,0]
abbrev cF(s:List UInt8):List (List UInt8):=aIm [9,13,32] s
def lP(u:List UInt8):St:=⟨fr 14 [(0,(.p (aD u))),(2,(.p (aD ([]:List UInt8))))],[]⟩
theorem bQv{s N5:List UInt8}(Ay:aF Tp 0 aIk (lP  s) (.exit 0) (lP  N5)){base:Nat}:FV Tp 166 [(.p (aD s))] base (.p (aD N5)) []:=FV.fi func166 [Ay.k 4 ⟨[1,3,4,5,6,7,8,9,10,11,12],[],[],[]⟩] (gc Ay.code gn)
section
variable{u:List UInt8}{Ag:UInt8}(h0:(1:Int)<(u.length:Int))(h1:u[0]? = some Ag)
include h0 h1
theorem aUk{u':List UInt8}(h2:(Ag.toNat:Int)=48)(h3:0≤(1:Int)∧(1:Int)≤(u.length:Int)∧(u.length:Int)≤(u.length:Int))(O2:u'=(u.drop 1)):aA Tp 0 aIk (lP  u) .normal (lP  u'):=by
 subst O2;exact aA.fi ⟨[1,3,4,5,6,7,8,9,10,11,12],[],[],[]⟩ [bT,bT,.x (.v (.int .u8 (Ag.toNat:Int))),bT,bT,bT] (gc h3 (gc (dG h2) (A1 (bX h0) (gt ((u[0]?).map (fun b:UInt8=>PV.v (.int .u8 (b.toNat:Int)))=some (.v (.int .u8 (Ag.toNat:Int)))) (cH h1) (gt (0≤(0:Int)) (by decide) (gc (bX h0) (g0 h0)))))))
theorem aUl(h2:(Ag.toNat:Int)≠48):aA Tp 0 aIk (lP  u) (.exit 0) (lP  u):=aA.fi ⟨[1,3,4,5,6,7,8,9,10,11,12],[],[],[]⟩ [bT,bT,.x (.v (.int .u8 (Ag.toNat:Int))),bT,bT,bF] (gc (bI h2) (A1 (bX h0) (gt ((u[0]?).map (fun b:UInt8=>PV.v (.int .u8 (b.toNat:Int)))=some (.v (.int .u8 (Ag.toNat:Int)))) (cH h1) (gt (0≤(0:Int)) (by decide) (gc (bX h0) (g0 h0))))))
end
theorem aCf{u:List UInt8}(h0:(u.length:Int)≤1):aA Tp 0 aIk (lP  u) (.exit 0) (lP  u):=aA.fi ⟨[1,3,4,5,6,7,8,9,10,11,12],[],[],[]⟩ [bF,bF,bF,bF] (Cm (aO h0) gn)
def fE:List UInt8→List UInt8
 | []=>[]
 | b::r=>if 0<r.length∧b=48 then fE r else b::r
theorem aIl:∀ u:List UInt8,aF Tp 0 aIk (lP u) (.exit 0) (lP (fE u))
 | [] => .exit (aCf (by simp)) (by simp)
 | b::r=>by
  by_cases h0:0<r.length
  ·by_cases hb:b=48
   ·have e:fE (b::r)=fE r:=by simp only [fE];rw [if_pos ⟨h0,hb⟩]
    rw [e];exact .step (aUk (u':=r) (Ag:=b) (by simp;omega) rfl (by rw [hb];rfl) (by simp;omega) (by simp)) (aIl r)
   ·have e:fE (b::r)=b::r:=by simp only [fE];rw [if_neg (fun h=>hb h.2)]
    rw [e];exact .exit (aUl (Ag:=b) (by simp;omega) rfl (fun h=>hb (UInt8.toNat_inj.1 (Int.ofNat.inj h)))) (by simp)
  ·have e:fE (b::r)=b::r:=by simp only [fE];rw [if_neg (fun h=>h0 h.1)]
   rw [e];exact .exit (aCf (by simp;omega)) (by simp)
theorem bQw(s:List UInt8){base:Nat}:FV Tp 166 [.p (aD s)] base (.p (aD (fE s))) []:=bQv (aIl s)
end
section
variable {xb:Bool}{k Ac:Int}{i i' nl Fc Cu:Nat}

noncomputable abbrev jX:Code:=pS (cd Tryz.f79) 7 [0,1,0,1]
noncomputable abbrev tG:Code:=pS (cd Tryz.f79) 7 [0,1,0,1,0,1,1,1,0,1,0,0]
def cV(k:Int)(nl Rn:Nat)(Rc:List PV)(me:List (Value × PV))(mk:Nat):St:=⟨fr 176 [(2,(.ptr 0 0)),(4,(.ptr 1 0)),(5,(.ptr 2 0)),(6,(.ptr 3 0)),(7,(.ptr 4 0)),(8,(.ptr 6 0)),(9,(.ptr 7 0)),(10,(.ptr 8 0)),(11,(pI (aK k))),(12,(.ptr 10 0)),(13,(.ptr 11 0)),(35,(.ptr 5 0)),(44,(.fn 175 [] [(.ptr 12 0)]))],[some (.box 23 [(pI k)]),some (.box 26 [(pI 0),(.p bK)]),some (.box 3 [(pI 0)]),some (.box 3 [(pI 0)]),some (.box 27 [(pI 0)]),some (.box 158 [(pI k),(.own 13),(pI 0),(pI 0),(pI 0)]),some (.box 156 [(.ptr 5 0)]),some (.box 260 [(.fn 164 [(.p (aD ([9,13,32]:List UInt8)))] [])]),some (.box 65 [(.p (bJ (aJ k)))]),some (.mp me mk),some (.box 247 [(.mp 9)]),some (.box 3 [(pI (nl:Int))]),some .dead,some (.row 78 Rn Rc)]⟩
def uP(k:Int)(s:List UInt8):St:=⟨fr 176 [(2,(.ptr 0 0)),(4,(.ptr 1 0)),(5,(.ptr 2 0)),(6,(.ptr 3 0)),(7,(.ptr 4 0)),(8,(.ptr 6 0)),(9,(.ptr 7 0)),(10,(.ptr 8 0)),(11,(pI (aK k))),(12,(.ptr 10 0)),(13,(.ptr 11 0)),(35,(.ptr 5 0)),(44,(.fn 175 [] [(.ptr 12 0)]))],[some (.box 23 [(pI k)]),some (.box 26 [(pI 0),(.p bK)]),some (.box 3 [(pI 0)]),some (.box 3 [(pI 0)]),some (.box 27 [(pI 0)]),some (.box 158 [(pI k),(.p bK),(pI 0),(pI 0),(pI 0)]),some (.box 156 [(.ptr 5 0)]),some (.box 260 [(.fn 164 [(.p (aD ([9,13,32]:List UInt8)))] [])]),some (.box 65 [(.p (bJ (aJ k)))]),some (.mp [] 0),some (.box 247 [(.mp 9)]),some (.box 3 [(pI 0)]),some (.box 9 [(.p (aD s))])]⟩
theorem bQu{s:List UInt8}{Mk:Nat}{R'1 Dn:List (List Cel)}(h0:(within k 0 4)=true)(h1:(s.length:Int)≤65536)(Bh:aA Tp 0 (sub (cd Tryz.f79) b5) (uP k s) .normal (cV k Mk R'1.length ((R'1.map rwE).flatten) ((bN k) Dn) Dn.length))(h3:(R'1.length:Int)≤200)(Il:R'1.length≤12)(O1:1≤R'1.length)(Ml:∀ x∈R'1,aK k≤(x.length:Int)):FMM Tp 79 [(pI k),(.p (aD s))] [] (.tup [(.p (.agg [(aB k),(.sl ((isG (bW k) R'1).length) (((isG (bW k) R'1).map rwE).flatten))])),(pI 0),(pI 0),(pI 0)]) []:=have k1:=fk 5 (lO k) rfl;have k2:=fk 8 (eI k) rfl;have k3:=mq [13,0] 14 (bVc (D:=R'1) (k:=k) Il O1 Ml);have k4:=mq [5,13] 14 (bFi (k:=k) (l:=(0:Int)) (f:=(0:Int)) (e:=0) (n:=((isG (bW k) R'1).length)) (cs:=(((isG (bW k) R'1).map rwE).flatten)) rfl);FMM.fi 0 ⟨[],[],[13],[]⟩ func79 [k1.o,bF,bF,k2.o,.c (.fn 175 [] [(.ptr 12 0)]) [(12,(.box 9 [(.p (aD s))]))],Bh.k 1 ⟨(rng [(0,2),(3,1),(14,21),(36,8),(45,110),(169,1)]),(rng [(0,13)]),[],[]⟩,bF,k3.o,k4.o] (gc k4 (gc k3 (gc (aO h3) (gc Bh (gt (FC Tp 88 [(.p (aD s))] [] 12 (.fn 175 [] [(.ptr 12 0)]) [(12,(.box 9 [(.p (aD s))]))]) (FMM.fcN (k:=1) rfl (ids:=[]) (aFm (s:=s)) (by kernel_rfl)) (gc k2 (gc (aO h1) (gc (aV h0) (gc k1 gn)))))))))
def dQ(k:Int)(nl:Nat)(R m:List (List Cel))(xl Aa:List UInt8)(i fsn:Nat)(fsc:List PV):St:=⟨fr 176 [(2,(.ptr 0 0)),(4,(.ptr 1 0)),(5,(.ptr 2 0)),(6,(.ptr 3 0)),(7,(.ptr 4 0)),(8,(.ptr 6 0)),(9,(.ptr 7 0)),(10,(.ptr 8 0)),(11,(pI (aK k))),(12,(.ptr 10 0)),(13,(.ptr 11 0)),(14,(.p (aD xl))),(15,(.own 14)),(35,(.ptr 5 0)),(44,(.fn 175 [] [(.ptr 12 0)])),(45,(.p (aD xl))),(47,(pI (nl:Int))),(48,(pI (((nl+1):Nat):Int))),(49,(.p (aD xl))),(50,(.fn 164 [(.p (aD ([9,13,32]:List UInt8)))] [])),(51,(.own 14)),(52,(.own 14)),(53,(pI ((cF xl).length:Int))),(54,(pB (((cF xl).length:Int) == 0))),(55,(pB (((cF xl).length:Int) == 0))),(56,(.own 14)),(57,(.ptr 14 0)),(58,(.p (aD Aa))),(59,(pB (decide (Aa=([107,108,105,115,116,101,114]:List UInt8))))),(60,(pB (decide (Aa=([107,108,105,115,116,101,114]:List UInt8))))),(61,(pB (decide (Aa=([107,108,105,115,116,101,114]:List UInt8))))),(62,(.own 14)),(63,(.ptr 14 0)),(64,(.p (aD Aa))),(65,(pB (decide (Aa=([115,117,109]:List UInt8))))),(66,(pB (decide (Aa=([115,117,109]:List UInt8))))),(67,(.own 14)),(68,(pI ((cF xl).length:Int))),(69,(pI (i:Int)))],[some (.box 23 [(pI k)]),some (.box 26 [(pI 0),(.p bK)]),some (.box 3 [(pI 0)]),some (.box 3 [(pI 0)]),some (.box 27 [(pI 0)]),some (.box 158 [(pI k),(.own 13),(pI 0),(pI 0),(pI 0)]),some (.box 156 [(.ptr 5 0)]),some (.box 260 [(.fn 164 [(.p (aD ([9,13,32]:List UInt8)))] [])]),some (.box 65 [(.p (bJ (aJ k)))]),some (.mp ((bN k) m) m.length),some (.box 247 [(.mp 9)]),some (.box 3 [(pI (((nl+1):Nat):Int))]),some .dead,some (.row 78 R.length ((R.map rwE).flatten)),some (.row 9 fsn fsc)]⟩
theorem aTy{R m:List (List Cel)}{xl:List UInt8}(h0:inR (((nl+1):Nat):Int))(C9:xl.length≤90000)(Ep:∀ b∈xl,b.toNat<128)(h3:((cF xl).length:Int)=0)(C3:Fc=(nl+1)):bS Tp 14 13 jX (oD (cV k nl R.length ((R.map rwE).flatten) ((bN k) m) m.length) 45 46 14 xl xb) .normal (cV k Fc R.length ((R.map rwE).flatten) ((bN k) m) m.length).m:=by
 subst C3;have raw:bS Tp 14 13 jX (oD (cV k nl R.length ((R.map rwE).flatten) ((bN k) m) m.length) 45 46 14 xl xb) .normal (cV k (nl+1) R.length ((R.map rwE).flatten) ((bN k) m) m.length).m:=⟨⟨fr 176 [(2,(.ptr 0 0)),(4,(.ptr 1 0)),(5,(.ptr 2 0)),(6,(.ptr 3 0)),(7,(.ptr 4 0)),(8,(.ptr 6 0)),(9,(.ptr 7 0)),(10,(.ptr 8 0)),(11,(pI (aK k))),(12,(.ptr 10 0)),(13,(.ptr 11 0)),(35,(.ptr 5 0)),(44,(.fn 175 [] [(.ptr 12 0)]))],[some (.box 23 [(pI k)]),some (.box 26 [(pI 0),(.p bK)]),some (.box 3 [(pI 0)]),some (.box 3 [(pI 0)]),some (.box 27 [(pI 0)]),some (.box 158 [(pI k),(.own 13),(pI 0),(pI 0),(pI 0)]),some (.box 156 [(.ptr 5 0)]),some (.box 260 [(.fn 164 [(.p (aD ([9,13,32]:List UInt8)))] [])]),some (.box 65 [(.p (bJ (aJ k)))]),some (.mp ((bN k) m) m.length),some (.box 247 [(.mp 9)]),some (.box 3 [(pI (((nl+1):Nat):Int))]),some .dead,some (.row 78 R.length ((R.map rwE).flatten))]⟩,⟨[],[13],[],[]⟩,aA.fin (g:=⟨(rng [(0,2),(3,1),(14,21),(36,8),(45,110),(169,1)]),[],[],[]⟩) (o:=[.c (.own 14) [(14,(.row 9 ((cF xl).length) (((cF xl).map stE).flatten)))],bT,bT,bT,bT,bT]) (l:=[_,_,_,_,_,_,_]) (by kernel_rfl) (Cr (dG h3) (gc (fk 14 (oW xl [9,13,32] C9 Ep) rfl) (gc h0 gn))),by kernel_rfl,(⟨fr 176 [(2,(.ptr 0 0)),(4,(.ptr 1 0)),(5,(.ptr 2 0)),(6,(.ptr 3 0)),(7,(.ptr 4 0)),(8,(.ptr 6 0)),(9,(.ptr 7 0)),(10,(.ptr 8 0)),(11,(pI (aK k))),(12,(.ptr 10 0)),(13,(.ptr 11 0)),(35,(.ptr 5 0)),(44,(.fn 175 [] [(.ptr 12 0)]))],[some (.box 23 [(pI k)]),some (.box 26 [(pI 0),(.p bK)]),some (.box 3 [(pI 0)]),some (.box 3 [(pI 0)]),some (.box 27 [(pI 0)]),some (.box 158 [(pI k),(.own 13),(pI 0),(pI 0),(pI 0)]),some (.box 156 [(.ptr 5 0)]),some (.box 260 [(.fn 164 [(.p (aD ([9,13,32]:List UInt8)))] [])]),some (.box 65 [(.p (bJ (aJ k)))]),some (.mp ((bN k) m) m.length),some (.box 247 [(.mp 9)]),some (.box 3 [(pI (((nl+1):Nat):Int))]),some .dead,some (.row 78 R.length ((R.map rwE).flatten))]⟩:St).t,by kernel_rfl⟩
 exact raw
theorem aTz{R m:List (List Cel)}{xl Aa:List UInt8}(h0:inR (((nl+1):Nat):Int))(C9:xl.length≤90000)(Ep:∀ b∈xl,b.toNat<128)(h3:((cF xl).length:Int)≠0)(h4:0≤(0:Int)∧(0:Int)<((cF xl).length:Int))(h5:(cF xl)[0]? = some (Aa))(h6:Aa=([107,108,105,115,116,101,114]:List UInt8))(C3:Fc=(nl+1)):bS Tp 14 13 jX (oD (cV k nl R.length ((R.map rwE).flatten) ((bN k) m) m.length) 45 46 14 xl xb) .normal (cV k Fc R.length ((R.map rwE).flatten) ((bN k) m) m.length).m:=by
 subst C3
 have raw:bS Tp 14 13 jX (oD (cV k nl R.length ((R.map rwE).flatten) ((bN k) m) m.length) 45 46 14 xl xb) .normal (cV k (nl+1) R.length ((R.map rwE).flatten) ((bN k) m) m.length).m:=⟨⟨fr 176 [(2,(.ptr 0 0)),(4,(.ptr 1 0)),(5,(.ptr 2 0)),(6,(.ptr 3 0)),(7,(.ptr 4 0)),(8,(.ptr 6 0)),(9,(.ptr 7 0)),(10,(.ptr 8 0)),(11,(pI (aK k))),(12,(.ptr 10 0)),(13,(.ptr 11 0)),(35,(.ptr 5 0)),(44,(.fn 175 [] [(.ptr 12 0)]))],[some (.box 23 [(pI k)]),some (.box 26 [(pI 0),(.p bK)]),some (.box 3 [(pI 0)]),some (.box 3 [(pI 0)]),some (.box 27 [(pI 0)]),some (.box 158 [(pI k),(.own 13),(pI 0),(pI 0),(pI 0)]),some (.box 156 [(.ptr 5 0)]),some (.box 260 [(.fn 164 [(.p (aD ([9,13,32]:List UInt8)))] [])]),some (.box 65 [(.p (bJ (aJ k)))]),some (.mp ((bN k) m) m.length),some (.box 247 [(.mp 9)]),some (.box 3 [(pI (((nl+1):Nat):Int))]),some .dead,some (.row 78 R.length ((R.map rwE).flatten))]⟩,⟨[],[13],[],[]⟩,aA.fin (g:=⟨(rng [(0,2),(3,1),(14,21),(36,8),(45,110),(169,1)]),[],[],[]⟩) (o:=[.c (.own 14) [(14,(.row 9 ((cF xl).length) (((cF xl).map stE).flatten)))],bF,bF,bF,.x (aD Aa),bF,bF,bT,bT,bT,bT,bT]) (l:=[(decide (Aa=([107,108,105,115,116,101,114]:List UInt8)))=true,(decide (Aa=([107,108,105,115,116,101,114]:List UInt8)))=true,(decide (Aa=([107,108,105,115,116,101,114]:List UInt8)))=true,(decide (Aa=([107,108,105,115,116,101,114]:List UInt8)))=true,(decide (Aa=([107,108,105,115,116,101,114]:List UInt8)))=true,_,_,(((cF xl).map stE).flatten)[0]? = some (aD Aa),_,_,_,_,_,_]) (by kernel_rfl) (Cr (decide_eq_true h6) (A1 (bI h3) (gc (aN (E:=stE) (i:=0) (f:=0) (k:=1) (fun _=>rfl) h5 rfl) (gc (bI h3) (gc h4 (A1 (bI h3) (gc (fk 14 (oW xl [9,13,32] C9 Ep) rfl) (gc h0 gn)))))))),by kernel_rfl,(⟨fr 176 [(2,(.ptr 0 0)),(4,(.ptr 1 0)),(5,(.ptr 2 0)),(6,(.ptr 3 0)),(7,(.ptr 4 0)),(8,(.ptr 6 0)),(9,(.ptr 7 0)),(10,(.ptr 8 0)),(11,(pI (aK k))),(12,(.ptr 10 0)),(13,(.ptr 11 0)),(35,(.ptr 5 0)),(44,(.fn 175 [] [(.ptr 12 0)]))],[some (.box 23 [(pI k)]),some (.box 26 [(pI 0),(.p bK)]),some (.box 3 [(pI 0)]),some (.box 3 [(pI 0)]),some (.box 27 [(pI 0)]),some (.box 158 [(pI k),(.own 13),(pI 0),(pI 0),(pI 0)]),some (.box 156 [(.ptr 5 0)]),some (.box 260 [(.fn 164 [(.p (aD ([9,13,32]:List UInt8)))] [])]),some (.box 65 [(.p (bJ (aJ k)))]),some (.mp ((bN k) m) m.length),some (.box 247 [(.mp 9)]),some (.box 3 [(pI (((nl+1):Nat):Int))]),some .dead,some (.row 78 R.length ((R.map rwE).flatten))]⟩:St).t,by kernel_rfl⟩
 exact raw
theorem aUa{R m:List (List Cel)}{xl Aa:List UInt8}(h0:inR (((nl+1):Nat):Int))(C9:xl.length≤90000)(Ep:∀ b∈xl,b.toNat<128)(h3:((cF xl).length:Int)≠0)(h4:0≤(0:Int)∧(0:Int)<((cF xl).length:Int))(h5:(cF xl)[0]? = some (Aa))(h6:Aa≠([107,108,105,115,116,101,114]:List UInt8))(h7:Aa=([115,117,109]:List UInt8))(C3:Fc=(nl+1)):bS Tp 14 13 jX (oD (cV k nl R.length ((R.map rwE).flatten) ((bN k) m) m.length) 45 46 14 xl xb) .normal (cV k Fc R.length ((R.map rwE).flatten) ((bN k) m) m.length).m:=by
 subst C3
 have raw:bS Tp 14 13 jX (oD (cV k nl R.length ((R.map rwE).flatten) ((bN k) m) m.length) 45 46 14 xl xb) .normal (cV k (nl+1) R.length ((R.map rwE).flatten) ((bN k) m) m.length).m:=⟨⟨fr 176 [(2,(.ptr 0 0)),(4,(.ptr 1 0)),(5,(.ptr 2 0)),(6,(.ptr 3 0)),(7,(.ptr 4 0)),(8,(.ptr 6 0)),(9,(.ptr 7 0)),(10,(.ptr 8 0)),(11,(pI (aK k))),(12,(.ptr 10 0)),(13,(.ptr 11 0)),(35,(.ptr 5 0)),(44,(.fn 175 [] [(.ptr 12 0)]))],[some (.box 23 [(pI k)]),some (.box 26 [(pI 0),(.p bK)]),some (.box 3 [(pI 0)]),some (.box 3 [(pI 0)]),some (.box 27 [(pI 0)]),some (.box 158 [(pI k),(.own 13),(pI 0),(pI 0),(pI 0)]),some (.box 156 [(.ptr 5 0)]),some (.box 260 [(.fn 164 [(.p (aD ([9,13,32]:List UInt8)))] [])]),some (.box 65 [(.p (bJ (aJ k)))]),some (.mp ((bN k) m) m.length),some (.box 247 [(.mp 9)]),some (.box 3 [(pI (((nl+1):Nat):Int))]),some .dead,some (.row 78 R.length ((R.map rwE).flatten))]⟩,⟨[],[13],[],[]⟩,aA.fin (g:=⟨(rng [(0,2),(3,1),(14,21),(36,8),(45,110),(169,1)]),[],[],[]⟩) (o:=[.c (.own 14) [(14,(.row 9 ((cF xl).length) (((cF xl).map stE).flatten)))],bF,bF,bF,.x (aD Aa),bF,bF,bF,bF,bF,.x (aD Aa),bF,bF,bT]) (l:=[(decide (Aa=([115,117,109]:List UInt8)))=true,(decide (Aa=([107,108,105,115,116,101,114]:List UInt8)))=false,(decide (Aa=([107,108,105,115,116,101,114]:List UInt8)))=false,(((cF xl).map stE).flatten)[0]? = some (aD Aa),(decide (Aa=([107,108,105,115,116,101,114]:List UInt8)))=false,_,(decide (Aa=([107,108,105,115,116,101,114]:List UInt8)))=false,(decide (Aa=([107,108,105,115,116,101,114]:List UInt8)))=false,_,_,(((cF xl).map stE).flatten)[0]? = some (aD Aa),_,_,_,_,_,_]) (by kernel_rfl) (gc (decide_eq_true h7) (A1 (decide_eq_false h6) (gc (aN (E:=stE) (i:=0) (f:=0) (k:=1) (fun _=>rfl) h5 rfl) (gc (decide_eq_false h6) (gc h4 (A1 (decide_eq_false h6) (A1 (bI h3) (gc (aN (E:=stE) (i:=0) (f:=0) (k:=1) (fun _=>rfl) h5 rfl) (gc (bI h3) (gc h4 (A1 (bI h3) (gc (fk 14 (oW xl [9,13,32] C9 Ep) rfl) (gc h0 gn))))))))))))),by kernel_rfl,(⟨fr 176 [(2,(.ptr 0 0)),(4,(.ptr 1 0)),(5,(.ptr 2 0)),(6,(.ptr 3 0)),(7,(.ptr 4 0)),(8,(.ptr 6 0)),(9,(.ptr 7 0)),(10,(.ptr 8 0)),(11,(pI (aK k))),(12,(.ptr 10 0)),(13,(.ptr 11 0)),(35,(.ptr 5 0)),(44,(.fn 175 [] [(.ptr 12 0)]))],[some (.box 23 [(pI k)]),some (.box 26 [(pI 0),(.p bK)]),some (.box 3 [(pI 0)]),some (.box 3 [(pI 0)]),some (.box 27 [(pI 0)]),some (.box 158 [(pI k),(.own 13),(pI 0),(pI 0),(pI 0)]),some (.box 156 [(.ptr 5 0)]),some (.box 260 [(.fn 164 [(.p (aD ([9,13,32]:List UInt8)))] [])]),some (.box 65 [(.p (bJ (aJ k)))]),some (.mp ((bN k) m) m.length),some (.box 247 [(.mp 9)]),some (.box 3 [(pI (((nl+1):Nat):Int))]),some .dead,some (.row 78 R.length ((R.map rwE).flatten))]⟩:St).t,by kernel_rfl⟩
 exact raw
theorem aUb{R m:List (List Cel)}{xl Aa:List UInt8}{Af:List (List UInt8)}{Ad Co:List Cel}(h0:inR (((nl+1):Nat):Int))(C9:xl.length≤90000)(Ep:∀ b∈xl,b.toNat<128)(h3:((cF xl).length:Int)≠0)(h4:0≤(0:Int)∧(0:Int)<((cF xl).length:Int))(h5:(cF xl)[0]? = some (Aa))(h6:Aa≠([107,108,105,115,116,101,114]:List UInt8))(h7:Aa≠([115,117,109]:List UInt8))(Hm:aF Tp 14 tG (dQ k nl R m xl Aa 0 ((cF xl).length) (((cF xl).map stE).flatten)) (.exit 3) (dQ k nl R m xl Aa Cu Af.length ((Af.map stE).flatten)))(Fo:∀ u∈Af,u.length≤90000)(Er:rdL (aJ k) Af 0 = .inl Ad)(Fp:Af.length=(aJ k).length)(Bc:aK k≤(Ad.length:Int))(B3:eG Tp 186 ((bN k) m) (k3V (aL k Ad 0) (aL k Ad 1) (aL k Ad 2)))(Dh:(gL ((bN k) m) (k3V (aL k Ad 0) (aL k Ad 1) (aL k Ad 2)))=true)(Dz:gG ((bN k) m) (k3V (aL k Ad 0) (aL k Ad 1) (aL k Ad 2))=some (.sl Co.length ((Co.map cE).flatten)))(E7:Co.length≤100000)(Fb:(decide (Co=Ad))=false)(C3:Fc=(nl+1)):bS Tp 14 13 jX (oD (cV k nl R.length ((R.map rwE).flatten) ((bN k) m) m.length) 45 46 14 xl xb) .ret (bR (bR (bR (bR (cV k Fc R.length ((R.map rwE).flatten) ((bN k) m) m.length) 5 (some (.box 158 [(pI k),(.own 13),(pI (((nl+1):Nat):Int)),(pI 1),(pI 5)]))) 2 (some (.box 3 [(pI (((nl+1):Nat):Int))]))) 3 (some (.box 3 [(pI 1)]))) 4 (some (.box 27 [(pI 5)]))).m:=by
 subst C3
 have raw:bS Tp 14 13 jX (oD (cV k nl R.length ((R.map rwE).flatten) ((bN k) m) m.length) 45 46 14 xl xb) .ret (bR (bR (bR (bR (cV k (nl+1) R.length ((R.map rwE).flatten) ((bN k) m) m.length) 5 (some (.box 158 [(pI k),(.own 13),(pI (((nl+1):Nat):Int)),(pI 1),(pI 5)]))) 2 (some (.box 3 [(pI (((nl+1):Nat):Int))]))) 3 (some (.box 3 [(pI 1)]))) 4 (some (.box 27 [(pI 5)]))).m:=⟨⟨fr 176 [(2,(.ptr 0 0)),(4,(.ptr 1 0)),(5,(.ptr 2 0)),(6,(.ptr 3 0)),(7,(.ptr 4 0)),(8,(.ptr 6 0)),(9,(.ptr 7 0)),(10,(.ptr 8 0)),(11,(pI (aK k))),(12,(.ptr 10 0)),(13,(.ptr 11 0)),(35,(.ptr 5 0))],[some (.box 23 [(pI k)]),some (.box 26 [(pI 0),(.p bK)]),some (.box 3 [(pI (((nl+1):Nat):Int))]),some (.box 3 [(pI 1)]),some (.box 27 [(pI 5)]),some (.box 158 [(pI k),(.own 13),(pI (((nl+1):Nat):Int)),(pI 1),(pI 5)]),some (.box 156 [(.ptr 5 0)]),some (.box 260 [(.fn 164 [(.p (aD ([9,13,32]:List UInt8)))] [])]),some (.box 65 [(.p (bJ (aJ k)))]),some (.mp ((bN k) m) m.length),some (.box 247 [(.mp 9)]),some (.box 3 [(pI (((nl+1):Nat):Int))]),some .dead,some (.row 78 R.length ((R.map rwE).flatten))]⟩,⟨[],[13],[],[]⟩,aA.fin (g:=⟨(rng [(0,2),(3,1),(14,21),(36,8),(45,110),(169,1)]),[],[],[]⟩) (o:=[.c (.own 14) [(14,(.row 9 ((cF xl).length) (((cF xl).map stE).flatten)))],bF,bF,bF,.x (aD Aa),bF,bF,bF,bF,bF,.x (aD Aa),bF,bF,bF,.k 4 ⟨(rng [(0,2),(3,1),(16,1),(22,13),(36,8),(46,1),(70,22),(169,1)]),[14],[],[]⟩ (.exit 3) (dQ k nl R m xl Aa Cu Af.length ((Af.map stE).flatten)),.c (.fn 176 [] [(.ptr 15 0),(.ptr 16 0)]) [(5,(.box 158 [(pI k),(.own 13),(pI 0),(pI 0),(pI 0)])),(13,(.row 78 R.length ((R.map rwE).flatten))),(15,(.box 156 [(.ptr 5 0)])),(16,(.box 3 [(pI (((nl+1):Nat):Int))]))],.g 1 ⟨[44],[15,16],[14],[]⟩,.c (.tup [(.own 16),(pB true)]) [(5,(.box 158 [(pI k),(.own 13),(pI 0),(pI 0),(pI 0)])),(13,(.row 78 R.length ((R.map rwE).flatten))),(14,(.box 156 [(.ptr 5 0)])),(15,(.box 3 [(pI (((nl+1):Nat):Int))])),(16,(.row 80 Ad.length ((Ad.map cE).flatten)))],bF,.g 1 ⟨[],[14,15],[16],[]⟩,.c (.p (.agg [(aB (aL k Ad 0)),(aB (aL k Ad 1)),(aB (aL k Ad 2))])) [],bT,.x (.sl Co.length ((Co.map cE).flatten)),.c (pB (decide (Co=Ad))) [],bT,bT,.c (pB false) [(14,(.box 156 [(.ptr 5 0)])),(15,(.box 3 [(pI (((nl+1):Nat):Int))])),(5,(.box 158 [(pI k),(.own 13),(pI (((nl+1):Nat):Int)),(pI 1),(pI 5)])),(13,(.row 78 R.length ((R.map rwE).flatten)))],bT,bT,bT,.c (.tup [(.p (.agg [(aB 0),bK])),(pI (((nl+1):Nat):Int)),(pI 1),(pI 5)]) [(5,(.box 158 [(pI k),(.own 13),(pI (((nl+1):Nat):Int)),(pI 1),(pI 5)])),(13,(.row 78 R.length ((R.map rwE).flatten)))]]) (l:=[FC Tp 94 [(.ptr 5 0)] [(5,(.box 158 [(pI k),(.own 13),(pI (((nl+1):Nat):Int)),(pI 1),(pI 5)])),(13,(.row 78 R.length ((R.map rwE).flatten)))] 16 (.tup [(.p (.agg [(aB 0),bK])),(pI (((nl+1):Nat):Int)),(pI 1),(pI 5)]) [(5,(.box 158 [(pI k),(.own 13),(pI (((nl+1):Nat):Int)),(pI 1),(pI 5)])),(13,(.row 78 R.length ((R.map rwE).flatten)))],true=true,_,_,FC Tp 176 [(pI 1),(pI 5),(.ptr 14 0),(.ptr 15 0)] [(14,(.box 156 [(.ptr 5 0)])),(15,(.box 3 [(pI (((nl+1):Nat):Int))])),(5,(.box 158 [(pI k),(.own 13),(pI 0),(pI 0),(pI 0)])),(13,(.row 78 R.length ((R.map rwE).flatten)))] 16 (pB false) [(14,(.box 156 [(.ptr 5 0)])),(15,(.box 3 [(pI (((nl+1):Nat):Int))])),(5,(.box 158 [(pI k),(.own 13),(pI (((nl+1):Nat):Int)),(pI 1),(pI 5)])),(13,(.row 78 R.length ((R.map rwE).flatten)))],_,_,_,_,_,_,_,false=false,FC Tp 91 [(.ptr 5 0),(.p (.sl Af.length ((Af.map stE).flatten))),(.fn 176 [] [(.ptr 14 0),(.ptr 15 0)])] [(5,(.box 158 [(pI k),(.own 13),(pI 0),(pI 0),(pI 0)])),(14,(.box 156 [(.ptr 5 0)])),(15,(.box 3 [(pI (((nl+1):Nat):Int))])),(13,(.row 78 R.length ((R.map rwE).flatten)))] 16 (.tup [(.own 16),(pB true)]) [(5,(.box 158 [(pI k),(.own 13),(pI 0),(pI 0),(pI 0)])),(13,(.row 78 R.length ((R.map rwE).flatten))),(14,(.box 156 [(.ptr 5 0)])),(15,(.box 3 [(pI (((nl+1):Nat):Int))])),(16,(.row 80 Ad.length ((Ad.map cE).flatten)))],FC Tp 89 [(.ptr 5 0),(pI (((nl+1):Nat):Int))] [(5,(.box 158 [(pI k),(.own 13),(pI 0),(pI 0),(pI 0)])),(13,(.row 78 R.length ((R.map rwE).flatten)))] 15 (.fn 176 [] [(.ptr 15 0),(.ptr 16 0)]) [(5,(.box 158 [(pI k),(.own 13),(pI 0),(pI 0),(pI 0)])),(13,(.row 78 R.length ((R.map rwE).flatten))),(15,(.box 156 [(.ptr 5 0)])),(16,(.box 3 [(pI (((nl+1):Nat):Int))]))],_,(decide (Aa=([115,117,109]:List UInt8)))=false,(decide (Aa=([107,108,105,115,116,101,114]:List UInt8)))=false,(decide (Aa=([107,108,105,115,116,101,114]:List UInt8)))=false,(((cF xl).map stE).flatten)[0]? = some (aD Aa),(decide (Aa=([107,108,105,115,116,101,114]:List UInt8)))=false,_,(decide (Aa=([107,108,105,115,116,101,114]:List UInt8)))=false,(decide (Aa=([107,108,105,115,116,101,114]:List UInt8)))=false,_,_,(((cF xl).map stE).flatten)[0]? = some (aD Aa),_,_,_,_,_,_]) (by kernel_rfl) (gc (FMM.fc (ids:=[5,13]) (jW (k:=k) (l:=(((nl+1):Nat):Int)) (f:=(1:Int)) (e:=(5:Int)) (n:=R.length) (cs:=((R.map rwE).flatten)) (by decide)) (by kernel_rfl)) (gc rfl (A1 (cY Fb) (gc (FMM.fc (ids:=[14,15,5,13]) (cN 1 5 (((nl+1):Nat):Int) k 0 0 0 R) (by kernel_rfl)) (A1 (cY Fb) (gc (fk 16 (bFj Co Ad E7) rfl) (gc Dz (gc Dh (gc B3 (gc (fk 16 (eC k Ad Bc) rfl) (gc rfl (gc (FMM.fcN (k:=1) rfl (ids:=[5,13,14,15]) (kS (((nl+1):Nat):Int) R 0 0 Fo Er Fp) (by kernel_rfl)) (gc (FMM.fcN (k:=2) rfl (ids:=[5,13]) (eV (ln:=(((nl+1):Nat):Int)) (k:=k) (l:=(0:Int)) (f:=(0:Int)) (e:=(0:Int)) (R:=R)) (by kernel_rfl)) (gc Hm.code (gc (decide_eq_false h7) (A1 (decide_eq_false h6) (gc (aN (E:=stE) (i:=0) (f:=0) (k:=1) (fun _=>rfl) h5 rfl) (gc (decide_eq_false h6) (gc h4 (A1 (decide_eq_false h6) (A1 (bI h3) (gc (aN (E:=stE) (i:=0) (f:=0) (k:=1) (fun _=>rfl) h5 rfl) (gc (bI h3) (gc h4 (A1 (bI h3) (gc (fk 14 (oW xl [9,13,32] C9 Ep) rfl) (gc h0 gn))))))))))))))))))))))))))),by kernel_rfl,(⟨fr 176 [(2,(.ptr 0 0)),(4,(.ptr 1 0)),(5,(.ptr 2 0)),(6,(.ptr 3 0)),(7,(.ptr 4 0)),(8,(.ptr 6 0)),(9,(.ptr 7 0)),(10,(.ptr 8 0)),(11,(pI (aK k))),(12,(.ptr 10 0)),(13,(.ptr 11 0)),(35,(.ptr 5 0))],[some (.box 23 [(pI k)]),some (.box 26 [(pI 0),(.p bK)]),some (.box 3 [(pI (((nl+1):Nat):Int))]),some (.box 3 [(pI 1)]),some (.box 27 [(pI 5)]),some (.box 158 [(pI k),(.own 13),(pI (((nl+1):Nat):Int)),(pI 1),(pI 5)]),some (.box 156 [(.ptr 5 0)]),some (.box 260 [(.fn 164 [(.p (aD ([9,13,32]:List UInt8)))] [])]),some (.box 65 [(.p (bJ (aJ k)))]),some (.mp ((bN k) m) m.length),some (.box 247 [(.mp 9)]),some (.box 3 [(pI (((nl+1):Nat):Int))]),some .dead,some (.row 78 R.length ((R.map rwE).flatten))]⟩:St).t,by kernel_rfl⟩
 exact raw
theorem aUc{R m:List (List Cel)}{xl Aa:List UInt8}{Af:List (List UInt8)}{Ad Co:List Cel}(h0:inR (((nl+1):Nat):Int))(C9:xl.length≤90000)(Ep:∀ b∈xl,b.toNat<128)(h3:((cF xl).length:Int)≠0)(h4:0≤(0:Int)∧(0:Int)<((cF xl).length:Int))(h5:(cF xl)[0]? = some (Aa))(h6:Aa≠([107,108,105,115,116,101,114]:List UInt8))(h7:Aa≠([115,117,109]:List UInt8))(Hm:aF Tp 14 tG (dQ k nl R m xl Aa 0 ((cF xl).length) (((cF xl).map stE).flatten)) (.exit 3) (dQ k nl R m xl Aa Cu Af.length ((Af.map stE).flatten)))(Fo:∀ u∈Af,u.length≤90000)(Er:rdL (aJ k) Af 0 = .inl Ad)(Fp:Af.length=(aJ k).length)(Bc:aK k≤(Ad.length:Int))(B3:eG Tp 186 ((bN k) m) (k3V (aL k Ad 0) (aL k Ad 1) (aL k Ad 2)))(Dh:(gL ((bN k) m) (k3V (aL k Ad 0) (aL k Ad 1) (aL k Ad 2)))=true)(Dz:gG ((bN k) m) (k3V (aL k Ad 0) (aL k Ad 1) (aL k Ad 2))=some (.sl Co.length ((Co.map cE).flatten)))(E7:Co.length≤100000)(Fb:(decide (Co=Ad))=true)(C3:Fc=(nl+1)):bS Tp 14 13 jX (oD (cV k nl R.length ((R.map rwE).flatten) ((bN k) m) m.length) 45 46 14 xl xb) .normal (cV k Fc R.length ((R.map rwE).flatten) ((bN k) m) m.length).m:=by
 subst C3
 have raw:bS Tp 14 13 jX (oD (cV k nl R.length ((R.map rwE).flatten) ((bN k) m) m.length) 45 46 14 xl xb) .normal (cV k (nl+1) R.length ((R.map rwE).flatten) ((bN k) m) m.length).m:=⟨⟨fr 176 [(2,(.ptr 0 0)),(4,(.ptr 1 0)),(5,(.ptr 2 0)),(6,(.ptr 3 0)),(7,(.ptr 4 0)),(8,(.ptr 6 0)),(9,(.ptr 7 0)),(10,(.ptr 8 0)),(11,(pI (aK k))),(12,(.ptr 10 0)),(13,(.ptr 11 0)),(35,(.ptr 5 0))],[some (.box 23 [(pI k)]),some (.box 26 [(pI 0),(.p bK)]),some (.box 3 [(pI 0)]),some (.box 3 [(pI 0)]),some (.box 27 [(pI 0)]),some (.box 158 [(pI k),(.own 13),(pI 0),(pI 0),(pI 0)]),some (.box 156 [(.ptr 5 0)]),some (.box 260 [(.fn 164 [(.p (aD ([9,13,32]:List UInt8)))] [])]),some (.box 65 [(.p (bJ (aJ k)))]),some (.mp ((bN k) m) m.length),some (.box 247 [(.mp 9)]),some (.box 3 [(pI (((nl+1):Nat):Int))]),some .dead,some (.row 78 R.length ((R.map rwE).flatten))]⟩,⟨[],[13],[],[]⟩,aA.fin (g:=⟨(rng [(0,2),(3,1),(14,21),(36,8),(45,110),(169,1)]),[],[],[]⟩) (o:=[.c (.own 14) [(14,(.row 9 ((cF xl).length) (((cF xl).map stE).flatten)))],bF,bF,bF,.x (aD Aa),bF,bF,bF,bF,bF,.x (aD Aa),bF,bF,bF,.k 4 ⟨(rng [(0,2),(3,1),(16,1),(22,13),(36,8),(46,1),(70,22),(169,1)]),[14],[],[]⟩ (.exit 3) (dQ k nl R m xl Aa Cu Af.length ((Af.map stE).flatten)),.c (.fn 176 [] [(.ptr 15 0),(.ptr 16 0)]) [(5,(.box 158 [(pI k),(.own 13),(pI 0),(pI 0),(pI 0)])),(13,(.row 78 R.length ((R.map rwE).flatten))),(15,(.box 156 [(.ptr 5 0)])),(16,(.box 3 [(pI (((nl+1):Nat):Int))]))],.g 1 ⟨[44],[15,16],[14],[]⟩,.c (.tup [(.own 16),(pB true)]) [(5,(.box 158 [(pI k),(.own 13),(pI 0),(pI 0),(pI 0)])),(13,(.row 78 R.length ((R.map rwE).flatten))),(14,(.box 156 [(.ptr 5 0)])),(15,(.box 3 [(pI (((nl+1):Nat):Int))])),(16,(.row 80 Ad.length ((Ad.map cE).flatten)))],bF,.g 1 ⟨[],[14,15],[16],[]⟩,.c (.p (.agg [(aB (aL k Ad 0)),(aB (aL k Ad 1)),(aB (aL k Ad 2))])) [],bT,.x (.sl Co.length ((Co.map cE).flatten)),.c (pB (decide (Co=Ad))) [],bF,bF,bF,bF]) (l:=[_,_,_,_,_,_,_,_,_,false=false,FC Tp 91 [(.ptr 5 0),(.p (.sl Af.length ((Af.map stE).flatten))),(.fn 176 [] [(.ptr 14 0),(.ptr 15 0)])] [(5,(.box 158 [(pI k),(.own 13),(pI 0),(pI 0),(pI 0)])),(14,(.box 156 [(.ptr 5 0)])),(15,(.box 3 [(pI (((nl+1):Nat):Int))])),(13,(.row 78 R.length ((R.map rwE).flatten)))] 16 (.tup [(.own 16),(pB true)]) [(5,(.box 158 [(pI k),(.own 13),(pI 0),(pI 0),(pI 0)])),(13,(.row 78 R.length ((R.map rwE).flatten))),(14,(.box 156 [(.ptr 5 0)])),(15,(.box 3 [(pI (((nl+1):Nat):Int))])),(16,(.row 80 Ad.length ((Ad.map cE).flatten)))],FC Tp 89 [(.ptr 5 0),(pI (((nl+1):Nat):Int))] [(5,(.box 158 [(pI k),(.own 13),(pI 0),(pI 0),(pI 0)])),(13,(.row 78 R.length ((R.map rwE).flatten)))] 15 (.fn 176 [] [(.ptr 15 0),(.ptr 16 0)]) [(5,(.box 158 [(pI k),(.own 13),(pI 0),(pI 0),(pI 0)])),(13,(.row 78 R.length ((R.map rwE).flatten))),(15,(.box 156 [(.ptr 5 0)])),(16,(.box 3 [(pI (((nl+1):Nat):Int))]))],_,(decide (Aa=([115,117,109]:List UInt8)))=false,(decide (Aa=([107,108,105,115,116,101,114]:List UInt8)))=false,(decide (Aa=([107,108,105,115,116,101,114]:List UInt8)))=false,(((cF xl).map stE).flatten)[0]? = some (aD Aa),(decide (Aa=([107,108,105,115,116,101,114]:List UInt8)))=false,_,(decide (Aa=([107,108,105,115,116,101,114]:List UInt8)))=false,(decide (Aa=([107,108,105,115,116,101,114]:List UInt8)))=false,_,_,(((cF xl).map stE).flatten)[0]? = some (aD Aa),_,_,_,_,_,_]) (by kernel_rfl) (Cm (aV Fb) (gc (fk 16 (bFj Co Ad E7) rfl) (gc Dz (gc Dh (gc B3 (gc (fk 16 (eC k Ad Bc) rfl) (gc rfl (gc (FMM.fcN (k:=1) rfl (ids:=[5,13,14,15]) (kS (((nl+1):Nat):Int) R 0 0 Fo Er Fp) (by kernel_rfl)) (gc (FMM.fcN (k:=2) rfl (ids:=[5,13]) (eV (ln:=(((nl+1):Nat):Int)) (k:=k) (l:=(0:Int)) (f:=(0:Int)) (e:=(0:Int)) (R:=R)) (by kernel_rfl)) (gc Hm.code (gc (decide_eq_false h7) (A1 (decide_eq_false h6) (gc (aN (E:=stE) (i:=0) (f:=0) (k:=1) (fun _=>rfl) h5 rfl) (gc (decide_eq_false h6) (gc h4 (A1 (decide_eq_false h6) (A1 (bI h3) (gc (aN (E:=stE) (i:=0) (f:=0) (k:=1) (fun _=>rfl) h5 rfl) (gc (bI h3) (gc h4 (A1 (bI h3) (gc (fk 14 (oW xl [9,13,32] C9 Ep) rfl) (gc h0 gn))))))))))))))))))))))),by kernel_rfl,(⟨fr 176 [(2,(.ptr 0 0)),(4,(.ptr 1 0)),(5,(.ptr 2 0)),(6,(.ptr 3 0)),(7,(.ptr 4 0)),(8,(.ptr 6 0)),(9,(.ptr 7 0)),(10,(.ptr 8 0)),(11,(pI (aK k))),(12,(.ptr 10 0)),(13,(.ptr 11 0)),(35,(.ptr 5 0))],[some (.box 23 [(pI k)]),some (.box 26 [(pI 0),(.p bK)]),some (.box 3 [(pI 0)]),some (.box 3 [(pI 0)]),some (.box 27 [(pI 0)]),some (.box 158 [(pI k),(.own 13),(pI 0),(pI 0),(pI 0)]),some (.box 156 [(.ptr 5 0)]),some (.box 260 [(.fn 164 [(.p (aD ([9,13,32]:List UInt8)))] [])]),some (.box 65 [(.p (bJ (aJ k)))]),some (.mp ((bN k) m) m.length),some (.box 247 [(.mp 9)]),some (.box 3 [(pI (((nl+1):Nat):Int))]),some .dead,some (.row 78 R.length ((R.map rwE).flatten))]⟩:St).t,by kernel_rfl⟩
 exact raw
theorem aUd{R m:List (List Cel)}{xl Aa:List UInt8}{Af:List (List UInt8)}{Ad:List Cel}{R' m':List (List Cel)}(h0:inR (((nl+1):Nat):Int))(C9:xl.length≤90000)(Ep:∀ b∈xl,b.toNat<128)(h3:((cF xl).length:Int)≠0)(h4:0≤(0:Int)∧(0:Int)<((cF xl).length:Int))(h5:(cF xl)[0]? = some (Aa))(h6:Aa≠([107,108,105,115,116,101,114]:List UInt8))(h7:Aa≠([115,117,109]:List UInt8))(Hm:aF Tp 14 tG (dQ k nl R m xl Aa 0 ((cF xl).length) (((cF xl).map stE).flatten)) (.exit 3) (dQ k nl R m xl Aa Cu Af.length ((Af.map stE).flatten)))(Fo:∀ u∈Af,u.length≤90000)(Er:rdL (aJ k) Af 0 = .inl Ad)(Fp:Af.length=(aJ k).length)(Bc:aK k≤(Ad.length:Int))(B3:eG Tp 186 ((bN k) m) (k3V (aL k Ad 0) (aL k Ad 1) (aL k Ad 2)))(Dh:(gL ((bN k) m) (k3V (aL k Ad 0) (aL k Ad 1) (aL k Ad 2)))=false)(Dz:[(PV.sl Ad.length ((Ad.map cE).flatten))].length=1*1∧R.length+1≤1000000)(C3:Fc=(nl+1))(Es:R'.length=(R.length+1))(Et:(R'.map rwE).flatten=(((R.map rwE).flatten)++[(PV.sl Ad.length ((Ad.map cE).flatten))]))(Eu:(bN k) m'=(((bN k) m)++[((k3V (aL k Ad 0) (aL k Ad 1) (aL k Ad 2)),(.sl Ad.length ((Ad.map cE).flatten)))]))(Ev:m'.length=(m.length+1)):bS Tp 14 13 jX (oD (cV k nl R.length ((R.map rwE).flatten) ((bN k) m) m.length) 45 46 14 xl xb) .normal (cV k Fc R'.length ((R'.map rwE).flatten) ((bN k) m') m'.length).m:=by
 subst C3
 have raw:bS Tp 14 13 jX (oD (cV k nl R.length ((R.map rwE).flatten) ((bN k) m) m.length) 45 46 14 xl xb) .normal (cV k (nl+1) (R.length+1) (((R.map rwE).flatten)++[(PV.sl Ad.length ((Ad.map cE).flatten))]) (((bN k) m)++[((k3V (aL k Ad 0) (aL k Ad 1) (aL k Ad 2)),(.sl Ad.length ((Ad.map cE).flatten)))]) (m.length+1)).m:=⟨⟨fr 176 [(2,(.ptr 0 0)),(4,(.ptr 1 0)),(5,(.ptr 2 0)),(6,(.ptr 3 0)),(7,(.ptr 4 0)),(8,(.ptr 6 0)),(9,(.ptr 7 0)),(10,(.ptr 8 0)),(11,(pI (aK k))),(12,(.ptr 10 0)),(13,(.ptr 11 0)),(35,(.ptr 5 0))],[some (.box 23 [(pI k)]),some (.box 26 [(pI 0),(.p bK)]),some (.box 3 [(pI 0)]),some (.box 3 [(pI 0)]),some (.box 27 [(pI 0)]),some (.box 158 [(pI k),(.own 14),(pI 0),(pI 0),(pI 0)]),some (.box 156 [(.ptr 5 0)]),some (.box 260 [(.fn 164 [(.p (aD ([9,13,32]:List UInt8)))] [])]),some (.box 65 [(.p (bJ (aJ k)))]),some (.mp (((bN k) m)++[((k3V (aL k Ad 0) (aL k Ad 1) (aL k Ad 2)),(.sl Ad.length ((Ad.map cE).flatten)))]) (m.length+1)),some (.box 247 [(.mp 9)]),some (.box 3 [(pI (((nl+1):Nat):Int))]),some .dead,some .dead,some (.row 78 (R.length+1) (((R.map rwE).flatten)++[(PV.sl Ad.length ((Ad.map cE).flatten))]))]⟩,⟨[],[14],[],[]⟩,aA.fin (g:=⟨(rng [(0,2),(3,1),(14,21),(36,8),(45,110),(169,1)]),[17],[],[]⟩) (o:=[.c (.own 14) [(14,(.row 9 ((cF xl).length) (((cF xl).map stE).flatten)))],bF,bF,bF,.x (aD Aa),bF,bF,bF,bF,bF,.x (aD Aa),bF,bF,bF,.k 4 ⟨(rng [(0,2),(3,1),(16,1),(22,13),(36,8),(46,1),(70,22),(169,1)]),[14],[],[]⟩ (.exit 3) (dQ k nl R m xl Aa Cu Af.length ((Af.map stE).flatten)),.c (.fn 176 [] [(.ptr 15 0),(.ptr 16 0)]) [(5,(.box 158 [(pI k),(.own 13),(pI 0),(pI 0),(pI 0)])),(13,(.row 78 R.length ((R.map rwE).flatten))),(15,(.box 156 [(.ptr 5 0)])),(16,(.box 3 [(pI (((nl+1):Nat):Int))]))],.g 1 ⟨[44],[15,16],[14],[]⟩,.c (.tup [(.own 16),(pB true)]) [(5,(.box 158 [(pI k),(.own 13),(pI 0),(pI 0),(pI 0)])),(13,(.row 78 R.length ((R.map rwE).flatten))),(14,(.box 156 [(.ptr 5 0)])),(15,(.box 3 [(pI (((nl+1):Nat):Int))])),(16,(.row 80 Ad.length ((Ad.map cE).flatten)))],bF,.g 1 ⟨[],[14,15],[16],[]⟩,.c (.p (.agg [(aB (aL k Ad 0)),(aB (aL k Ad 1)),(aB (aL k Ad 2))])) [],bF,.c (.p (.agg [(aB (aL k Ad 0)),(aB (aL k Ad 1)),(aB (aL k Ad 2))])) [],bF]) (l:=[_,_,_,_,_,_,_,false=false,FC Tp 91 [(.ptr 5 0),(.p (.sl Af.length ((Af.map stE).flatten))),(.fn 176 [] [(.ptr 14 0),(.ptr 15 0)])] [(5,(.box 158 [(pI k),(.own 13),(pI 0),(pI 0),(pI 0)])),(14,(.box 156 [(.ptr 5 0)])),(15,(.box 3 [(pI (((nl+1):Nat):Int))])),(13,(.row 78 R.length ((R.map rwE).flatten)))] 16 (.tup [(.own 16),(pB true)]) [(5,(.box 158 [(pI k),(.own 13),(pI 0),(pI 0),(pI 0)])),(13,(.row 78 R.length ((R.map rwE).flatten))),(14,(.box 156 [(.ptr 5 0)])),(15,(.box 3 [(pI (((nl+1):Nat):Int))])),(16,(.row 80 Ad.length ((Ad.map cE).flatten)))],FC Tp 89 [(.ptr 5 0),(pI (((nl+1):Nat):Int))] [(5,(.box 158 [(pI k),(.own 13),(pI 0),(pI 0),(pI 0)])),(13,(.row 78 R.length ((R.map rwE).flatten)))] 15 (.fn 176 [] [(.ptr 15 0),(.ptr 16 0)]) [(5,(.box 158 [(pI k),(.own 13),(pI 0),(pI 0),(pI 0)])),(13,(.row 78 R.length ((R.map rwE).flatten))),(15,(.box 156 [(.ptr 5 0)])),(16,(.box 3 [(pI (((nl+1):Nat):Int))]))],_,(decide (Aa=([115,117,109]:List UInt8)))=false,(decide (Aa=([107,108,105,115,116,101,114]:List UInt8)))=false,(decide (Aa=([107,108,105,115,116,101,114]:List UInt8)))=false,(((cF xl).map stE).flatten)[0]? = some (aD Aa),(decide (Aa=([107,108,105,115,116,101,114]:List UInt8)))=false,_,(decide (Aa=([107,108,105,115,116,101,114]:List UInt8)))=false,(decide (Aa=([107,108,105,115,116,101,114]:List UInt8)))=false,_,_,(((cF xl).map stE).flatten)[0]? = some (aD Aa),_,_,_,_,_,_]) (by kernel_rfl) (gc Dz (gc Dh (gc B3 (gc (fk 16 (eC k Ad Bc) rfl) (gc Dh (gc B3 (gc (fk 16 (eC k Ad Bc) rfl) (gc rfl (gc (FMM.fcN (k:=1) rfl (ids:=[5,13,14,15]) (kS (((nl+1):Nat):Int) R 0 0 Fo Er Fp) (by kernel_rfl)) (gc (FMM.fcN (k:=2) rfl (ids:=[5,13]) (eV (ln:=(((nl+1):Nat):Int)) (k:=k) (l:=(0:Int)) (f:=(0:Int)) (e:=(0:Int)) (R:=R)) (by kernel_rfl)) (gc Hm.code (gc (decide_eq_false h7) (A1 (decide_eq_false h6) (gc (aN (E:=stE) (i:=0) (f:=0) (k:=1) (fun _=>rfl) h5 rfl) (gc (decide_eq_false h6) (gc h4 (A1 (decide_eq_false h6) (A1 (bI h3) (gc (aN (E:=stE) (i:=0) (f:=0) (k:=1) (fun _=>rfl) h5 rfl) (gc (bI h3) (gc h4 (A1 (bI h3) (gc (fk 14 (oW xl [9,13,32] C9 Ep) rfl) (gc h0 gn)))))))))))))))))))))))),by kernel_rfl,(⟨fr 176 [(2,(.ptr 0 0)),(4,(.ptr 1 0)),(5,(.ptr 2 0)),(6,(.ptr 3 0)),(7,(.ptr 4 0)),(8,(.ptr 6 0)),(9,(.ptr 7 0)),(10,(.ptr 8 0)),(11,(pI (aK k))),(12,(.ptr 10 0)),(13,(.ptr 11 0)),(35,(.ptr 5 0))],[some (.box 23 [(pI k)]),some (.box 26 [(pI 0),(.p bK)]),some (.box 3 [(pI 0)]),some (.box 3 [(pI 0)]),some (.box 27 [(pI 0)]),some (.box 158 [(pI k),(.own 14),(pI 0),(pI 0),(pI 0)]),some (.box 156 [(.ptr 5 0)]),some (.box 260 [(.fn 164 [(.p (aD ([9,13,32]:List UInt8)))] [])]),some (.box 65 [(.p (bJ (aJ k)))]),some (.mp (((bN k) m)++[((k3V (aL k Ad 0) (aL k Ad 1) (aL k Ad 2)),(.sl Ad.length ((Ad.map cE).flatten)))]) (m.length+1)),some (.box 247 [(.mp 9)]),some (.box 3 [(pI (((nl+1):Nat):Int))]),some .dead,some .dead,some (.row 78 (R.length+1) (((R.map rwE).flatten)++[(PV.sl Ad.length ((Ad.map cE).flatten))]))]⟩:St).t,by kernel_rfl⟩
 exact raw.cast (by rw [Es,Et,Eu,Ev])
theorem aUe{R m:List (List Cel)}{xl Aa:List UInt8}{Af:List (List UInt8)}{Ad:List Cel}(h0:inR (((nl+1):Nat):Int))(C9:xl.length≤90000)(Ep:∀ b∈xl,b.toNat<128)(h3:((cF xl).length:Int)≠0)(h4:0≤(0:Int)∧(0:Int)<((cF xl).length:Int))(h5:(cF xl)[0]? = some (Aa))(h6:Aa≠([107,108,105,115,116,101,114]:List UInt8))(h7:Aa≠([115,117,109]:List UInt8))(Hm:aF Tp 14 tG (dQ k nl R m xl Aa 0 ((cF xl).length) (((cF xl).map stE).flatten)) (.exit 3) (dQ k nl R m xl Aa Cu Af.length ((Af.map stE).flatten)))(Fo:∀ u∈Af,u.length≤90000)(Er:rdL (aJ k) Af 0 = .inl Ad)(Fp:Af.length≠(aJ k).length)(C3:Fc=(nl+1)):bS Tp 14 13 jX (oD (cV k nl R.length ((R.map rwE).flatten) ((bN k) m) m.length) 45 46 14 xl xb) .ret (bR (bR (bR (bR (cV k Fc R.length ((R.map rwE).flatten) ((bN k) m) m.length) 5 (some (.box 158 [(pI k),(.own 13),(pI (((nl+1):Nat):Int)),(pI (((aJ k).length+1:Nat):Int)),(pI 11)]))) 2 (some (.box 3 [(pI (((nl+1):Nat):Int))]))) 3 (some (.box 3 [(pI (((aJ k).length+1:Nat):Int))]))) 4 (some (.box 27 [(pI 11)]))).m:=by
 subst C3
 have raw:bS Tp 14 13 jX (oD (cV k nl R.length ((R.map rwE).flatten) ((bN k) m) m.length) 45 46 14 xl xb) .ret (bR (bR (bR (bR (cV k (nl+1) R.length ((R.map rwE).flatten) ((bN k) m) m.length) 5 (some (.box 158 [(pI k),(.own 13),(pI (((nl+1):Nat):Int)),(pI (((aJ k).length+1:Nat):Int)),(pI 11)]))) 2 (some (.box 3 [(pI (((nl+1):Nat):Int))]))) 3 (some (.box 3 [(pI (((aJ k).length+1:Nat):Int))]))) 4 (some (.box 27 [(pI 11)]))).m:=⟨⟨fr 176 [(2,(.ptr 0 0)),(4,(.ptr 1 0)),(5,(.ptr 2 0)),(6,(.ptr 3 0)),(7,(.ptr 4 0)),(8,(.ptr 6 0)),(9,(.ptr 7 0)),(10,(.ptr 8 0)),(11,(pI (aK k))),(12,(.ptr 10 0)),(13,(.ptr 11 0)),(35,(.ptr 5 0))],[some (.box 23 [(pI k)]),some (.box 26 [(pI 0),(.p bK)]),some (.box 3 [(pI (((nl+1):Nat):Int))]),some (.box 3 [(pI (((aJ k).length+1:Nat):Int))]),some (.box 27 [(pI 11)]),some (.box 158 [(pI k),(.own 13),(pI (((nl+1):Nat):Int)),(pI (((aJ k).length+1:Nat):Int)),(pI 11)]),some (.box 156 [(.ptr 5 0)]),some (.box 260 [(.fn 164 [(.p (aD ([9,13,32]:List UInt8)))] [])]),some (.box 65 [(.p (bJ (aJ k)))]),some (.mp ((bN k) m) m.length),some (.box 247 [(.mp 9)]),some (.box 3 [(pI (((nl+1):Nat):Int))]),some .dead,some (.row 78 R.length ((R.map rwE).flatten))]⟩,⟨[],[13],[],[]⟩,aA.fin (g:=⟨(rng [(0,2),(3,1),(14,21),(36,8),(45,110),(169,1)]),[],[],[]⟩) (o:=[.c (.own 14) [(14,(.row 9 ((cF xl).length) (((cF xl).map stE).flatten)))],bF,bF,bF,.x (aD Aa),bF,bF,bF,bF,bF,.x (aD Aa),bF,bF,bF,.k 4 ⟨(rng [(0,2),(3,1),(16,1),(22,13),(36,8),(46,1),(70,22),(169,1)]),[14],[],[]⟩ (.exit 3) (dQ k nl R m xl Aa Cu Af.length ((Af.map stE).flatten)),.c (.fn 176 [] [(.ptr 15 0),(.ptr 16 0)]) [(5,(.box 158 [(pI k),(.own 13),(pI 0),(pI 0),(pI 0)])),(13,(.row 78 R.length ((R.map rwE).flatten))),(15,(.box 156 [(.ptr 5 0)])),(16,(.box 3 [(pI (((nl+1):Nat):Int))]))],.g 1 ⟨[44],[15,16],[14],[]⟩,.c (.tup [(.own 16),(pB false)]) [(5,(.box 158 [(pI k),(.own 13),(pI (((nl+1):Nat):Int)),(pI (((aJ k).length+1:Nat):Int)),(pI 11)])),(13,(.row 78 R.length ((R.map rwE).flatten))),(14,(.box 156 [(.ptr 5 0)])),(15,(.box 3 [(pI (((nl+1):Nat):Int))])),(16,(.row 80 Ad.length ((Ad.map cE).flatten)))],bT,.c (.tup [(.p (.agg [(aB 0),bK])),(pI (((nl+1):Nat):Int)),(pI (((aJ k).length+1:Nat):Int)),(pI 11)]) [(5,(.box 158 [(pI k),(.own 13),(pI (((nl+1):Nat):Int)),(pI (((aJ k).length+1:Nat):Int)),(pI 11)])),(13,(.row 78 R.length ((R.map rwE).flatten)))]]) (l:=[FC Tp 94 [(.ptr 5 0)] [(5,(.box 158 [(pI k),(.own 13),(pI (((nl+1):Nat):Int)),(pI (((aJ k).length+1:Nat):Int)),(pI 11)])),(13,(.row 78 R.length ((R.map rwE).flatten)))] 17 (.tup [(.p (.agg [(aB 0),bK])),(pI (((nl+1):Nat):Int)),(pI (((aJ k).length+1:Nat):Int)),(pI 11)]) [(5,(.box 158 [(pI k),(.own 13),(pI (((nl+1):Nat):Int)),(pI (((aJ k).length+1:Nat):Int)),(pI 11)])),(13,(.row 78 R.length ((R.map rwE).flatten)))],true=true,FC Tp 91 [(.ptr 5 0),(.p (.sl Af.length ((Af.map stE).flatten))),(.fn 176 [] [(.ptr 14 0),(.ptr 15 0)])] [(5,(.box 158 [(pI k),(.own 13),(pI 0),(pI 0),(pI 0)])),(14,(.box 156 [(.ptr 5 0)])),(15,(.box 3 [(pI (((nl+1):Nat):Int))])),(13,(.row 78 R.length ((R.map rwE).flatten)))] 16 (.tup [(.own 16),(pB false)]) [(5,(.box 158 [(pI k),(.own 13),(pI (((nl+1):Nat):Int)),(pI (((aJ k).length+1:Nat):Int)),(pI 11)])),(13,(.row 78 R.length ((R.map rwE).flatten))),(14,(.box 156 [(.ptr 5 0)])),(15,(.box 3 [(pI (((nl+1):Nat):Int))])),(16,(.row 80 Ad.length ((Ad.map cE).flatten)))],FC Tp 89 [(.ptr 5 0),(pI (((nl+1):Nat):Int))] [(5,(.box 158 [(pI k),(.own 13),(pI 0),(pI 0),(pI 0)])),(13,(.row 78 R.length ((R.map rwE).flatten)))] 15 (.fn 176 [] [(.ptr 15 0),(.ptr 16 0)]) [(5,(.box 158 [(pI k),(.own 13),(pI 0),(pI 0),(pI 0)])),(13,(.row 78 R.length ((R.map rwE).flatten))),(15,(.box 156 [(.ptr 5 0)])),(16,(.box 3 [(pI (((nl+1):Nat):Int))]))],_,(decide (Aa=([115,117,109]:List UInt8)))=false,(decide (Aa=([107,108,105,115,116,101,114]:List UInt8)))=false,(decide (Aa=([107,108,105,115,116,101,114]:List UInt8)))=false,(((cF xl).map stE).flatten)[0]? = some (aD Aa),(decide (Aa=([107,108,105,115,116,101,114]:List UInt8)))=false,_,(decide (Aa=([107,108,105,115,116,101,114]:List UInt8)))=false,(decide (Aa=([107,108,105,115,116,101,114]:List UInt8)))=false,_,_,(((cF xl).map stE).flatten)[0]? = some (aD Aa),_,_,_,_,_,_]) (by kernel_rfl) (gc (FMM.fc (ids:=[5,13]) (jW (k:=k) (l:=(((nl+1):Nat):Int)) (f:=(((aJ k).length+1:Nat):Int)) (e:=(11:Int)) (n:=R.length) (cs:=((R.map rwE).flatten)) (by decide)) (by kernel_rfl)) (gc rfl (gc (FMM.fcN (k:=1) rfl (ids:=[5,13,14,15]) (aJl (((nl+1):Nat):Int) R 0 0 Fo Er Fp) (by kernel_rfl)) (gc (FMM.fcN (k:=2) rfl (ids:=[5,13]) (eV (ln:=(((nl+1):Nat):Int)) (k:=k) (l:=(0:Int)) (f:=(0:Int)) (e:=(0:Int)) (R:=R)) (by kernel_rfl)) (gc Hm.code (gc (decide_eq_false h7) (A1 (decide_eq_false h6) (gc (aN (E:=stE) (i:=0) (f:=0) (k:=1) (fun _=>rfl) h5 rfl) (gc (decide_eq_false h6) (gc h4 (A1 (decide_eq_false h6) (A1 (bI h3) (gc (aN (E:=stE) (i:=0) (f:=0) (k:=1) (fun _=>rfl) h5 rfl) (gc (bI h3) (gc h4 (A1 (bI h3) (gc (fk 14 (oW xl [9,13,32] C9 Ep) rfl) (gc h0 gn)))))))))))))))))),by kernel_rfl,(⟨fr 176 [(2,(.ptr 0 0)),(4,(.ptr 1 0)),(5,(.ptr 2 0)),(6,(.ptr 3 0)),(7,(.ptr 4 0)),(8,(.ptr 6 0)),(9,(.ptr 7 0)),(10,(.ptr 8 0)),(11,(pI (aK k))),(12,(.ptr 10 0)),(13,(.ptr 11 0)),(35,(.ptr 5 0))],[some (.box 23 [(pI k)]),some (.box 26 [(pI 0),(.p bK)]),some (.box 3 [(pI (((nl+1):Nat):Int))]),some (.box 3 [(pI (((aJ k).length+1:Nat):Int))]),some (.box 27 [(pI 11)]),some (.box 158 [(pI k),(.own 13),(pI (((nl+1):Nat):Int)),(pI (((aJ k).length+1:Nat):Int)),(pI 11)]),some (.box 156 [(.ptr 5 0)]),some (.box 260 [(.fn 164 [(.p (aD ([9,13,32]:List UInt8)))] [])]),some (.box 65 [(.p (bJ (aJ k)))]),some (.mp ((bN k) m) m.length),some (.box 247 [(.mp 9)]),some (.box 3 [(pI (((nl+1):Nat):Int))]),some .dead,some (.row 78 R.length ((R.map rwE).flatten))]⟩:St).t,by kernel_rfl⟩
 exact raw
theorem aUf{R m:List (List Cel)}{xl Aa:List UInt8}{Af:List (List UInt8)}{Bv Br:Int}(h0:inR (((nl+1):Nat):Int))(C9:xl.length≤90000)(Ep:∀ b∈xl,b.toNat<128)(h3:((cF xl).length:Int)≠0)(h4:0≤(0:Int)∧(0:Int)<((cF xl).length:Int))(h5:(cF xl)[0]? = some (Aa))(h6:Aa≠([107,108,105,115,116,101,114]:List UInt8))(h7:Aa≠([115,117,109]:List UInt8))(Hm:aF Tp 14 tG (dQ k nl R m xl Aa 0 ((cF xl).length) (((cF xl).map stE).flatten)) (.exit 3) (dQ k nl R m xl Aa Cu Af.length ((Af.map stE).flatten)))(Fo:∀ u∈Af,u.length≤90000)(Er:rdL (aJ k) Af 0 = .inr (Bv,Br))(Mm:Br≠0)(C3:Fc=(nl+1)):bS Tp 14 13 jX (oD (cV k nl R.length ((R.map rwE).flatten) ((bN k) m) m.length) 45 46 14 xl xb) .ret (bR (bR (bR (bR (cV k Fc R.length ((R.map rwE).flatten) ((bN k) m) m.length) 5 (some (.box 158 [(pI k),(.own 13),(pI (((nl+1):Nat):Int)),(pI Bv),(pI Br)]))) 2 (some (.box 3 [(pI (((nl+1):Nat):Int))]))) 3 (some (.box 3 [(pI Bv)]))) 4 (some (.box 27 [(pI Br)]))).m:=by
 subst C3
 have raw:bS Tp 14 13 jX (oD (cV k nl R.length ((R.map rwE).flatten) ((bN k) m) m.length) 45 46 14 xl xb) .ret (bR (bR (bR (bR (cV k (nl+1) R.length ((R.map rwE).flatten) ((bN k) m) m.length) 5 (some (.box 158 [(pI k),(.own 13),(pI (((nl+1):Nat):Int)),(pI Bv),(pI Br)]))) 2 (some (.box 3 [(pI (((nl+1):Nat):Int))]))) 3 (some (.box 3 [(pI Bv)]))) 4 (some (.box 27 [(pI Br)]))).m:=⟨⟨fr 176 [(2,(.ptr 0 0)),(4,(.ptr 1 0)),(5,(.ptr 2 0)),(6,(.ptr 3 0)),(7,(.ptr 4 0)),(8,(.ptr 6 0)),(9,(.ptr 7 0)),(10,(.ptr 8 0)),(11,(pI (aK k))),(12,(.ptr 10 0)),(13,(.ptr 11 0)),(35,(.ptr 5 0))],[some (.box 23 [(pI k)]),some (.box 26 [(pI 0),(.p bK)]),some (.box 3 [(pI (((nl+1):Nat):Int))]),some (.box 3 [(pI Bv)]),some (.box 27 [(pI Br)]),some (.box 158 [(pI k),(.own 13),(pI (((nl+1):Nat):Int)),(pI Bv),(pI Br)]),some (.box 156 [(.ptr 5 0)]),some (.box 260 [(.fn 164 [(.p (aD ([9,13,32]:List UInt8)))] [])]),some (.box 65 [(.p (bJ (aJ k)))]),some (.mp ((bN k) m) m.length),some (.box 247 [(.mp 9)]),some (.box 3 [(pI (((nl+1):Nat):Int))]),some .dead,some (.row 78 R.length ((R.map rwE).flatten))]⟩,⟨[],[13],[],[]⟩,aA.fin (g:=⟨(rng [(0,2),(3,1),(14,21),(36,8),(45,110),(169,1)]),[],[],[]⟩) (o:=[.c (.own 14) [(14,(.row 9 ((cF xl).length) (((cF xl).map stE).flatten)))],bF,bF,bF,.x (aD Aa),bF,bF,bF,bF,bF,.x (aD Aa),bF,bF,bF,.k 4 ⟨(rng [(0,2),(3,1),(16,1),(22,13),(36,8),(46,1),(70,22),(169,1)]),[14],[],[]⟩ (.exit 3) (dQ k nl R m xl Aa Cu Af.length ((Af.map stE).flatten)),.c (.fn 176 [] [(.ptr 15 0),(.ptr 16 0)]) [(5,(.box 158 [(pI k),(.own 13),(pI 0),(pI 0),(pI 0)])),(13,(.row 78 R.length ((R.map rwE).flatten))),(15,(.box 156 [(.ptr 5 0)])),(16,(.box 3 [(pI (((nl+1):Nat):Int))]))],.g 1 ⟨[44],[15,16],[14],[]⟩,.c (.tup [(.p bK),(pB false)]) [(5,(.box 158 [(pI k),(.own 13),(pI (((nl+1):Nat):Int)),(pI Bv),(pI Br)])),(13,(.row 78 R.length ((R.map rwE).flatten))),(14,(.box 156 [(.ptr 5 0)])),(15,(.box 3 [(pI (((nl+1):Nat):Int))]))],bT,.c (.tup [(.p (.agg [(aB 0),bK])),(pI (((nl+1):Nat):Int)),(pI Bv),(pI Br)]) [(5,(.box 158 [(pI k),(.own 13),(pI (((nl+1):Nat):Int)),(pI Bv),(pI Br)])),(13,(.row 78 R.length ((R.map rwE).flatten)))]]) (l:=[FC Tp 94 [(.ptr 5 0)] [(5,(.box 158 [(pI k),(.own 13),(pI (((nl+1):Nat):Int)),(pI Bv),(pI Br)])),(13,(.row 78 R.length ((R.map rwE).flatten)))] 16 (.tup [(.p (.agg [(aB 0),bK])),(pI (((nl+1):Nat):Int)),(pI Bv),(pI Br)]) [(5,(.box 158 [(pI k),(.own 13),(pI (((nl+1):Nat):Int)),(pI Bv),(pI Br)])),(13,(.row 78 R.length ((R.map rwE).flatten)))],true=true,FC Tp 91 [(.ptr 5 0),(.p (.sl Af.length ((Af.map stE).flatten))),(.fn 176 [] [(.ptr 14 0),(.ptr 15 0)])] [(5,(.box 158 [(pI k),(.own 13),(pI 0),(pI 0),(pI 0)])),(14,(.box 156 [(.ptr 5 0)])),(15,(.box 3 [(pI (((nl+1):Nat):Int))])),(13,(.row 78 R.length ((R.map rwE).flatten)))] 16 (.tup [(.p bK),(pB false)]) [(5,(.box 158 [(pI k),(.own 13),(pI (((nl+1):Nat):Int)),(pI Bv),(pI Br)])),(13,(.row 78 R.length ((R.map rwE).flatten))),(14,(.box 156 [(.ptr 5 0)])),(15,(.box 3 [(pI (((nl+1):Nat):Int))]))],FC Tp 89 [(.ptr 5 0),(pI (((nl+1):Nat):Int))] [(5,(.box 158 [(pI k),(.own 13),(pI 0),(pI 0),(pI 0)])),(13,(.row 78 R.length ((R.map rwE).flatten)))] 15 (.fn 176 [] [(.ptr 15 0),(.ptr 16 0)]) [(5,(.box 158 [(pI k),(.own 13),(pI 0),(pI 0),(pI 0)])),(13,(.row 78 R.length ((R.map rwE).flatten))),(15,(.box 156 [(.ptr 5 0)])),(16,(.box 3 [(pI (((nl+1):Nat):Int))]))],_,(decide (Aa=([115,117,109]:List UInt8)))=false,(decide (Aa=([107,108,105,115,116,101,114]:List UInt8)))=false,(decide (Aa=([107,108,105,115,116,101,114]:List UInt8)))=false,(((cF xl).map stE).flatten)[0]? = some (aD Aa),(decide (Aa=([107,108,105,115,116,101,114]:List UInt8)))=false,_,(decide (Aa=([107,108,105,115,116,101,114]:List UInt8)))=false,(decide (Aa=([107,108,105,115,116,101,114]:List UInt8)))=false,_,_,(((cF xl).map stE).flatten)[0]? = some (aD Aa),_,_,_,_,_,_]) (by kernel_rfl) (gc (FMM.fc (ids:=[5,13]) (jW (k:=k) (l:=(((nl+1):Nat):Int)) (f:=Bv) (e:=Br) (n:=R.length) (cs:=((R.map rwE).flatten)) Mm) (by kernel_rfl)) (gc rfl (gc (FMM.fcN (k:=0) rfl (ids:=[5,13,14,15]) (aQv (((nl+1):Nat):Int) R 0 0 Fo Er).2 (by kernel_rfl)) (gc (FMM.fcN (k:=2) rfl (ids:=[5,13]) (eV (ln:=(((nl+1):Nat):Int)) (k:=k) (l:=(0:Int)) (f:=(0:Int)) (e:=(0:Int)) (R:=R)) (by kernel_rfl)) (gc Hm.code (gc (decide_eq_false h7) (A1 (decide_eq_false h6) (gc (aN (E:=stE) (i:=0) (f:=0) (k:=1) (fun _=>rfl) h5 rfl) (gc (decide_eq_false h6) (gc h4 (A1 (decide_eq_false h6) (A1 (bI h3) (gc (aN (E:=stE) (i:=0) (f:=0) (k:=1) (fun _=>rfl) h5 rfl) (gc (bI h3) (gc h4 (A1 (bI h3) (gc (fk 14 (oW xl [9,13,32] C9 Ep) rfl) (gc h0 gn)))))))))))))))))),by kernel_rfl,(⟨fr 176 [(2,(.ptr 0 0)),(4,(.ptr 1 0)),(5,(.ptr 2 0)),(6,(.ptr 3 0)),(7,(.ptr 4 0)),(8,(.ptr 6 0)),(9,(.ptr 7 0)),(10,(.ptr 8 0)),(11,(pI (aK k))),(12,(.ptr 10 0)),(13,(.ptr 11 0)),(35,(.ptr 5 0))],[some (.box 23 [(pI k)]),some (.box 26 [(pI 0),(.p bK)]),some (.box 3 [(pI (((nl+1):Nat):Int))]),some (.box 3 [(pI Bv)]),some (.box 27 [(pI Br)]),some (.box 158 [(pI k),(.own 13),(pI (((nl+1):Nat):Int)),(pI Bv),(pI Br)]),some (.box 156 [(.ptr 5 0)]),some (.box 260 [(.fn 164 [(.p (aD ([9,13,32]:List UInt8)))] [])]),some (.box 65 [(.p (bJ (aJ k)))]),some (.mp ((bN k) m) m.length),some (.box 247 [(.mp 9)]),some (.box 3 [(pI (((nl+1):Nat):Int))]),some .dead,some (.row 78 R.length ((R.map rwE).flatten))]⟩:St).t,by kernel_rfl⟩
 exact raw
section
variable{xl:List UInt8}(h0:(i:Int)<((cF xl).length:Int))(h1:(i:Int)<((aJ k).length:Int))(h2:(aJ k)[i]? = some Ac)
include h0 h1 h2
theorem aUg{R m:List (List Cel)}{Aa:List UInt8}{fs:List (List UInt8)}{Gy:List UInt8}{K1:List (List UInt8)}(h3:Ac=0)(h4:0≤(i:Int)∧(i:Int)<(fs.length:Int))(h5:fs[i]? = some (Gy))(h6:(i*1)<((fs.map stE).flatten).length)(h7:ce i)(Ai:i'=(i+1))(J1:K1.length=fs.length)(J2:(K1.map stE).flatten=(((fs.map stE).flatten).set (i*1) (aD (fE Gy)))):aA Tp 14 tG (dQ k nl R m xl Aa i fs.length ((fs.map stE).flatten)) .normal (dQ k nl R m xl Aa i' K1.length ((K1.map stE).flatten)):=by
 subst Ai;have k1:=fk 15 (bQw Gy) rfl;rw [J1,J2];exact aA.fi (gI a8 [14]) (rT 5++[.x (aB Ac),bT,bT,bT,.x (aD Gy),k1.o]) (gc h7 (gc h6 (gc h4 (gc k1 (gt (((fs.map stE).flatten)[(i*1)]? = some (aD Gy)) (aN (E:=stE) (i:=i) (f:=0) (k:=1) (fun _=>rfl) h5 rfl) (gc h4 (gc (dG h3) (A1 (bX h1) (gc (atm aB h2) (gc (bX h1) (gc (ixn aB h2) (Au (bX h1) (g0 h0)))))))))))))
theorem aUh{R m:List (List Cel)}{Aa:List UInt8}{fs:List (List UInt8)}(h3:Ac≠0)(h4:ce i)(Ai:i'=(i+1)):aA Tp 14 tG (dQ k nl R m xl Aa i fs.length ((fs.map stE).flatten)) .normal (dQ k nl R m xl Aa i' fs.length ((fs.map stE).flatten)):=by
 subst Ai;exact aA.fi (gI a8 [14]) (rT 5++[.x (aB Ac),bT,bT,bF]) (gc h4 (gc (bI h3) (A1 (bX h1) (gc (atm aB h2) (gc (bX h1) (gc (ixn aB h2) (Au (bX h1) (g0 h0))))))))
end
theorem aUi{R m:List (List Cel)}{xl Aa:List UInt8}{fs:List (List UInt8)}(h0:(i:Int)<((cF xl).length:Int))(h1:((aJ k).length:Int)≤(i:Int))(h2:ce i)(Ai:i'=(i+1)):aA Tp 14 tG (dQ k nl R m xl Aa i fs.length ((fs.map stE).flatten)) .normal (dQ k nl R m xl Aa i' fs.length ((fs.map stE).flatten)):=by
 subst Ai;exact aA.fi (gI a8 [14]) ([bT]++rF 6) (gc h2 (F6 (aO h1) (g0 h0)))
theorem aUj{R m:List (List Cel)}{xl Aa:List UInt8}{fs:List (List UInt8)}(h0:((cF xl).length:Int)≤(i:Int)):aA Tp 14 tG (dQ k nl R m xl Aa i fs.length ((fs.map stE).flatten)) (.exit 3) (dQ k nl R m xl Aa i fs.length ((fs.map stE).flatten)):=aA.fi (gI a8 [14]) [bF] (gc (aO h0) gn)
end
end KV
end Go.Proofs
section
set_option maxRecDepth 1000000
namespace Go.Proofs
open Go.RowKit Go.Maps
namespace KV
open Tryz
theorem bJc(s p:List UInt8):(∀ b∈(Lib.cut s p).1,b∈s)∧(Lib.cut s p).1.length≤s.length∧∀ b∈(Lib.cut s p).2.1,b∈s:=by
 unfold Lib.cut
 split
 ·exact ⟨fun b hb=>List.mem_of_mem_take hb,by rw [uJ];omega,fun b hb=>List.mem_of_mem_drop hb⟩
 ·exact ⟨fun b hb=>hb,Bj _,fun b hb=>(by cases hb)⟩
theorem aIh:∀ (k:Nat) (s:List UInt8),s.length≤k→∀ x∈cM s,x.1.length≤s.length∧∀ b∈x.1,b∈s
 | k,s,h,x,hx=>by
  by_cases hs:s=[]
  ·subst hs;rw [nP] at hx;cases hx
  ·rw [jH hs] at hx
   obtain ⟨c1,c2,c3⟩:=bJc s [10];have hlt:=zK (s:=s) (x:=[10]) hs (by simp)
   rcases oS.1 hx with rfl | hx
   ·exact ⟨c2,c1⟩
   ·match k,h with
    | 0,h=>exact absurd (sY (by omega)) hs
    | k+1,h =>
     obtain ⟨h1,h2⟩:=aIh k (Lib.cut s [10]).2.1 (by omega) x hx
     exact ⟨by omega,fun b hb=>c3 b (h2 b hb)⟩
def nM:List Int→List (List UInt8)→List (List UInt8)
 | [],us=>us
 | _::_,[]=>[]
 | t::ts,u::us=>(if t=0 then fE u else u)::nM ts us
theorem aIi:∀ (ts:List Int) (us:List (List UInt8)),(nM ts us).length=us.length
 | [],us=>rfl
 | _::_,[]=>rfl
 | t::ts,u::us=>by simp [nM,aIi ts us]
theorem zD:∀ u:List UInt8,(fE u).length≤u.length
 | []=>Bj _
 | b::r=>by
  simp only [fE]
  split
  ·have:=zD r;simp;omega
  ·exact Bj _
theorem aIj:∀ (ts:List Int) (us:List (List UInt8)) (N:Nat),(∀ u∈us,u.length≤N)→∀ u∈nM ts us,u.length≤N
 | [],us,N,h,u,hu=>h u hu
 | _::_,[],N,h,u,hu=>by cases hu
 | t::ts,v::us,N,h,u,hu=>by
  rcases oS.1 hu with rfl | hu
  ·have:=h v (by simp)
   split
   ·exact iB (zD v) this
   ·exact this
  ·exact aIj ts us N (fun u hu=>h u (Dd _ hu)) u hu
theorem bQq{cs s u:List UInt8}(h:u∈aIm cs s):u.length≤s.length:=by
 unfold aIm at h
 obtain ⟨x,_,rfl⟩:=tB.1 h;unfold zG;rw [uJ,uK];omega
theorem bYl{cs s:List UInt8}:(aIm cs s).length≤s.length+1:=by
 have hI:=bCw cs s (fU 0 s).length (Bj _);rw [List.take_length] at hI
 have h1:=hI.len;rw [rQ] at h1
 unfold aIm bQx bCv;rw [oC]
 split
 ·rw [gM];simp;omega
 ·omega
theorem wV{k:Int}{nl:Nat}{R m:List (List Cel)}{xl Aa:List UInt8}(hn:xl.length≤90000):∀ (us:List (List UInt8)) (ts:List Int) (dn:List (List UInt8)) (fs:List (List UInt8)),fs=dn++us→fs.length=(cF xl).length→(aJ k).drop dn.length=ts →
  aF Tp 14 (sub (cd Tryz.f79) [1,1,1,1,1,1,1,0,1,0,1,0,1,1,1,0,1,0,0]) (dQ k nl R m xl Aa dn.length fs.length ((fs.map stE).flatten)) (.exit 3) (dQ k nl R m xl Aa (cF xl).length (dn++nM ts us).length (((dn++nM ts us).map stE).flatten))
 | [],ts,dn,fs,he,hl,hd=>by
  subst he;rw [List.append_nil] at hl ⊢
  have:nM ts []=[]:=by cases ts <;> rfl
  rw [this,List.append_nil,hl];have hx:=aUj (k:=k) (nl:=nl) (R:=R) (m:=m) (xl:=xl) (Aa:=Aa) (i:=dn.length) (fs:=dn) (by omega)
  rw [hl] at hx
  exact .exit hx (by simp)
 | u::us,ts,dn,fs,he,hl,hd=>by
  subst he;have h0:(dn.length:Int)<((cF xl).length:Int):=by rw [← hl];simp;omega
  have hN:(cF xl).length≤xl.length+1:=bYl;have hi:inR (((dn.length+1:Nat)):Int):=aW (by omega)
  have hat:(dn++u::us)[dn.length]? = some u:=by simp
  have hset:∀ v,(dn++u::us).set dn.length v=(dn++[v])++us:=fun v=>by
   rw [List.set_append,if_neg (by omega),bBz];simp
  match ts,hd with
  | [],hd =>
   have h1:((aJ k).length:Int)≤(dn.length:Int):=by
    have:=congrArg List.length hd;simp at this;omega
   have:=wV (k:=k) (nl:=nl) (R:=R) (m:=m) (Aa:=Aa) hn us [] (dn++[u]) ((dn++[u])++us) rfl (by rw [← hl];simp) (by
    rw [List.drop_eq_nil_iff] at hd ⊢
    simp;omega)
   have e:(dn++[u])++us=dn++u::us:=by simp
   rw [e,gM,List.length_singleton] at this
   have e2:(dn++[u])++nM [] us=dn++nM [] (u::us):=by simp [nM]
   rw [e2] at this
   exact .step (aUi h0 h1 hi rfl) this
  | t::ts,hd =>
   have hlt:dn.length<(aJ k).length:=by
    have:=congrArg List.length hd;simp at this;omega
   have ht:(aJ k)[dn.length]? = some t:=by
    have:=congrArg (·[0]?) hd
    simpa using this
   have E6:(aJ k).drop (dn.length+1)=ts:=by rw [← List.tail_drop,hd];rfl
   by_cases hz:t=0
   ·have:=wV (k:=k) (nl:=nl) (R:=R) (m:=m) (Aa:=Aa) hn us ts (dn++[fE u]) ((dn++[fE u])++us) rfl (by rw [← hl];simp) (by simpa using E6)
    rw [← hset,gM,List.length_singleton] at this
    have e2:(dn++[fE u])++nM ts us=dn++nM (t::ts) (u::us):=by simp [nM,hz]
    rw [e2] at this
    exact .step (aUg h0 (by omega) ht hz (by simp;omega) hat (by rw [jB];simp) hi rfl (by simp) (by rw [jB,jB,List.map_set,Nat.mul_one])) this
   ·have:=wV (k:=k) (nl:=nl) (R:=R) (m:=m) (Aa:=Aa) hn us ts (dn++[u]) ((dn++[u])++us) rfl (by rw [← hl];simp) (by simpa using E6)
    have e:(dn++[u])++us=dn++u::us:=by simp
    rw [e,gM,List.length_singleton] at this
    have e2:(dn++[u])++nM ts us=dn++nM (t::ts) (u::us):=by simp [nM,hz]
    rw [e2] at this
    exact .step (aUh h0 (by omega) ht hz hi rfl) this
theorem bQr(s:List UInt8):0≤(paM s).1∧(paM s).1≤360000:=by
 unfold paM
 split
 ·rename_i h
  obtain ⟨_,_,h7,h8,_⟩:=h;have b1:=aEu (by omega) h7
  have b2:=aEu (by omega) h8
  have bn:=wT (Lib.cut s [58]).1 360000 (by omega)
  split
  ·exact ⟨aTd _,by decide⟩
  ·rename_i h2
   have h3:=fun q=>h2 (.inr q)
   dsimp only;constructor <;> omega
 ·exact ⟨aTd _,by decide⟩
theorem bQs(t:Int)(u:List UInt8) : -1000000000≤(rdM t u).1.1∧(rdM t u).1.1≤1000000000:=by
 unfold rdM;have h1:=wT u 999999 (by omega)
 have h2:=bQr u
 split
 ·dsimp only;omega
 ·split
  ·dsimp only;omega
  ·by_cases hh:(if t=2 then oZ u else pA u)=true
   ·rw [if_pos hh];exact (by decide : -1000000000≤(0:Int)∧(0:Int)≤1000000000)
   ·rw [if_neg hh];exact (by decide : -1000000000≤(0:Int)∧(0:Int)≤1000000000)
theorem aMc:∀ (ts:List Int) (us:List (List UInt8)) (i:Nat) (cs:List Cel),rdL ts us i = .inl cs→∀ c∈cs,-1000000000≤c.1∧c.1≤1000000000
 | [],us,i,cs,h,c,hc=>by cases h;cases hc
 | t::ts,[],i,cs,h,c,hc=>by cases h
 | t::ts,u::us,i,cs,h,c,hc=>by
  unfold rdL at h
  split at h
  ·cases h
  ·split at h
   ·rename_i Bm he
    cases h
    rcases oS.1 hc with rfl | hc
    ·exact bQs t u
    ·exact aMc ts us (i+1) Bm he c hc
   ·cases h
theorem bCr{k:Int}{r:List Cel}(h:∀ c∈r,-1000000000≤c.1∧c.1≤1000000000):jZ k r:=by
 have hj:∀ j,-1000000000≤aL k r j∧aL k r j≤1000000000:=fun j=>by
  unfold aL
  split
  ·cases hr:r[j]? with
   | none=>simp
   | some c=>simpa using h c (Cn hr)
  ·simp
 intro x hx;simp only [Az,oS,List.not_mem_nil,or_false] at hx
 rcases hx with rfl | rfl | rfl <;> exact hj _
structure TSt where
 nl:Nat
 R:List (List Cel)
def wKl:List UInt8:=[107,108,105,115,116,101,114]
def bYm:List UInt8:=[115,117,109]
def tdF(k:Int)(a:TSt)(x:List UInt8 × Bool):Except (TSt × Int × Int × Int) TSt :=
 match (cF x.1)[0]? with
 | none => .ok ⟨a.nl+1,a.R⟩
 | some u=>if u=wKl then .ok ⟨a.nl+1,a.R⟩ else if u=bYm then .ok ⟨a.nl+1,a.R⟩ else
  match rdL (aJ k) (nM (aJ k) (cF x.1)) 0 with
  | .inr p => .error (⟨a.nl+1,a.R⟩,((a.nl+1:Nat):Int),p.1,p.2)
  | .inl cs=>if (cF x.1).length≠(aJ k).length then .error (⟨a.nl+1,a.R⟩,((a.nl+1:Nat):Int),(((aJ k).length+1:Nat):Int),11) else
   match kA k a.R cs with
   | none => .ok ⟨a.nl+1,a.R++[cs]⟩
   | some y=>if y=cs then .ok ⟨a.nl+1,a.R⟩ else .error (⟨a.nl+1,a.R⟩,((a.nl+1:Nat):Int),1,5)
structure aMd (k:Int) (pre:List (List UInt8 × Bool)) (a:TSt):Prop where
 nl:a.nl=pre.length
 Rn:a.R.length≤a.nl
 len:∀ r∈a.R,r.length=(aJ k).length
 ky:∀ r∈a.R,jZ k r
 nd:(a.R.map (Az k)).Nodup
theorem aTv{k:Int}{R:List (List Cel)}{r y:List Cel}(h:kA k R r=some y):y∈R:=bHn h
theorem aTw{k:Int}{pre:List (List UInt8 × Bool)}{a a2:TSt}{x:List UInt8 × Bool}(h:aMd k pre a)(hf:tdF k a x = .ok a2):aMd k (pre++[x]) a2:=by
 obtain ⟨h1,h2,h3,h4,h5⟩:=h;have keep:aMd k (pre++[x]) ⟨a.nl+1,a.R⟩:=⟨by simp [h1],by show a.R.length≤a.nl+1;omega,h3,h4,h5⟩
 unfold tdF at hf
 split at hf
 ·cases hf;exact keep
 ·split at hf
  ·cases hf;exact keep
  ·split at hf
   ·cases hf;exact keep
   ·split at hf
    ·cases hf
    ·rename_i cs hr
     split at hf
     ·cases hf
     ·split at hf
      ·rename_i hl
       cases hf;refine ⟨by simp [h1],by simp;omega,fun r Dr => ?_,fun r Dr => ?_,?_⟩
       ·rcases aAj.1 Dr with q | q
        ·exact h3 r q
        ·rw [List.mem_singleton] at q;subst q;exact tQ _ _ _ _ hr
       ·rcases aAj.1 Dr with q | q
        ·exact h4 r q
        ·rw [List.mem_singleton] at q;subst q;exact bCr (aMc _ _ _ _ hr)
       ·show ((a.R++[cs]).map (Az k)).Nodup
        rw [uL,List.nodup_append];refine ⟨h5,by simp,fun u hu v hv e => ?_⟩
        simp only [jP,List.map_nil,List.mem_singleton] at hv
        subst hv;subst e;obtain ⟨y,hy,hyk⟩:=tB.1 hu;have:=List.find?_eq_none.1 hl y hy;simp [hyk] at this
      ·split at hf
       ·cases hf;exact keep
       ·cases hf
theorem zE{k:Int}:∀ (l pre:List (List UInt8 × Bool)) (a a2:TSt),aMd k pre a→itB (tdF k) a l = .ok a2→aMd k (pre++l) a2
 | [],pre,a,a2,h,hi=>by cases hi;rw [List.append_nil];exact h
 | x::l,pre,a,a2,h,hi=>by
  cases hf:tdF k a x with
  | error e=>simp only [itB,hf] at hi;cases hi
  | ok a' =>
   simp only [itB,hf] at hi
   have:=zE l (pre++[x]) a' a2 (aTw h hf) hi;rw [List.append_assoc] at this
   exact this
def tdA:TSt:=⟨0,[]⟩
theorem bCs(k:Int):aMd k [] tdA:=⟨rfl,Bj _,fun r h=>(by cases h),fun r h=>(by cases h),List.nodup_nil⟩
abbrev tdS(k:Int)(a:TSt):St:=cV k a.nl a.R.length ((a.R.map rwE).flatten) (bN k a.R) a.R.length
abbrev tdR(k:Int)(e:TSt × Int × Int × Int):St:=bR (bR (bR (bR (tdS k e.1) 5 (some (.box 158 [.p (aB k),.own 13,.p (aB e.2.1),.p (aB e.2.2.1),.p (aB e.2.2.2)]))) 2 (some (.box 3 [.p (aB e.2.1)]))) 3 (some (.box 3 [.p (aB e.2.2.1)]))) 4 (some (.box 27 [.p (aB e.2.2.2)]))
theorem bCt{k:Int}{s:List UInt8}(hs:s.length≤65536)(ha:∀ b∈s,b.toNat<128){pre:List (List UInt8 × Bool)}{x:List UInt8 × Bool}{a:TSt}(hp:pre++[x] <+: cM s)(h:aMd k pre a) :
  (∀ a',tdF k a x = .ok a'→bS Tp 14 13 (sub (cd Tryz.f79) [1,1,1,1,1,1,1,0,1,0,1]) (oD (tdS k a) 45 46 14 x.1 x.2) .normal (tdS k a').m) ∧
  (∀ e,tdF k a x = .error e→bS Tp 14 13 (sub (cd Tryz.f79) [1,1,1,1,1,1,1,0,1,0,1]) (oD (tdS k a) 45 46 14 x.1 x.2) .ret (tdR k e).m):=by
 have hxm:x∈cM s:=by
  obtain ⟨l,hl⟩:=hp;rw [← hl];simp
 obtain ⟨Ga,Fl⟩:=aIh _ s (Bj _) x hxm;have hpl:pre.length<s.length+1:=by
  have h1:=rV _ s (Bj _);obtain ⟨l,hl⟩:=hp;have:=congrArg List.length hl;simp at this;omega
 obtain ⟨xl,xb⟩:=x;obtain ⟨nl,R⟩:=a;obtain ⟨h1,h2,h3,h4,h5⟩:=h;dsimp only at h1 h2 h3 h4 h5 Ga Fl
 have i1:inR (((nl+1:Nat)):Int):=aW (by omega)
 have i2:xl.length≤90000:=by omega
 have i3:∀ b∈xl,b.toNat<128:=fun b hb=>ha b (Fl b hb)
 unfold tdF;dsimp only;cases hf:(cF xl)[0]? with
 | none =>
  refine ⟨fun _ h => ?_,fun _ h=>(by cases h)⟩
  cases h;have:(cF xl).length=0:=by simpa using hf
  exact aTy i1 i2 i3 (by omega) rfl
 | some u =>
  have hn:0<(cF xl).length:=bH hf;have z1:((cF xl).length:Int)≠(0:Int):=by omega
  have z2:0≤(0:Int)∧(0:Int)<((cF xl).length:Int):=by omega
  dsimp only
  by_cases hk:u=wKl
  ·rw [if_pos hk]
   refine ⟨fun _ h => ?_,fun _ h=>(by cases h)⟩
   cases h;exact aTz i1 i2 i3 z1 z2 hf hk rfl
  rw [if_neg hk]
  by_cases hu:u=bYm
  ·rw [if_pos hu]
   refine ⟨fun _ h => ?_,fun _ h=>(by cases h)⟩
   cases h;exact aUa i1 i2 i3 z1 z2 hf hk hu rfl
  rw [if_neg hu];have hL:=wV (k:=k) (nl:=nl) (R:=R) (m:=R) (xl:=xl) (Aa:=u) i2 (cF xl) (aJ k) [] (cF xl) rfl rfl rfl;rw [List.nil_append,List.length_nil] at hL
  have Fo:∀ v∈nM (aJ k) (cF xl),v.length≤90000:=aIj _ _ _ (fun v hv=>iB (bQq hv) i2)
  cases hr:rdL (aJ k) (nM (aJ k) (cF xl)) 0 with
  | inr p =>
   obtain ⟨fd,er⟩:=p;refine ⟨fun _ h=>(by cases h),fun _ h => ?_⟩
   cases h;exact aUf i1 i2 i3 z1 z2 hf hk hu hL Fo hr (aNh _ _ _ _ hr) rfl
  | inl cs =>
   have hcl:=tQ _ _ _ _ hr;have hsl:=aIi (aJ k) (cF xl);dsimp only
   by_cases hfl:(cF xl).length=(aJ k).length
   ·rw [if_neg (by simp [hfl])]
    have hkc:aK k≤(cs.length:Int):=by rw [hcl];exact tK k
    have hki:=bCr (k:=k) (aMc _ _ _ _ hr);have hKA:=tP h4 hki h5;cases hlk:kA k R cs with
    | none =>
     refine ⟨fun _ h => ?_,fun _ h=>(by cases h)⟩
     cases h;exact aUd (R:=R) (m:=R) (R':=R++[cs]) (m':=R++[cs]) i1 i2 i3 z1 z2 hf hk hu hL Fo hr (by rw [hsl];exact hfl) hkc hKA (by rw [mP,mQ,hlk];rfl) ⟨rfl,by omega⟩ rfl (by simp) (mR R cs) (aCw k R cs) (by simp)
    | some y =>
     have hy:=h3 y (aTv hlk);have hcol:(aJ k).length≤10:=by unfold aJ;(repeat' split) <;> decide
     dsimp only
     by_cases he:y=cs
     ·rw [if_pos he]
      refine ⟨fun _ h => ?_,fun _ h=>(by cases h)⟩
      cases h;exact aUc i1 i2 i3 z1 z2 hf hk hu hL Fo hr (by rw [hsl];exact hfl) hkc hKA (by rw [mP,mQ,hlk];rfl) (by rw [qC,hlk];rfl) (by omega) (decide_eq_true he) rfl
     ·rw [if_neg he]
      refine ⟨fun _ h=>(by cases h),fun _ h => ?_⟩
      cases h;exact aUb i1 i2 i3 z1 z2 hf hk hu hL Fo hr (by rw [hsl];exact hfl) hkc hKA (by rw [mP,mQ,hlk];rfl) (by rw [qC,hlk];rfl) (by omega) (decide_eq_false he) rfl
   ·rw [if_pos hfl]
    refine ⟨fun _ h=>(by cases h),fun _ h => ?_⟩
    cases h;exact aUe i1 i2 i3 z1 z2 hf hk hu hL Fo hr (by rw [hsl];exact hfl) rfl
theorem zF{M A B:Mem}{es:List (Value × PV)}{cl:Nat}{o:AO}(hA:nO A=true)(hB:nO B=true)(ho:M[A.length]? = some (some o))(hv:∀ e∈es,nmP e.2=true):nN M (A++some (.mp es cl)::B):=by
 intro id E4 Je h
 rcases Nat.lt_trichotomy id A.length with q | q | q
 ·rw [aSz q] at h
  exact absurd h ((eK hA).1 _ _ _)
 ·subst q
  rw [aLs (Bj _),bBz] at h
  simp at h
  obtain ⟨rfl,_⟩:=h;exact ⟨⟨o,ho⟩,fun j hj=>hv _ (gP hj)⟩
 ·rw [aLs (by omega)] at h
  obtain ⟨d,hd⟩:∃ d,id-A.length=d+1:=⟨id-A.length-1,by omega⟩
  rw [hd,List.getElem?_cons_succ] at h
  exact absurd h ((eK hB).1 _ _ _)
theorem bCu(k:Int)(R:List (List Cel)):∀ e∈bN k R,nmP e.2=true:=fun e he=>by
 obtain ⟨r,_,rfl⟩:=tB.1 he;have:=aQt r;show nmP (aM r)=true;unfold rwE at this
 simpa [iC] using this
theorem uO:∀ l:List Int,iC (l.map aB)=true
 | []=>rfl
 | _::l=>uO l
theorem aTx{k:Int}{s:List UInt8}(hs:s.length≤65536)(ha:∀ b∈s,b.toNat<128) :
  (∀ a,itB (tdF k) tdA (cM s) = .ok a→aA Tp 0 (sub (cd Tryz.f79) b5) (uP k s) .normal (tdS k a))∧(∀ e,itB (tdF k) tdA (cM s) = .error e→aA Tp 0 (sub (cd Tryz.f79) b5) (uP k s) .ret (tdR k e)):=by
 refine zJ (k:=0) (kb:=14) (kk:=13) (gi:=44) (p1:=45) (p2:=46) (bx:=12) (g0:=⟨[],[13],[],[(105001,78)]⟩) s (by omega) (uP k s) (tdS k) (tdR k) (uP k s).t (tdF k) tdA
  (s1T 45 46 14) (Gx 45 46 14) (asg := aMf 11 45 14 9 "read.go:179") (body := (sub (cd Tryz.f79) [1, 1, 1, 1, 1, 1, 1, 0, 1, 0, 1])) (by kernel_rfl) rfl rfl rfl (by show 13 ≤ 13; omega) ⟨(uP k s).t, by kernel_rfl⟩ (fun _ => rfl) (fun _ => rfl)
  (fun a => ?_) (fun e => ?_) (fun a=>gD (by rfl)) (fun e=>gD (by rfl)) (gD (by rfl)) (fun a => ?_) (fun e => ?_) (fun a=>by show 14≤14;omega) (by kernel_rfl)
  (fun a x l K W h=>Mj a x l K W h) (fun a x C M W h=>aPv (fun _=>rfl) a x h) (fun _ _=>rfl) (fun pre x a hp hi=>bCt hs ha hp (by have:=zE pre [] tdA a (bCs k) hi;exact this))
 ·exact zF (A:=(tdS k a).m.take 9) (B:=(tdS k a).m.drop 10) (o := .mp [] 0) (by rfl) (by rfl) rfl (bCu k a.R)
 ·exact zF (A:=(tdR k e).m.take 9) (B:=(tdR k e).m.drop 10) (o := .mp [] 0) (by rfl) (by rfl) rfl (bCu k e.1.R)
 ·show ((iC ((aJ k).map aB) && true) && (iC (a.R.map rwE).flatten && true))=true
  rw [pK,uO];rfl
 ·show ((iC ((aJ k).map aB) && true) && (iC (e.1.R.map rwE).flatten && true))=true
  rw [pK,uO];rfl
theorem bQt{k:Int}(hk:within k 0 4=true){s:List UInt8}(hs:s.length≤65536)(ha:∀ b∈s,b.toNat<128){a:TSt}(hi:itB (tdF k) tdA (cM s) = .ok a)(h1:1≤a.R.length)(Bc:a.R.length≤12){base:Nat} :
  FV Tp 79 [.p (aB k),.p (aD s)] base (.tup [.p (.agg [aB k,cD (isG (bW k) a.R)]),.p (aB 0),.p (aB 0),.p (aB 0)]) []:=by
 have hok:=zE (cM s) [] tdA a (bCs k) hi;have:=bQu (s:=s) hk (by omega) ((aTx hs ha).1 a hi) (by omega) Bc h1 (fun x hx=>by rw [hok.len x hx];exact tK k)
 rw [fO] at this
 exact FV.frz this (by rfl)
end KV
end Go.Proofs
end
namespace Go.Proofs
namespace KV
open Tryz
section
variable {Ab A6:Int}{R T Dq Ei:List Int}{i i' Aq base:Nat}

noncomputable abbrev aDf:Code:=sub (cd Tryz.f49) [1,1,0,1,0,0]
noncomputable abbrev aDg:Code:=sub (cd Tryz.f23) [1,1,0,1,0,0]
def iW(R T:List Int)(i:Nat):St:=⟨fr 26 [(0,(.p (bJ R))),(1,(.p (bJ T))),(12,(pI (R.length:Int))),(13,(pI (i:Int)))],[]⟩
theorem bXi(h0:(R.length:Int)≠(T.length:Int)):FV Tp 49 [(.p (bJ R)),(.p (bJ T))] base (pB false) []:=FV.fi func49 [bT] (gc (dE h0) gn)
theorem bXj(h0:(R.length:Int)=(T.length:Int))(Ao:aF Tp 0 aDf (iW R T 0) (.exit 0) (iW R T Aq)):FV Tp 49 [(.p (bJ R)),(.p (bJ T))] base (pB true) []:=FV.fi func49 [bF,Ao.k 4 (gZ bq)] (gc Ao.code (gc (bB h0) gn))
theorem bXk(h0:(R.length:Int)=(T.length:Int))(Ao:aF Tp 0 aDf (iW R T 0) .ret (cG (iW R T Aq) [(4,(pB false))])):FV Tp 49 [(.p (bJ R)),(.p (bJ T))] base (pB false) []:=FV.fi func49 [bF,Ao.k 4 (gZ bq)] (gc Ao.code (gc (bB h0) gn))
section
variable(h0:(i:Int)<(R.length:Int))(h1:R[i]? = some Ab)(h2:T[i]? = some A6)
include h0 h1 h2
theorem aZu(h3:Ab≠A6):aA Tp 0 aDf (iW R T i) .ret (cG (iW R T i) [(4,(pB false))]):=aA.fi (gN bi [] [(4,0)]) [bT,.x (aB Ab),.x (aB A6),bT] (gc (dE h3) (gc (atm aB h2) (gc (ixn aB h2) (gc (atm aB h1) (gc (ixn aB h1) (g0 h0))))))
theorem aZv(h3:Ab=A6)(h4:ce i)(Ai:i'=(i+1)):aA Tp 0 aDf (iW R T i) .normal (iW R T i'):=by
 subst Ai;exact aA.fi (gZ bq) [bT,.x (aB Ab),.x (aB A6),bF] (gc h4 (gc (bB h3) (gc (atm aB h2) (gc (ixn aB h2) (gc (atm aB h1) (gc (ixn aB h1) (g0 h0)))))))
end
theorem aZw(h0:(R.length:Int)≤(i:Int)):aA Tp 0 aDf (iW R T i) (.exit 0) (iW R T i):=aA.fi (gZ bq) [bF] (gc (aO h0) gn)
theorem bGl(R T:List Int)(h:R.length≤100000){base:Nat}:FV Tp 49 [(.p (bJ R)),(.p (bJ T))] base (pB (decide (R=T))) []:=by
 by_cases hl:R.length=T.length
 ·have hz:(R.zip T).length=R.length:=by rw [List.length_zip,hl,Nat.min_self]
  rcases aF.find (P:=Tp) (k:=0) (b:=aDf) (fun i=>iW R T i) (fun i _=>cG (iW R T i) [(4,.p (blP false))]) (iW R T R.length) .ret (.exit 0) (by simp) (by simp) (fun q:Int × Int => !(decide (q.1=q.2))) (R.zip T)
   (fun i q hx hp=>by
    obtain ⟨h1,h3⟩:=dV hx;have hi:=bH h1;have hp:=(Bool.not_eq_false' _).mp hp;exact aZv (by omega) h1 h3 (of_decide_eq_true hp) (aW (by omega)) rfl)
   (fun i q hx hp=>by
    obtain ⟨h1,h3⟩:=dV hx;have hi:=bH h1;have hp:=(Bool.not_eq_true' _).mp hp;exact aZu (by omega) h1 h3 (of_decide_eq_false hp))
   (by rw [hz];exact aZw (by omega)) with ⟨i,q,h1,h2,h3,h4⟩ | ⟨h1,h2,h3⟩
  ·have hne:decide (R=T)=false:=by
    apply decide_eq_false;intro e;subst e;obtain ⟨q1,q2⟩:=dV h1;rw [q1] at q2
    have:q.1=q.2:=by simpa using q2
    simp [this] at h3
   rw [hne];exact bXk (by omega) h4
  ·rw [decide_eq_true (iR R T hl h2)];exact bXj (by omega) h3
 ·have hne:decide (R=T)=false:=decide_eq_false (fun e=>hl (by rw [e]))
  rw [hne];exact bXi (by omega)
def iX(R T:Lqq)(i:Nat):St:=⟨fr 27 [(0,(.p (.sl R.length ((R.map ixE).flatten)))),(1,(.p (.sl T.length ((T.map ixE).flatten)))),(12,(pI (R.length:Int))),(13,(pI (i:Int)))],[]⟩
theorem bXl{R T:Lqq}(h0:(R.length:Int)≠(T.length:Int)):FV Tp 23 [(.p (.sl R.length ((R.map ixE).flatten))),(.p (.sl T.length ((T.map ixE).flatten)))] base (pB false) []:=FV.fi func23 [bT] (gc (dE h0) gn)
theorem bXm{R T:Lqq}(h0:(R.length:Int)=(T.length:Int))(Ao:aF Tp 0 aDg (iX R T 0) (.exit 0) (iX R T Aq)):FV Tp 23 [(.p (.sl R.length ((R.map ixE).flatten))),(.p (.sl T.length ((T.map ixE).flatten)))] base (pB true) []:=FV.fi func23 [bF,Ao.k 4 (gZ br)] (gc Ao.code (gc (bB h0) gn))
theorem bXn{R T:Lqq}(h0:(R.length:Int)=(T.length:Int))(Ao:aF Tp 0 aDg (iX R T 0) .ret (cG (iX R T Aq) [(4,(pB false))])):FV Tp 23 [(.p (.sl R.length ((R.map ixE).flatten))),(.p (.sl T.length ((T.map ixE).flatten)))] base (pB false) []:=FV.fi func23 [bF,Ao.k 4 (gZ br)] (gc Ao.code (gc (bB h0) gn))
section
variable{R T:Lqq}(h0:(i:Int)<(R.length:Int))(h1:R[i]? = some (Dq))(h2:T[i]? = some (Ei))(Kd:Dq.length≤100000)
include h0 h1 h2 Kd
theorem aZx(h4:(decide (Dq=Ei))=false):aA Tp 0 aDg (iX R T i) .ret (cG (iX R T i) [(4,(pB false))]):=have k1:=fk 0 (bGl Dq Ei Kd) rfl;aA.fi (gN [2,2,5,7,14,13] [] [(4,0)]) [bT,.x (bJ Dq),.x (bJ Ei),k1.o,bT] (gc (cY h4) (gc k1 (gt (((T.map ixE).flatten)[(i*1)]? = some (bJ Ei)) (aN (E:=ixE) (i:=i) (f:=0) (k:=1) (fun _=>rfl) h2 rfl) (gc (bD (E:=ixE) (k:=1) (i:=(i:Int)) (fun _=>rfl) (by decide) (Bl _) h2) (gt (((R.map ixE).flatten)[(i*1)]? = some (bJ Dq)) (aN (E:=ixE) (i:=i) (f:=0) (k:=1) (fun _=>rfl) h1 rfl) (gc (bD (E:=ixE) (k:=1) (i:=(i:Int)) (fun _=>rfl) (by decide) (Bl _) h1) (g0 h0)))))))
theorem aZy(h4:(decide (Dq=Ei))=true)(h5:ce i)(Ai:i'=(i+1)):aA Tp 0 aDg (iX R T i) .normal (iX R T i'):=by
 subst Ai;have k1:=fk 0 (bGl Dq Ei Kd) rfl;exact aA.fi (gZ br) [bT,.x (bJ Dq),.x (bJ Ei),k1.o,bF] (gc h5 (gc (aV h4) (gc k1 (gt (((T.map ixE).flatten)[(i*1)]? = some (bJ Ei)) (aN (E:=ixE) (i:=i) (f:=0) (k:=1) (fun _=>rfl) h2 rfl) (gc (bD (E:=ixE) (k:=1) (i:=(i:Int)) (fun _=>rfl) (by decide) (Bl _) h2) (gt (((R.map ixE).flatten)[(i*1)]? = some (bJ Dq)) (aN (E:=ixE) (i:=i) (f:=0) (k:=1) (fun _=>rfl) h1 rfl) (gc (bD (E:=ixE) (k:=1) (i:=(i:Int)) (fun _=>rfl) (by decide) (Bl _) h1) (g0 h0))))))))
end
theorem aZz{R T:Lqq}(h0:(R.length:Int)≤(i:Int)):aA Tp 0 aDg (iX R T i) (.exit 0) (iX R T i):=aA.fi (gZ br) [bF] (gc (aO h0) gn)
theorem bXo(R T:Lqq)(h:R.length≤100000)(h2:∀ r∈R,r.length≤100000){base:Nat}:FV Tp 23 [(.p (.sl R.length ((R.map ixE).flatten))),(.p (.sl T.length ((T.map ixE).flatten)))] base (pB (decide (R=T))) []:=by
 by_cases hl:R.length=T.length
 ·have hz:(R.zip T).length=R.length:=by rw [List.length_zip,hl,Nat.min_self]
  rcases aF.find (P:=Tp) (k:=0) (b:=aDg) (fun i=>iX R T i) (fun i _=>cG (iX R T i) [(4,.p (blP false))]) (iX R T R.length) .ret (.exit 0) (by simp) (by simp) (fun q:(List Int) × (List Int) => !(decide (q.1=q.2))) (R.zip T)
   (fun i q hx hp=>by
    obtain ⟨h1,h3⟩:=dV hx;have hi:=bH h1;have hp:=(Bool.not_eq_false' _).mp hp;exact aZy (by omega) h1 h3 (h2 _ (Cn h1)) hp (aW (by omega)) rfl)
   (fun i q hx hp=>by
    obtain ⟨h1,h3⟩:=dV hx;have hi:=bH h1;have hp:=(Bool.not_eq_true' _).mp hp;exact aZx (by omega) h1 h3 (h2 _ (Cn h1)) hp)
   (by rw [hz];exact aZz (by omega)) with ⟨i,q,h1,h2,h3,h4⟩ | ⟨h1,h2,h3⟩
  ·have hne:decide (R=T)=false:=by
    apply decide_eq_false;intro e;subst e;obtain ⟨q1,q2⟩:=dV h1;rw [q1] at q2
    have:q.1=q.2:=by simpa using q2
    simp [this] at h3
   rw [hne];exact bXn (by omega) h4
  ·rw [decide_eq_true (iR R T hl h2)];exact bXm (by omega) h3
 ·have hne:decide (R=T)=false:=decide_eq_false (fun e=>hl (by rw [e]))
  rw [hne];exact bXl (by omega)
end
end KV
end Go.Proofs
section
namespace Go.Proofs
open Go.RowKit
namespace KV
open Tryz
theorem wX:eQ 0 kV=0:=by decide +kernel
theorem bAa{n:Nat}(h:n<10):Lib.itoa (n:Int)=[UInt8.ofNat (48+n)]:=by rw [Lib.itoa_nonneg,kI h]
theorem aJq{n:Nat}(h:¬ n<10):Lib.itoa (n:Int)=Lib.itoa ((n / 10:Nat):Int)++[UInt8.ofNat (48+n % 10)]:=by rw [Lib.itoa_nonneg,wS h,Lib.itoa_nonneg]
theorem Qb:Lib.itoa 2=[50]:=bAa (n:=2) (by omega)
theorem Qc:Lib.itoa 7=[55]:=bAa (n:=7) (by omega)
theorem K9:Lib.itoa 1=[49]:=bAa (n:=1) (by omega)
theorem Nn:Lib.itoa 0=[48]:=bAa (n:=0) (by omega)
theorem Qd:Lib.itoa 5=[53]:=bAa (n:=5) (by omega)
theorem Np:Lib.itoa 12=[49,50]:=by
 have:=aJq (n:=12) (by omega)
 rw [show ((12 / 10:Nat):Int)=1 from rfl,K9] at this
 exact this
theorem Kl:Lib.itoa 100=[49,48,48]:=by
 have A5:=aJq (n:=10) (by omega)
 rw [show ((10 / 10:Nat):Int)=1 from rfl,K9] at A5
 have:=aJq (n:=100) (by omega)
 rw [show ((100 / 10:Nat):Int)=((10:Nat):Int) from rfl,A5] at this
 exact this
theorem Km:Lib.itoa 130=[49,51,48]:=by
 have A5:=aJq (n:=13) (by omega)
 rw [show ((13 / 10:Nat):Int)=1 from rfl,K9] at A5
 have:=aJq (n:=130) (by omega)
 rw [show ((130 / 10:Nat):Int)=((13:Nat):Int) from rfl,A5] at this
 exact this
theorem Qe:(ptM 0).1=[48,58,48,48,46,48]:=by
 have e:ptM 0=((((((Lib.itoa 0)++[58])++((Lib.itoa 100).drop 1))++[46])++Lib.itoa 0),0):=by
  unfold ptM;rw [if_pos (by decide)];rfl
 rw [e,Nn,Kl];rfl
theorem Kn:(ptM 305).1=[48,58,51,48,46,53]:=by
 have e:ptM 305=((((((Lib.itoa 0)++[58])++((Lib.itoa 130).drop 1))++[46])++Lib.itoa 5),0):=by
  unfold ptM;rw [if_pos (by decide)];rfl
 rw [e,Nn,Km,Qd];rfl
def bLs:List UInt8:=[107,108,105,115,116,101,114,32,115,116,97,114,116,115,32,50,10,55,32,48,58,48,48,46,48,32,49,10,49,50,32,48,58,51,48,46,53,32,48,10]
theorem bGm:aJm 0 kV=bLs:=by
 have e1:kE 0 [(7,[]),(0,[]),(1,[])]=[[55],[48,58,48,48,46,48],[49]]:=by
  show [Lib.itoa 7,(ptM 0).1,Lib.itoa 1]=_;rw [Qc,Qe,K9]
 have e2:kE 0 [(12,[]),(305,[]),(0,[])]=[[49,50],[48,58,51,48,46,53],[48]]:=by
  show [Lib.itoa 12,(ptM 305).1,Lib.itoa 0]=_;rw [Np,Kn,Nn]
 have e0:wE 0 2=[107,108,105,115,116,101,114,32,115,116,97,114,116,115,32,50,10]:=by
  show lnM [_,_,Lib.itoa 2]=_;rw [Qb];rfl
 show (wE 0 2++lnM (kE 0 [(7,[]),(0,[]),(1,[])]))++lnM (kE 0 [(12,[]),(305,[]),(0,[])])=_;rw [e0,e1,e2];rfl
theorem bLt:bM bLs=3900:=by decide +kernel
theorem Nq:Lib.itoa 3=[51]:=bAa (n:=3) (by omega)
theorem Ko:Lib.itoa 39=[51,57]:=by
 have:=aJq (n:=39) (by omega)
 rw [show ((39 / 10:Nat):Int)=3 from rfl,Nq] at this
 exact this
theorem Jb:Lib.itoa 390=[51,57,48]:=by
 have:=aJq (n:=390) (by omega)
 rw [show ((390 / 10:Nat):Int)=39 from rfl,Ko] at this
 exact this
theorem Hu:Lib.itoa 3900=[51,57,48,48]:=by
 have:=aJq (n:=3900) (by omega)
 rw [show ((3900 / 10:Nat):Int)=390 from rfl,Jb] at this
 exact this
def aJr:List UInt8:=bLs++[115,117,109,32,51,57,48,48,10]
theorem bAb:bGe 0 kV=(aJr,0):=by
 unfold bGe;rw [if_neg (by rw [wX];simp),bGm]
 have e:qH bLs=3900:=by unfold qH;rw [if_pos (by decide),bLt]
 rw [e,Hu];rfl
end KV
end Go.Proofs
end
section
set_option maxRecDepth 1000000
namespace Go.Proofs
open Go.RowKit
namespace KV
open Tryz
def bQf:List UInt8:=[107,108,105,115,116,101,114,32,115,116,97,114,116,115,32,50,10,55,32,54,48,49,58,48,48,46,48,32,49,10]
def bQg:List UInt8:=[48,49,50,32,32,32,48,58,51,48,46,53,32,48,10,10,55,32,48,58,48,48,46,48,32,49]
def nK:List (List Cel):=[[(7,[]),(10,[]),(1,[])],[(9,[]),(200,[]),(0,[])]]
def aEv:List (List Cel):=[[(7,[]),(0,[]),(2,[])],[(12,[]),(305,[]),(0,[])]]
theorem bIx:prM aJr=(0,kV,0,0,0):=by decide +kernel
theorem bIy:prM bQf=(0,[],2,2,3):=by decide +kernel
theorem bQh{base:Nat}:FV Tp 30 [.p (aD [97,98])] base (.tup [.p (aB 3105),.p (aB 0)]) []:=by
 have:=jA [97,98] (by decide) (base:=base)
 rw [show bM [97,98]=3105 by decide +kernel] at this
 exact this
theorem bCo{base:Nat}:FV Tp 28 [.p (.agg [aB 0,cD kV])] base (.tup [.p (aD aJr),.p (aB 0)]) []:=by
 have:=bXh 0 kV (base:=base);rw [bAb] at this
 exact this
theorem bCp{base:Nat}:FV Tp 15 [.p (aD aJr)] base (.tup [.p (.agg [aB 0,cD kV]),.p (aB 0),.p (aB 0),.p (aB 0)]) []:=by
 have:=bFf aJr (base:=base);rw [bIx] at this
 exact this
theorem bQi{base:Nat}:FV Tp 15 [.p (aD bQf)] base (.tup [.p (.agg [aB 0,cD []]),.p (aB 2),.p (aB 2),.p (aB 3)]) []:=by
 have:=bFf bQf (base:=base);rw [bIy] at this
 exact this
theorem bQj:itB (tdF 0) tdA (cM bQg) = .ok ⟨3,[[(12,[]),(305,[]),(0,[])],[(7,[]),(0,[]),(1,[])]]⟩:=by kernel_rfl
theorem bIz{base:Nat}:FV Tp 79 [.p (aB 0),.p (aD bQg)] base (.tup [.p (.agg [aB 0,cD kV]),.p (aB 0),.p (aB 0),.p (aB 0)]) []:=by
 have:=bQt (k:=0) (by decide) (s:=bQg) (by decide) (by decide) bQj (by decide) (by decide) (base:=base)
 rw [show isG (bW 0) [[(12,[]),(305,[]),(0,[])],[(7,[]),(0,[]),(1,[])]]=kV by decide +kernel] at this
 exact this
theorem aPm{R:List (List Cel)}(h:R.length≤100000)(h2:∀ r∈R,r.length≤100000){base:Nat}:FV Tp 24 [.p (.agg [aB 0,cD R]),.p (.agg [aB 0,cD R])] base (.p (blP true)) []:=by
 have:=bWl 0 R 0 R h h2 (base:=base);rw [decide_eq_true ⟨rfl,rfl⟩] at this
 exact this
theorem aIg{base:Nat}:FV Tp 24 [.p (.agg [aB 0,cD kV]),.p (.agg [aB 0,cD kV])] base (.p (blP true)) []:=aPm (by decide) (by decide)
theorem bCq{base:Nat}:FV Tp 24 [.p (.agg [aB 0,cD nK]),.p (.agg [aB 0,cD nK])] base (.p (blP true)) []:=aPm (by decide) (by decide)
theorem aEw:fP 0 kV:=⟨by decide,by decide,by decide +kernel,by decide +kernel⟩
theorem aPn:fP 0 nK:=⟨by decide,by decide,by decide +kernel,by decide +kernel⟩
theorem bJa:fP 0 aEv:=⟨by decide,by decide,by decide +kernel,by decide +kernel⟩
theorem aPo:eQ 0 nK=0:=by decide +kernel
theorem bJb:eQ 0 aEv=0:=by decide +kernel
def aAn:List Chg:=[([(7,[]),(0,[]),(1,[])],[(7,[]),(10,[]),(1,[])]),([],[(9,[]),(200,[]),(0,[])]),([(12,[]),(305,[]),(0,[])],[])]
def bQk:List Chg:=[([(7,[]),(0,[]),(1,[])],[(7,[]),(0,[]),(2,[])])]
theorem tF:dfM 0 kV nK=aAn:=by decide +kernel
theorem wU:dfM 0 kV aEv=bQk:=by decide +kernel
theorem bQl{base:Nat}:FV Tp 56 [.p (.agg [aB 0,cD kV]),.p (.agg [aB 0,cD nK])] base (.tup [.p (.sl 3 ((aAn.map chE).flatten)),.p (aB 0)]) []:=by
 have:=bUn wX aPo aEw aPn (by decide +kernel) (by decide +kernel) (base:=base)
 rw [tF] at this
 exact this
theorem bYj:bKq 0 aAn:=⟨by decide +kernel,by decide,by decide +kernel,by decide +kernel,by decide +kernel,by unfold ckL;decide +kernel,by decide +kernel,by decide +kernel⟩
theorem bQm{base:Nat}:FV Tp 59 [.p (.agg [aB 0,cD kV]),.p (.sl 3 ((aAn.map chE).flatten))] base (.tup [.p (.agg [aB 0,cD nK]),.p (aB 0)]) []:=by
 have:=bUb (k:=0) (R:=kV) (l:=aAn) (m1:=((aAn.foldlM (apF 0) (kV.map fun r=>(r,r))).getD [])) wX aEw bYj (by decide +kernel) (by decide +kernel) (by decide +kernel) (by decide +kernel) (by decide +kernel) (by decide +kernel) (base:=base)
 rw [show isG (bW 0) (apL 0 ((aAn.foldlM (apF 0) (kV.map fun r=>(r,r))).getD []) kV aAn)=nK by decide +kernel] at this
 exact this
theorem bQn:aQg 0 aAn:=⟨by decide,by decide +kernel,by decide +kernel,by decide +kernel,by decide⟩
theorem bQo:aQg 0 bQk:=⟨by decide,by decide +kernel,by decide +kernel,by decide +kernel,by decide⟩
theorem bQp{base:Nat}:FV Tp 20 [.p (.agg [aB 0,cD kV]),.p (.agg [aB 0,cD nK]),.p (.agg [aB 0,cD aEv])] base (.tup [.p (.agg [aB 0,bK]),.p (.sl 1 [bJ [7]]),.p (aB 0)]) []:=by
 have:=bTy wX aPo bJb aEw aPn bJa (by decide +kernel) (by decide +kernel) (by decide +kernel) (by decide +kernel) (by rw [tF];exact bQn) (by rw [wU];exact bQo) (by rw [tF,wU];decide +kernel) (by rw [tF,wU];decide +kernel)
 rw [tF,wU,show bQk.filterMap (Gm aAn)=[[7]] by decide +kernel] at this
 exact FV.frz this (by rfl)
theorem bYk{base:Nat}:FV Tp 23 [.p (.sl 1 [bJ [7]]),.p (.sl 1 [bJ [7]])] base (.p (blP true)) []:=by
 have:=bXo [[7]] [[7]] (by decide) (by decide) (base:=base)
 rw [decide_eq_true rfl] at this
 exact this
end KV
end Go.Proofs
end
namespace Go.Proofs
namespace KV
open Tryz
section

theorem vZ:((0:Int) != 0)=false:=by first | decide | simp
theorem bLx:((0:Int) == 0)=true:=by first | decide | simp
theorem bYg:((2:Int) != 2)=false:=by first | decide | simp
theorem bLy:((3:Int) == 3)=true:=by first | decide | simp
theorem bYh:((3:Int) != 3)=false:=by first | decide | simp
theorem bYi:((3105:Int) != 3105)=false:=by first | decide | simp
theorem bQd{base:Nat}:FV Tp 32 [.p (aD aJr),.p (aD [107,108,105,115,116,101,114,32,115,116,97,114,116,115,32,50,10,55,32,48,58,48,48,46,48,32,49,10,49,50,32,48,58,51,48,46,53,32,48,10,115,117,109,32])] base (pB true) []:=by
 have:=bNs aJr [107,108,105,115,116,101,114,32,115,116,97,114,116,115,32,50,10,55,32,48,58,48,48,46,48,32,49,10,49,50,32,48,58,51,48,46,53,32,48,10,115,117,109,32] (base:=base);rw [show Lib.hasPrefix aJr [107,108,105,115,116,101,114,32,115,116,97,114,116,115,32,50,10,55,32,48,58,48,48,46,48,32,49,10,49,50,32,48,58,51,48,46,53,32,48,10,115,117,109,32]=true by decide +kernel] at this
 exact this
theorem bQe{base:Nat}:FV Tp 14 [] base (pB true) []:=by
 have k1:=fk 0 bQh rfl;have k2:=fk 0 (vA) rfl;have k3:=fk 0 bCo rfl;have k4:=fk 0 bCp rfl;have k5:=fk 1 (vA) rfl;have k6:=fk 1 bQi rfl;have k7:=fk 1 bIz rfl;have k8:=fk 1 (vA) rfl;have k9:=fk 1 (qD 7 10 1) rfl;have N0:=fk 1 (qD 9 200 0) rfl;have H2:=fk 2 (vA) rfl;have H3:=fk 10 bQl rfl;have Hb:=fk 2 (vA) rfl;have E1:=fk 2 bQm rfl;have N1:=fk 2 (qD 7 0 2) rfl;have N2:=fk 2 (qD 12 305 0) rfl;have N3:=fk 3 (vA) rfl;have N4:=fk 11 bQp rfl;exact FV.fi func14 ([k1.o,k2.o,k3.o,k4.o]++rF 17++[k5.o,bF,.c (pB true) [],bF,bF,bF,bF,.c (pB true) [],bF,bF,bF,k6.o,k7.o]++rF 11++[k8.o,bF,.c (pB true) [],bF,bF,bF,k9.o,N0.o,.g 1 ⟨[],[0,2],[1],[]⟩,H2.o,H3.o,Hb.o,E1.o,N1.o,N2.o,.g 1 ⟨[],[0,1,3],[2],[]⟩,N3.o,N4.o]++rT 13++[.c (pB true) []]++rT 5++[.c (pB true) [],bT]) (gt (true=true) rfl (gt (FC Tp 23 [(.p (.sl 1 [(bJ [7])])),(.own 21)] [(21,(.row 68 1 [(PV.sl 1 [(aB 7)])]))] 22 (pB true) []) (fv bYk) (gt (true=true) rfl (gt (true=true) rfl (gt (true=true) rfl (gt (true=true) rfl (gc bLy (gc (fk 20 bCq rfl) (Au bLy (Hw bLx (A1 bLx (gc N4 (gc N3 (gc N2 (gc N1 (gc E1 (gc Hb (gc H3 (gc H2 (gc N0 (gc k9 (gf (A1 vZ (gc (fk 9 aIg rfl) (gc vZ (gc k8 (A1 vZ (F6 bYg (Au bYh (gc k7 (gc k6 (gf (gf (gf (gc (fk 17 bQd rfl) (gf (gf (A1 vZ (gc (fk 9 aIg rfl) (gc vZ (gc k5 (Cr vZ (Au bYi (Hw vZ (gc vZ (gc k4 (gc k3 (gc k2 (gc k1 gn)))))))))))))))))))))))))))))))))))))))))))))))))
end
end KV
end Go.Proofs
