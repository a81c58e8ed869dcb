/- Parts of the proof of JSheetFirst: laws of walks, contracts of functions, plain models. No condition. -/
import Derived.Test.YtfekapdegmfgaaaGreatDoorPJSheetFirstF
set_option linter.unusedVariables false
set_option linter.unusedSimpArgs false
set_option linter.unnecessarySimpa false
set_option maxRecDepth 100000
namespace Go.Proofs
namespace KV
open Tryz
section
variable {x:Lqq}{i j q j' q':Nat}

noncomputable abbrev aLh:Code:=sub (cd Tryz.f20) [1,0,1,0,0]
noncomputable abbrev aTf:Code:=pS (cd Tryz.f20) 8 [0,1,0,0]
noncomputable abbrev bJh:Code:=pS (cd Tryz.f20) 6 [0,1,0,0]
theorem aTg:((0:Int) != 0)=false:=by first | decide | simp
def ixE(l:List Int):List PV:=[bD l]
def aCk(k:Int)(L:List Chg):List (Value × PV):=L.map fun c=>(iW k (crM c),.agg [aN c.1,aN c.2])
abbrev iZ:=aCk 0
def kL(R A B:List (List Cel))(q:Nat):St:=⟨fr 132 [(3,(.ptr 0 0)),(4,(.ptr 1 0)),(5,(.ptr 2 0)),(6,(.ptr 3 0)),(30,(.p (.agg [(aB 0),(.sl R.length (R.map aN)),(aB 0),(.sl A.length (A.map aN)),(aB 0),(.sl B.length (B.map aN))]))),(31,(pI (q:Int)))],[some (.box 26 [(pI 0),(.p (.sl R.length (R.map aN)))]),some (.box 26 [(pI 0),(.p (.sl A.length (A.map aN)))]),some (.box 26 [(pI 0),(.p (.sl B.length (B.map aN)))]),some (.box 26 [(pI 0),(.p bK)])]⟩
def qV(R A B:List (List Cel))(i:Nat)(me:List (Value × PV))(mk:Nat):St:=⟨fr 132 [(3,(.ptr 0 0)),(5,(.ptr 1 0)),(6,(.ptr 2 0)),(12,(pI 0)),(14,(pI 1)),(15,(.mp 3)),(16,(.p (.sl ((dfM 0 R A).length) (((dfM 0 R A).map chE).flatten)))),(65,(.p (.sl ((dfM 0 R A).length) (((dfM 0 R A).map chE).flatten)))),(66,(pI ((dfM 0 R A).length:Int))),(67,(pI (i:Int)))],[some (.box 26 [(pI 0),(.p (.sl R.length (R.map aN)))]),some (.box 26 [(pI 0),(.p (.sl B.length (B.map aN)))]),some (.box 26 [(pI 0),(.p bK)]),some (.mp me mk)]⟩
def mM(R B:List (List Cel))(Dr:List (List Cel × List Cel))(j xn:Nat)(xc:List PV):St:=⟨fr 132 [(3,(.ptr 0 0)),(6,(.ptr 1 0)),(12,(pI 0)),(14,(pI 1)),(15,(.mp 2)),(19,(.own 3)),(80,(.p (.sl ((dfM 0 R B).length) (((dfM 0 R B).map chE).flatten)))),(81,(pI ((dfM 0 R B).length:Int))),(82,(pI (j:Int)))],[some (.box 26 [(pI 0),(.p (.sl R.length (R.map aN)))]),some (.box 26 [(pI 0),(.p bK)]),some (.mp (iZ Dr) Dr.length),some (.row 68 xn xc)]⟩
theorem bZy{R A B:List (List Cel)}{Hk Rw:Nat}{Dr:List (List Cel × List Cel)}{Rx:Nat}{K1:Lqq}(hl0:aF Tp 0 aLh (kL R A B 0) (.exit 0) (kL R A B Hk))(L9:fZ 0 R)(I9:fZ 0 A)(J5:(dfL 0 R A).length≤12)(J7:1≤(dfL 0 R A).length)(C3:aF Tp 0 bJh (qV R A B 0 [] 0) (.exit 2) (qV R A B Rw (iZ Dr) Dr.length))(Ry:fZ 0 B)(Rz:(dfL 0 R B).length≤12)(R3:1≤(dfL 0 R B).length)(K4:aF Tp 0 aTf (mM R B Dr 0 0 []) (.exit 4) (mM R B Dr Rx K1.length ((K1.map ixE).flatten)))(A9:(0:Int)<(K1.length:Int)):FMM Tp 20 [(.p (.agg [(aB 0),(.sl R.length (R.map aN))])),(.p (.agg [(aB 0),(.sl A.length (A.map aN))])),(.p (.agg [(aB 0),(.sl B.length (B.map aN))]))] [] (.tup [(.p (.agg [(aB 0),bK])),(.p (.sl K1.length ((K1.map ixE).flatten))),(pI 0)]) []:=have k1:=fk 5 (FV.frz (aQh L9 I9 J5 J7) rfl) rfl;have k2:=fk 4 (FV.frz (aQh L9 Ry Rz R3) rfl) rfl;FMM.fi 0 ⟨[],[],[3],[]⟩ func20 ([hl0.k 6 (gI ar co)]++rF 7++[.c (.tup [(.p (.sl 3 [(aB 0),(aB 1),(aB 0)])),(pI 1)]) [],k1.o,C3.k 4 (gI ae [0,2,3,4]),k2.o,K4.k 1 (gN af [0,2,3,4] [(19,68)]),bT]) (gc (cN A9) (gc K4.code (gc k2 (gc C3.code (gc k1 (gt (FC Tp 103 [(pI 0)] [] 4 (.tup [(.p (.sl 3 [(aB 0),(aB 1),(aB 0)])),(pI 1)]) []) (FV.fc (bHz rfl) rfl) (I1 aTg (gc hl0.code gn))))))))
theorem bBh{R A B:List (List Cel)}(Ar:q=0)(E7:dZ 0 R=0)(D8:q'=1):aA Tp 0 aLh (kL R A B q) .normal (kL R A B q'):=by
 subst Ar;subst D8;exact aA.fi (gI ar co) [bT,.c (pI 0) [],bF] (gt (inR 1) (by show _∧_;omega) (gc aTg (gc (fk 5 (aHm 0 R E7) rfl) (gt (0+2≤[(aB 0),(.sl R.length (R.map aN)),(aB 0),(.sl A.length (A.map aN)),(aB 0),(.sl B.length (B.map aN))].length) (by first | decide | simp) (gt (0≤(0:Int)∧(0:Int)<3) (by first | decide | simp) (gt ((decide ((0:Int)<3))=true) (by first | decide | simp) gn))))))
theorem bBi{R A B:List (List Cel)}(Ar:q=1)(E7:dZ 0 A=0)(D8:q'=2):aA Tp 0 aLh (kL R A B q) .normal (kL R A B q'):=by
 subst Ar;subst D8;exact aA.fi (gI ar co) [bT,.c (pI 0) [],bF] (gt (inR 2) (by show _∧_;omega) (gc aTg (gc (fk 5 (aHm 0 A E7) rfl) (gt (2+2≤[(aB 0),(.sl R.length (R.map aN)),(aB 0),(.sl A.length (A.map aN)),(aB 0),(.sl B.length (B.map aN))].length) (by first | decide | simp) (gt (0≤(1:Int)∧(1:Int)<3) (by first | decide | simp) (gt ((decide ((1:Int)<3))=true) (by first | decide | simp) gn))))))
theorem bBj{R A B:List (List Cel)}(Ar:q=2)(E7:dZ 0 B=0)(D8:q'=3):aA Tp 0 aLh (kL R A B q) .normal (kL R A B q'):=by
 subst Ar;subst D8;exact aA.fi (gI ar co) [bT,.c (pI 0) [],bF] (gt (inR 3) (by show _∧_;omega) (gc aTg (gc (fk 5 (aHm 0 B E7) rfl) (gt (4+2≤[(aB 0),(.sl R.length (R.map aN)),(aB 0),(.sl A.length (A.map aN)),(aB 0),(.sl B.length (B.map aN))].length) (by first | decide | simp) (gt (0≤(2:Int)∧(2:Int)<3) (by first | decide | simp) (gt ((decide ((2:Int)<3))=true) (by first | decide | simp) gn))))))
theorem bBk{R A B:List (List Cel)}(Ar:q=3)(D8:q'=3):aA Tp 0 aLh (kL R A B q) (.exit 0) (kL R A B q'):=by
 subst Ar;subst D8;exact aA.fi (gI ar co) [bF] (gt ((decide ((3:Int)<3))=false) (by first | decide | simp) gn)
theorem bBl{R A B:List (List Cel)}{m:List (List Cel × List Cel)}{Az A0:List Cel}{i':Nat}{m':List (List Cel × List Cel)}(h0:(i:Int)<((dfM 0 R A).length:Int))(h1:(dfM 0 R A)[i]? = some (Az,A0))(h2:aM (0:Int)≤((crM (Az,A0)).length:Int))(h3:eO Tp 186 (iZ m) (k3V (aK 0 (crM (Az,A0)) 0) (aK 0 (crM (Az,A0)) 1) (aK 0 (crM (Az,A0)) 2)))(h4:(iB (iZ m) (k3V (aK 0 (crM (Az,A0)) 0) (aK 0 (crM (Az,A0)) 1) (aK 0 (crM (Az,A0)) 2)))=false)(h5:cp i)(Ai:i'=(i+1))(E2:iZ m'=((iZ m)++[((k3V (aK 0 (crM (Az,A0)) 0) (aK 0 (crM (Az,A0)) 1) (aK 0 (crM (Az,A0)) 2)),(.agg [(.sl Az.length ((Az.map cE).flatten)),(.sl A0.length ((A0.map cE).flatten))]))]))(E3:m'.length=(m.length+1)):aA Tp 0 bJh (qV R A B i (iZ m) m.length) .normal (qV R A B i' (iZ m') m'.length):=by
 subst Ai;have k1:=fk 5 (mQ (Az,A0).1 (Az,A0).2) rfl;have k2:=fk 13 (eJ 0 (crM (Az,A0)) h2) rfl;rw [E2,E3];exact aA.fi (gI ae co) [bT,.x (.agg [(.sl Az.length ((Az.map cE).flatten)),(.sl A0.length ((A0.map cE).flatten))]),k1.o,k2.o,bF] (gc h5 (gc h4 (gc h3 (gc k2 (gc k1 (gc (bG (E:=chE) (i:=i) (k:=2) (fun _=>rfl) h1 rfl) (gc (cC (E:=chE) (i:=i) (k:=2) (fun _=>rfl) h1) (gc (bB (E:=chE) (k:=2) (i:=(i:Int)) (fun _=>rfl) (by decide) (Bt _) h1) (g0 h0)))))))))
theorem bBm{R A B:List (List Cel)}{m:List (List Cel × List Cel)}(h0:((dfM 0 R A).length:Int)≤(i:Int)):aA Tp 0 bJh (qV R A B i (iZ m) m.length) (.exit 2) (qV R A B i (iZ m) m.length):=aA.fi (gI ae co) [bF] (gc (bH h0) gn)
section
variable{R B:List (List Cel)}{Dr:List (List Cel × List Cel)}{Au Ao:List Cel}{B3:Chg}(h0:(j:Int)<((dfM 0 R B).length:Int))(h1:(dfM 0 R B)[j]? = some (Au,Ao))(h2:aM (0:Int)≤((crM (Au,Ao)).length:Int))(h3:eO Tp 186 (iZ Dr) (k3V (aK 0 (crM (Au,Ao)) 0) (aK 0 (crM (Au,Ao)) 1) (aK 0 (crM (Au,Ao)) 2)))(h4:(iB (iZ Dr) (k3V (aK 0 (crM (Au,Ao)) 0) (aK 0 (crM (Au,Ao)) 1) (aK 0 (crM (Au,Ao)) 2)))=true)(h5:gV (iZ Dr) (k3V (aK 0 (crM (Au,Ao)) 0) (aK 0 (crM (Au,Ao)) 1) (aK 0 (crM (Au,Ao)) 2))=some (.agg [(.sl B3.1.length ((B3.1.map cE).flatten)),(.sl B3.2.length ((B3.2.map cE).flatten))]))(Gu:B3.2.length≤100000)
include h0 h1 h2 h3 h4 h5 Gu
theorem bBn{x':Lqq}(h7:(decide (B3.2=Ao))=false)(h8:[(PV.sl 1 [(aB (aK 0 (crM (Au,Ao)) 0))])].length=1*1∧x.length+1≤1000000)(h9:cp j)(Bz:j'=(j+1))(N0:x'.length=(x.length+1))(N1:(x'.map ixE).flatten=(((x.map ixE).flatten)++[(PV.sl 1 [(aB (aK 0 (crM (Au,Ao)) 0))])])):aA Tp 0 aTf (mM R B Dr j x.length ((x.map ixE).flatten)) .normal (mM R B Dr j' x'.length ((x'.map ixE).flatten)):=by
 subst Bz;have k1:=fk 5 (mQ (Au,Ao).1 (Au,Ao).2) rfl;have k2:=fk 5 (eJ 0 (crM (Au,Ao)) h2) rfl;have k3:=fk 7 (qC B3.2 Ao Gu) rfl;have k4:=mq [5] 7 (bZz (aK 0 (crM (Au,Ao)) 0) (aK 0 (crM (Au,Ao)) 1) (aK 0 (crM (Au,Ao)) 2));rw [N0,N1];exact aA.fi (gI af [0,1,2,8]) [bT,.x (.agg [(.sl Au.length ((Au.map cE).flatten)),(.sl Ao.length ((Ao.map cE).flatten))]),k1.o,k2.o,bT,.x (.agg [(.sl B3.1.length ((B3.1.map cE).flatten)),(.sl B3.2.length ((B3.2.map cE).flatten))]),k3.o,bT,k4.o] (gc h9 (gc h8 (gc k4 (gt (0≤(0:Int)∧(0:Int)≤1∧(1:Int)≤3∧3≤maxLen) (by unfold maxLen;omega) (gc (dB h7) (gc k3 (gc h5 (gc h4 (gc h3 (gc k2 (gc k1 (gc (bG (E:=chE) (i:=j) (k:=2) (fun _=>rfl) h1 rfl) (gc (cC (E:=chE) (i:=j) (k:=2) (fun _=>rfl) h1) (gc (bB (E:=chE) (k:=2) (i:=(j:Int)) (fun _=>rfl) (by decide) (Bt _) h1) (g0 h0)))))))))))))))
theorem bBo(h7:(decide (B3.2=Ao))=true)(h8:cp j)(Bz:j'=(j+1)):aA Tp 0 aTf (mM R B Dr j x.length ((x.map ixE).flatten)) .normal (mM R B Dr j' x.length ((x.map ixE).flatten)):=by
 subst Bz;have k1:=fk 5 (mQ (Au,Ao).1 (Au,Ao).2) rfl;have k2:=fk 5 (eJ 0 (crM (Au,Ao)) h2) rfl;have k3:=fk 7 (qC B3.2 Ao Gu) rfl;exact aA.fi (gI af co) [bT,.x (.agg [(.sl Au.length ((Au.map cE).flatten)),(.sl Ao.length ((Ao.map cE).flatten))]),k1.o,k2.o,bT,.x (.agg [(.sl B3.1.length ((B3.1.map cE).flatten)),(.sl B3.2.length ((B3.2.map cE).flatten))]),k3.o,bF] (gc h8 (gc (aW h7) (gc k3 (gc h5 (gc h4 (gc h3 (gc k2 (gc k1 (gc (bG (E:=chE) (i:=j) (k:=2) (fun _=>rfl) h1 rfl) (gc (cC (E:=chE) (i:=j) (k:=2) (fun _=>rfl) h1) (gc (bB (E:=chE) (k:=2) (i:=(j:Int)) (fun _=>rfl) (by decide) (Bt _) h1) (g0 h0))))))))))))
end
theorem bBp{R B:List (List Cel)}{Dr:List (List Cel × List Cel)}(h0:((dfM 0 R B).length:Int)≤(j:Int)):aA Tp 0 aTf (mM R B Dr j x.length ((x.map ixE).flatten)) (.exit 4) (mM R B Dr j x.length ((x.map ixE).flatten)):=aA.fi (gI af co) [bF] (gc (bH h0) gn)
end
end KV
end Go.Proofs
section
namespace Go.Proofs
open Go.RowKit
namespace KV
open Tryz
set_option maxRecDepth 1000000
def sH(k:Int)(L:List Chg)(r:List Cel):Option Chg:=L.find? fun c=>decide (Av k (crM c)=Av k r)
theorem bJf(k:Int)(L:List Chg)(r:List Cel):iB (aCk k L) (iW k r)=(sH k L r).isSome:=by
 unfold iB aCk sH;rw [List.any_map,Bool.eq_iff_iff,List.find?_isSome,List.any_eq_true];rfl
theorem bOw(k:Int)(L:List Chg)(r:List Cel):gV (aCk k L) (iW k r)=(sH k L r).map fun c => .agg [aN c.1,aN c.2]:=by
 unfold gV aCk sH;rw [List.find?_map];have e:((fun e:Value × PV=>decide (kG e.1=kG (iW k r))) ∘ fun c:Chg=>(iW k (crM c),PV.agg [aN c.1,aN c.2]))=fun c=>decide (Av k (crM c)=Av k r):=rfl
 rw [e];cases List.find? (fun c:Chg=>decide (Av k (crM c)=Av k r)) L <;> rfl
structure aTd (k:Int) (L:List Chg):Prop where
 n:L.length≤400
 kk:∀ x∈L,aM k≤((crM x).length:Int)
 ky:∀ x∈L,kQ k (crM x)
 nd:(L.map fun c=>Av k (crM c)).Nodup
 len:∀ x∈L,x.2.length≤1000
theorem aTe{k:Int}{L:List Chg}{r:List Cel}(h:∀ x∈L,kQ k (crM x))(hn:(L.map fun c=>Av k (crM c)).Nodup)(hr:kQ k r):eO Tp 186 (aCk k L) (iW k r):=by
 refine ⟨Ed,fun e he => ?_,lA hr,fun e he h => ?_,?_⟩
 ·obtain ⟨x,hx,rfl⟩:=rX.1 he
  exact lA (h x hx)
 ·obtain ⟨x,hx,rfl⟩:=rX.1 he
  exact aHs h
 ·unfold aCk
  rw [aAk];exact hn
def G2(L:List Chg)(c:Chg):Option (List Int):=match sH 0 L (crM c) with
 | some o=>if o.2=c.2 then none else some [aK 0 (crM c) 0]
 | none=>none
theorem bJg(L:Lqq)(x:List Int):((L++[x]).map ixE).flatten=(L.map ixE).flatten++[bD x]:=by simp [ixE]
theorem bZx{R A B:List (List Cel)}(cR:dZ 0 R=0)(cA:dZ 0 A=0)(cB:dZ 0 B=0)(hR:fZ 0 R)(hA:fZ 0 A)(hB:fZ 0 B)(Ru:(dfL 0 R A).length≤12)(a1:1≤(dfL 0 R A).length)(Rv:(dfL 0 R B).length≤12)(b1:1≤(dfL 0 R B).length)
  (hF:aTd 0 (dfM 0 R A)) (hG:aTd 0 (dfM 0 R B)) (hm:∀ c∈dfM 0 R B,(sH 0 (dfM 0 R A) (crM c)).isSome=true) (h1:0<((dfM 0 R B).filterMap (G2 (dfM 0 R A))).length) :
  FMM Tp 20 [.p (.agg [aB 0,bZ R]),.p (.agg [aB 0,bZ A]),.p (.agg [aB 0,bZ B])] [] (.tup [.p (.agg [aB 0,bK]),.p (.sl ((dfM 0 R B).filterMap (G2 (dfM 0 R A))).length ((((dfM 0 R B).filterMap (G2 (dfM 0 R A))).map ixE).flatten)),.p (aB 0)]) []:=by
 have hFn:=hF.n;have hGn:=hG.n;have L0:aF Tp 0 (sub (cd Tryz.f20) c8) (kL R A B 0) (.exit 0) (kL R A B 3) := .step (bBh rfl cR rfl) (.step (bBi rfl cA rfl) (.step (bBj rfl cB rfl) (.exit (bBk rfl rfl) (by simp))))
 have L1:=aF.count (P:=Tp) (k:=0) (b:=(sub (cd Tryz.f20) bb)) (e := .exit 2) (R:=qV R A B (dfM 0 R A).length (iZ (dfM 0 R A)) (dfM 0 R A).length) (dfM 0 R A).length
  (fun i=>qV R A B i (iZ ((dfM 0 R A).take i)) ((dfM 0 R A).take i).length)
  (fun i hi=>by
   have hx:(dfM 0 R A)[i]? = some (dfM 0 R A)[i]:=Bw hi;have et:(dfM 0 R A).take (i+1)=(dfM 0 R A).take i++[(dfM 0 R A)[i]]:=by rw [List.take_add_one,hx];rfl
   have hc:=iC hi;have hnt:(((dfM 0 R A).take i).map fun c=>Av 0 (crM c)).Nodup:=by rw [List.map_take];exact hF.nd.sublist (List.take_sublist i _)
   have hno:sH 0 ((dfM 0 R A).take i) (crM (dfM 0 R A)[i])=none:=by
    unfold sH;rw [List.find?_eq_none];intro y hy hd;obtain ⟨j,hj,e⟩:=List.mem_iff_getElem.1 hy;rw [pF] at hj
    rw [List.getElem_take] at e
    have hd:=of_decide_eq_true hd;rw [← e] at hd
    have:=List.pairwise_iff_getElem.1 hF.nd j i (by rw [kI];omega) (by rw [kI];omega) (by omega)
    rw [gL,gL] at this
    exact this hd
   have hK:=aTe (r:=crM (dfM 0 R A)[i]) (fun x hx=>hF.ky x (List.mem_of_mem_take hx)) hnt (hF.ky _ hc)
   have hhit:=bJf 0 ((dfM 0 R A).take i) (crM (dfM 0 R A)[i]);rw [hno] at hhit
   exact bBl (Az:=(dfM 0 R A)[i].1) (A0:=(dfM 0 R A)[i].2) (m:=(dfM 0 R A).take i) (m':=(dfM 0 R A).take (i+1)) (by omega) hx (hF.kk _ hc) hK hhit (aR (by omega)) rfl (by rw [et];show aCk 0 _=aCk 0 _++_;unfold aCk;rw [rW];rfl) (by simp;omega))
  (by rw [List.take_length];exact bBm (by omega)) (by simp)
 have L2:=aF.count (P:=Tp) (k:=0) (b:=(sub (cd Tryz.f20) [1,1,1,1,1,1,1,1,0,1,0,0])) (e := .exit 4) (R:=mM R B (dfM 0 R A) (dfM 0 R B).length ((dfM 0 R B).filterMap (G2 (dfM 0 R A))).length ((((dfM 0 R B).filterMap (G2 (dfM 0 R A))).map ixE).flatten)) (dfM 0 R B).length
  (fun j=>mM R B (dfM 0 R A) j (((dfM 0 R B).take j).filterMap (G2 (dfM 0 R A))).length (((((dfM 0 R B).take j).filterMap (G2 (dfM 0 R A))).map ixE).flatten))
  (fun j hj=>by
   have hx:(dfM 0 R B)[j]? = some (dfM 0 R B)[j]:=Bw hj;have hc:=iC hj;have hfl:=aBr (G2 (dfM 0 R A)) (dfM 0 R B) j;rw [vF (G2 (dfM 0 R A)) hx];have hmt:=hm _ hc;have kk:=hG.kk _ hc;have ky:=hG.ky _ hc;generalize (dfM 0 R B)[j]=c at hx hc hmt kk ky
   have hK:=aTe (r:=crM c) hF.ky hF.nd ky;have hhit:=bJf 0 (dfM 0 R A) (crM c);have hlook:=bOw 0 (dfM 0 R A) (crM c);have hfx:G2 (dfM 0 R A) c=match sH 0 (dfM 0 R A) (crM c) with | some o=>if o.2=c.2 then none else some [aK 0 (crM c) 0] | none=>none:=rfl
   rw [hfx];generalize ((dfM 0 R B).take j).filterMap (G2 (dfM 0 R A))=x at hfl
   cases hlk:sH 0 (dfM 0 R A) (crM c) with
   | none=>rw [hlk] at hmt;cases hmt
   | some o =>
    rw [hlk] at hhit hlook
    have ho:=hF.len o (bMb hlk);dsimp only
    by_cases he:o.2=c.2
    ·rw [if_pos he,Option.toList_none,List.append_nil]
     exact bBo (Au:=c.1) (Ao:=c.2) (by omega) hx kk hK hhit hlook (by omega) (by simp [he]) (aR (by omega)) rfl
    ·rw [if_neg he]
     exact bBn (Au:=c.1) (Ao:=c.2) (x':=x++[[aK 0 (crM c) 0]]) (by omega) hx kk hK hhit hlook (by omega) (by simp [he]) ⟨rfl,by omega⟩ (aR (by omega)) rfl (by simp) (bJg x _))
  (by rw [List.take_length];exact bBp (by omega)) (by simp)
 exact bZy L0 hR hA Ru a1 L1 hB Rv b1 L2 (by omega)
end KV
end Go.Proofs
end
namespace Go.Proofs
namespace KV
open Tryz
section
variable {z Jm:Int}{i n rn L8 L6 pos base:Nat}{g:PV}

noncomputable abbrev aSy:Code:=pS (cd Tryz.f165) 6 [0,1,0,0]
noncomputable abbrev aSz:Code:=sub (cd Tryz.f165) [1,1,1,0,1,0,0,1,1]
noncomputable abbrev bRw:Code:=sub (cd Tryz.f165) [1,1,1,0]
theorem bRx:0≤(0:Int)∧(0:Int)≤32∧(32:Int)≤1000000:=by first | decide | simp
theorem bZq{cs:List UInt8}{r:Nat}{r0:Bool}(h0:r<128)(Al:r0=(aBl cs r)):FV Tp 164 [(.p (aD cs)),(.p (.v (.int .i32 (r:Int))))] base (pB r0) []:=by
 subst Al;exact FV.fi func164 [.c (pB (aBl cs r)) []] (gc (fk 0 (bZt cs r h0) rfl) gn)
theorem aHk(cs:List UInt8)(r:Nat)(h:r<128){v:Bool}(hv:aBl cs r=v){base:Nat}:FV Tp 164 [.p (aD cs),.p (.v (.int .i32 (r:Int)))] base (pB v) []:=bZq (r0:=v) h hv.symm
def spE(x:Int × Int):List PV:=[aB x.1,aB x.2]
def tJ(s cs:List UInt8)(pn:Nat)(pc:List PV)(z:Int):St:=⟨fr 65 [(0,(.p (aD s))),(1,(.fn 164 [(.p (aD cs))] [])),(4,(.p bK)),(5,(.own 0)),(6,(pI z))],[some (.row 302 pn pc)]⟩
def mK(s:List UInt8)(n i qn:Nat)(qc:List PV)(rn:Nat)(rc:List PV):St:=⟨fr 65 [(0,(.p (aD s))),(4,(.p bK)),(9,(.own 1)),(47,(.own 0)),(48,(pI (n:Int))),(49,(pI (i:Int)))],[some (.row 302 qn qc),some (.row 9 rn rc)]⟩
section
variable{s cs:List UInt8}{Dw:List (Int × Int)}(hl0:aA Tp 0 bRw (tJ s cs 0 [] (-1)) .normal (tJ s cs Dw.length ((Dw.map spE).flatten) Jm))
include hl0
theorem bZr{Jl:List (Int × Int)}{Hp:List (List UInt8)}(h1:(0:Int)≤Jm)(h2:[(aB Jm),(aB (s.length:Int))].length=1*2∧Dw.length+1≤1000000)(h3:0≤(((Dw.length+1):Nat):Int)∧(((Dw.length+1):Nat):Int)≤(((Dw.length+1):Nat):Int)∧(((Dw.length+1):Nat):Int)≤1000000)(Fe:aF Tp 0 aSy (mK s (Dw.length+1) 0 (Dw.length+1) (((Dw.map spE).flatten)++[(aB Jm),(aB (s.length:Int))]) (Dw.length+1) (List.replicate (Dw.length+1) (aD ([]:List UInt8)))) (.exit 2) (mK s L6 L8 Jl.length ((Jl.map spE).flatten) Hp.length ((Hp.map stE).flatten))):FV Tp 165 [(.p (aD s)),(.fn 164 [(.p (aD cs))] [])] base (.own base) [(base,(.row 9 Hp.length ((Hp.map stE).flatten)))]:=FV.fi func165 [hl0.k 7 (gI [2,2,7,2,12,23] [0]),bT,Fe.k 7 (gI bc [2,3])] (gc Fe.code (gc h3 (gc h2 (gt ([(aB Jm),(aB (s.length:Int))].length=2) (by first | decide | simp) (gc (mR h1) (gc hl0 (gc bRx gn)))))))
theorem bZs{Jl:List (Int × Int)}{Hp:List (List UInt8)}(h1:Jm<(0:Int))(h2:0≤(Dw.length:Int)∧(Dw.length:Int)≤(Dw.length:Int)∧(Dw.length:Int)≤1000000)(Em:aF Tp 0 aSy (mK s Dw.length 0 Dw.length ((Dw.map spE).flatten) Dw.length (List.replicate Dw.length (aD ([]:List UInt8)))) (.exit 2) (mK s L6 L8 Jl.length ((Jl.map spE).flatten) Hp.length ((Hp.map stE).flatten))):FV Tp 165 [(.p (aD s)),(.fn 164 [(.p (aD cs))] [])] base (.own base) [(base,(.row 9 Hp.length ((Hp.map stE).flatten)))]:=FV.fi func165 [hl0.k 7 (gI [2,2,7,2,12,23] [0]),bF,Em.k 6 (gI bc [0,1])] (gc Em.code (gc h2 (gc (eL h1) (gc hl0 (gc bRx gn)))))
end
theorem bAy{s:List UInt8}{q:List (Int × Int)}{r:List (List UInt8)}{Bm Bi:Int}{i':Nat}{r':List (List UInt8)}(h0:(i:Int)<(n:Int))(h1:0≤(i:Int)∧(i:Int)<(q.length:Int))(h2:q[i]? = some (Bm,Bi))(h3:0≤Bm∧Bm≤Bi∧Bi≤(s.length:Int))(h4:0≤(i:Int)∧(i:Int)<(r.length:Int))(h5:(i*1)<((r.map stE).flatten).length)(h6:cp i)(Ai:i'=(i+1))(Dh:r'.length=r.length)(Di:(r'.map stE).flatten=(((r.map stE).flatten).set (i*1) (aD ((s.drop Bm.toNat).take (Bi.toNat-Bm.toNat))))):aA Tp 0 aSy (mK s n i q.length ((q.map spE).flatten) r.length ((r.map stE).flatten)) .normal (mK s n i' q.length ((q.map spE).flatten) r'.length ((r'.map stE).flatten)):=by
 subst Ai;rw [Dh,Di];exact aA.fi (gI bc [0,1]) [bT,.x (.agg [(aB Bm),(aB Bi)])] (gc h6 (gc h5 (gc h4 (gc h3 (gc (bG (E:=spE) (i:=i) (k:=2) (fun _=>rfl) h2 rfl) (gc (cC (E:=spE) (i:=i) (k:=2) (fun _=>rfl) h2) (gc h1 (g0 h0))))))))
theorem bAz{s:List UInt8}{q:List (Int × Int)}{r:List (List UInt8)}(h0:(n:Int)≤(i:Int)):aA Tp 0 aSy (mK s n i q.length ((q.map spE).flatten) r.length ((r.map stE).flatten)) (.exit 2) (mK s n i q.length ((q.map spE).flatten) r.length ((r.map stE).flatten)):=aA.fi (gI bc [0,1]) [bF] (gc (bH h0) gn)
def mL(s cs:List UInt8)(g:PV)(pos rn pn:Nat)(pc:List PV)(z:Int):St:=⟨fr 65 [(0,(.p (aD s))),(1,(.fn 164 [(.p (aD cs))] [])),(4,(.p bK)),(5,(.own 0)),(6,(pI z)),(14,(.p g)),(15,(.tup [(pB true),(pI (pos:Int)),(.p (.v (.int .i32 (rn:Int))))])),(16,(pB true))],[some (.row 302 pn pc)]⟩
def bJb(s cs:List UInt8)(g:PV)(pos rn:Nat)(p:List (Int × Int))(z y:Int):St:=⟨fr 65 [(0,(.p (aD s))),(1,(.fn 164 [(.p (aD cs))] [])),(4,(.p bK)),(5,(.own 2)),(6,(pI y)),(7,(pI (pos:Int))),(8,(.p (.v (.int .i32 (rn:Int))))),(14,(.p g)),(15,(.tup [(pB true),(pI (pos:Int)),(.p (.v (.int .i32 (rn:Int))))])),(16,(pB true)),(17,(pI (pos:Int))),(18,(.p (.v (.int .i32 (rn:Int))))),(19,(.fn 164 [(.p (aD cs))] [])),(20,(.p (.v (.int .i32 (rn:Int))))),(21,(pB true)),(22,(pI z)),(23,(pB (decide (z ≥ 0)))),(24,(.own 0)),(25,(pI z)),(26,(pI (pos:Int))),(27,(.p (.agg [(aB z),(aB (pos:Int))]))),(28,(.own 1)),(29,(.own 2))],[some .dead,some (.row 302 1 [(aB z),(aB (pos:Int))]),some (.row 302 (p.length+1) (((p.map spE).flatten)++[(aB z),(aB (pos:Int))]))]⟩
theorem bBa{s cs:List UInt8}{p:List (Int × Int)}{Iu:Int}{p':List (Int × Int)}(h0:rn<128)(Cy:aBl cs rn=true)(h2:(0:Int)≤z)(h3:[(aB z),(aB (pos:Int))].length=1*2∧p.length+1≤1000000)(Fe:aA Tp 0 (sub (cd Tryz.f165) [1,1,1,0,1,0,0,1,1,0,1,1,0,1,0,1]) (bJb s cs g pos rn p z z) .normal (bJb s cs g pos rn p z Iu))(Ny:p'.length=(p.length+1))(Nz:(p'.map spE).flatten=(((p.map spE).flatten)++[(aB z),(aB (pos:Int))])):aA Tp 0 aSz (mL s cs g pos rn p.length ((p.map spE).flatten) z) .normal (mL s cs g pos rn p'.length ((p'.map spE).flatten) Iu):=by
 rw [Ny,Nz];exact aA.fi (gI bi [2]) [.c (pB true) [],bT,bT,Fe.k 2 ⟨[2,3,12,13,30,31],[0,1,2],[],[]⟩] (gc Fe (gc h3 (gt ([(aB z),(aB (pos:Int))].length=2) (by first | decide | simp) (gc (mR h2) (gt (true=true) rfl (gc (fk 1 (aHk cs rn h0 Cy) rfl) gn))))))
theorem bBb{s cs:List UInt8}{p:List (Int × Int)}(h0:rn<128)(Cy:aBl cs rn=true)(h2:z<0):aA Tp 0 aSz (mL s cs g pos rn p.length ((p.map spE).flatten) z) .normal (mL s cs g pos rn p.length ((p.map spE).flatten) z):=aA.fi (gI bi [0]) [.c (pB true) [],bT,bF] (gc (eL h2) (gt (true=true) rfl (gc (fk 1 (aHk cs rn h0 Cy) rfl) gn)))
theorem bBc{s cs:List UInt8}{p:List (Int × Int)}{z':Int}(h0:rn<128)(Cy:aBl cs rn=false)(h2:z<0)(Kq:z'=(pos:Int)):aA Tp 0 aSz (mL s cs g pos rn p.length ((p.map spE).flatten) z) .normal (mL s cs g pos rn p.length ((p.map spE).flatten) z'):=by
 subst Kq;exact aA.fi (gI bi [0]) [.c (pB false) [],bF,bT] (gc (cN h2) (gf (gc (fk 1 (aHk cs rn h0 Cy) rfl) gn)))
theorem bBd{s cs:List UInt8}{p:List (Int × Int)}(h0:rn<128)(Cy:aBl cs rn=false)(h2:(0:Int)≤z):aA Tp 0 aSz (mL s cs g pos rn p.length ((p.map spE).flatten) z) .normal (mL s cs g pos rn p.length ((p.map spE).flatten) z):=aA.fi (gI bi [0]) [.c (pB false) [],bF,bF] (gc (bH h2) (gf (gc (fk 1 (aHk cs rn h0 Cy) rfl) gn)))
end
end KV
end Go.Proofs
section
namespace Go.Proofs
open Go.RowKit
namespace KV
open Tryz
theorem aSx{α β:Type}{Inv:Nat→β→Prop}{f:β→α→β}{b0:β}{L:List α}(h0:Inv 0 b0)(hs:∀ (i:Nat) (x:α) (b:β),L[i]? = some x→Inv i b→Inv (i+1) (f b x)):∀ n,n≤L.length→Inv n ((L.take n).foldl f b0)
 | 0,_=>h0
 | n+1,h=>by
  have hx:L[n]? = some L[n]:=Bw (by omega)
  rw [List.take_add_one,hx,List.foldl_append];exact hs n _ _ hx (aSx h0 hs n (by omega))
abbrev FSt:=List (Int × Int) × Int
def lK(cs:List UInt8)(x:FSt)(q:Nat × Nat):FSt:=if aBl cs q.2 then (if 0≤x.2 then (x.1++[(x.2,(q.1:Int))],-1-x.2) else x) else (if x.2<0 then (x.1,(q.1:Int)) else x)
def aHi:FSt:=([],-1)
def bIy(s:List UInt8)(x:FSt):List (Int × Int):=if 0≤x.2 then x.1++[(x.2,(s.length:Int))] else x.1
def bZo(cs s:List UInt8):List (Int × Int):=bIy s ((gH 0 s).foldl (lK cs) aHi)
def aBk(s:List UInt8)(x:Int × Int):List UInt8:=(s.drop x.1.toNat).take (x.2.toNat-x.1.toNat)
def aLf(cs s:List UInt8):List (List UInt8):=(bZo cs s).map (aBk s)
theorem wJ:∀ (l:List UInt8) (j i:Nat) (x:Nat × Nat),(gH j l)[i]? = some x→x.1=j+i∧i<l.length∧∃ b∈l,x.2=b.toNat
 | [],_,_,_,h=>by cases h
 | b::r,j,0,x,h=>by
  cases h;exact ⟨rfl,by simp,b,by simp,rfl⟩
 | b::r,j,i+1,x,h=>by
  obtain ⟨h1,h2,b',h3,h4⟩:=wJ r (j+1) i x h;exact ⟨by omega,by simp;omega,b',by simp [h3],h4⟩
theorem tI:∀ (l:List UInt8) (j:Nat),(gH j l).length=l.length
 | [],_=>rfl
 | _::r,j=>by simp [gH,tI r (j+1)]
structure bZp (N i:Nat) (x:FSt):Prop where
 len:x.1.length≤i
 lo : -1-(i:Int)≤x.2
 hi:x.2<0∨x.2<(i:Int)
 sp:∀ y∈x.1,0≤y.1∧y.1≤y.2∧y.2≤(N:Int)
theorem bIz(cs s:List UInt8)(n:Nat)(hn:n≤(gH 0 s).length):bZp s.length n (((gH 0 s).take n).foldl (lK cs) aHi):=by
 refine aSx (Inv:=bZp s.length) ⟨by simp [aHi],by simp [aHi],by simp [aHi],fun y h=>by cases h⟩ (fun i x b hx hI => ?_) n hn
 obtain ⟨h1,h2,_⟩:=wJ s 0 i x hx;obtain ⟨q1,q2,q3,q4⟩:=hI;rw [iP] at h1
 unfold lK
 split
 ·split
  ·refine ⟨by simp;omega,by show _ ≤ -1-b.2;omega,.inl (by show -1-b.2<0;omega),fun y hy => ?_⟩
   rcases nC.1 hy with hy | hy
   ·exact q4 y hy
   ·rw [List.mem_singleton] at hy
    subst hy;exact ⟨by assumption,by show b.2≤(x.1:Int);omega,by show (x.1:Int)≤_;omega⟩
  ·exact ⟨by omega,by omega,by omega,q4⟩
 ·split
  ·exact ⟨by show b.1.length≤_;omega,by show _≤(x.1:Int);omega,.inr (by show (x.1:Int)<_;omega),q4⟩
  ·exact ⟨by omega,by omega,by omega,q4⟩
def ffG(s cs:List UInt8)(x:FSt)(g:PV):St:=⟨fr 65 [(0,(.p (aD s))),(1,(.fn 164 [(.p (aD cs))] [])),(4,(.p bK)),(5,(.own 0)),(6,(.p (aB x.2))),(14,(.p g))],[some (.row 302 x.1.length ((x.1.map spE).flatten))]⟩
abbrev ffS(s cs:List UInt8)(x:FSt):St:=tJ s cs x.1.length ((x.1.map spE).flatten) x.2
theorem bJa(s cs:List UInt8)(hs:s.length≤90000)(x:FSt)(g:PV)(q:Nat × Nat)(i:Nat)(hI:bZp s.length i x)(hi:i<s.length)(h1:q.2<128) :
  aA Tp 0 (sub (cd Tryz.f165) [1,1,1,0,1,0,0,1,1]) ⟨nxT (ffG s cs x g).t 15 16 q.1 q.2,(ffG s cs x g).m⟩ .normal (ffG s cs (lK cs x q) g):=by
 obtain ⟨p,z⟩:=x;obtain ⟨pos,rn⟩:=q;obtain ⟨q1,q2,q3,q4⟩:=hI;dsimp only at q1 q2 q3 q4 h1
 refine aA.post (st1:=mL s cs g pos rn (lK cs (p,z) (pos,rn)).1.length (((lK cs (p,z) (pos,rn)).1.map spE).flatten) (lK cs (p,z) (pos,rn)).2) (g:=⟨[15,16],[0],[],[]⟩) (by kernel_rfl) ?_
 show aA Tp 0 _ (mL s cs g pos rn p.length ((p.map spE).flatten) z) .normal _;unfold lK;dsimp only
 by_cases hb:aBl cs rn=true
 ·rw [if_pos hb]
  by_cases hz:0≤z
  ·rw [if_pos hz]
   refine bBa h1 hb hz ⟨rfl, by omega⟩ (bZu (id := 9) (i := 6) (j := 30) (k := 31) (Er := 3) (Eo := 3) (Jk := 3) (p1 := "strings.go:443") (p2 := "strings.go:443") (p3 := "strings.go:443") (q := #[{ on := 1, ground := Ground.data }, { on := 0, ground := Ground.phase }, { on := 1, ground := Ground.phase }]) (v := z) (by kernel_rfl) rfl (by show 30 < 65; omega) (by show 31 < 65; omega) ⟨hz, by omega⟩ rfl rfl) (by simp) (by simp [spE])
  ·rw [if_neg hz]
   exact bBb h1 hb (Int.not_le.1 hz)
 ·rw [if_neg hb]
  have Aq:aBl cs rn=false:=by simpa using hb
  by_cases hz:z<0
  ·rw [if_pos hz]
   exact bBc h1 Aq hz rfl
  ·rw [if_neg hz]
   exact bBd h1 Aq (Int.not_lt.1 hz)
theorem bOu(s cs:List UInt8)(hs:s.length≤90000)(ha:∀ b∈s,b.toNat<128) :
  aA Tp 0 (sub (cd Tryz.f165) [1,1,1,0]) (ffS s cs aHi) .normal (ffS s cs ((gH 0 s).foldl (lK cs) aHi)):=by
 refine bJe (i0 := 0) (m := 13) (O3 := 3) (id := 4) (gi := 14) (d := 15) (c := 16) (Er := 0) (Eo := 4) (Jk := 9) (O4 := 0) (e0 := 0) (p1 := "strings.go:436") (p2 := "strings.go:436") (p3 := "strings.go:436") (p4 := "strings.go:436") (body := sub (cd Tryz.f165) [1, 1, 1, 0, 1, 0, 0, 1, 1]) s (ffS s cs) (ffG s cs) (lK cs) aHi (gH 0 s) (aEv s ha s 0 rfl)
  (by kernel_rfl) (by kernel_rfl) rfl (by show 13<65;omega) (fun g=>rfl) (fun b g=>rfl) (fun b g=>rfl) (fun b g=>rfl) (fun b g=>by show 14<65;omega) (fun b g=>by show 15<65;omega) (fun b g=>by show 16<65;omega) (fun b g=>rfl) (fun b=>(eU (by rfl)).2) (fun pre x g hp => ?_)
 obtain ⟨l,hl⟩:=hp;have hlen:pre.length<(gH 0 s).length:=by rw [← hl];simp
 have hx:(gH 0 s)[pre.length]? = some x:=by rw [← hl];simp
 have ht:(gH 0 s).take pre.length=pre:=by rw [← hl];simp
 obtain ⟨_,h2,b,h3,h4⟩:=wJ s 0 _ x hx;refine bJa s cs hs _ g x pre.length ?_ h2 (by rw [h4];exact ha b h3)
 have:=bIz cs s pre.length (by omega)
 rw [ht] at this
 exact this
theorem aHj(s:List UInt8)(q:List (Int × Int))(hq:∀ y∈q,0≤y.1∧y.1≤y.2∧y.2≤(s.length:Int))(hl:q.length≤100001):∀ (m i:Nat) (r:List (List UInt8)),i+m=q.length→r.length=q.length→r=(q.take i).map (aBk s)++List.replicate m [] →
  aF Tp 0 (sub (cd Tryz.f165) bb) (mK s q.length i q.length ((q.map spE).flatten) r.length ((r.map stE).flatten)) (.exit 2) (mK s q.length q.length q.length ((q.map spE).flatten) (q.map (aBk s)).length (((q.map (aBk s)).map stE).flatten))
 | 0,i,r,hi,hr,he=>by
  have:i=q.length:=by omega
  subst this;rw [List.take_length,List.replicate_zero,List.append_nil] at he
  subst he;exact .exit (bAz (aWa _)) (by simp)
 | m+1,i,r,hi,hr,he=>by
  have hlt:i<q.length:=by omega
  have hx:q[i]? = some q[i]:=Bw hlt;have hm:=hq _ (iC hlt);have hz:(q[i]).1=(q[i]).1:=rfl;obtain ⟨a,z,hay⟩:∃ a z,q[i]=(a,z):=⟨_,_,rfl⟩;rw [hay] at hx hm
  have hnx:r.set i (aBk s (a,z))=(q.take (i+1)).map (aBk s)++List.replicate m []:=by
   have hli:((q.take i).map (aBk s)).length=i:=by simp;omega
   rw [he,List.set_append,if_neg (by omega),hli,aVz,List.take_add_one,hx]
   simp [List.replicate_succ]
  refine .step (bAy (r':=r.set i (aBk s (a,z))) (by omega) (by omega) hx hm (by omega) (by rw [dY];simp;omega) (aR (by omega)) rfl (by simp) (by rw [dY,dY,List.map_set,Nat.mul_one];rfl)) (aHj s q hq hl m (i+1) _ (by omega) (by simpa using hr) hnx)
theorem qU(s cs:List UInt8)(hs:s.length≤90000)(ha:∀ b∈s,b.toNat<128){base:Nat}:FV Tp 165 [.p (aD s),.fn 164 [.p (aD cs)] []] base (.own base) [(base,.row 9 (aLf cs s).length (((aLf cs s).map stE).flatten))]:=by
 have hN:=bOu s cs hs ha;have hI:=bIz cs s (gH 0 s).length (dD _);rw [List.take_length] at hI
 unfold aLf bZo;generalize (gH 0 s).foldl (lK cs) aHi=x at hN hI
 obtain ⟨p,z⟩:=x;rw [tI] at hI
 obtain ⟨q1,q2,q3,q4⟩:=hI;dsimp only at q1 q2 q3 q4
 unfold bIy;dsimp only;have hN:aA Tp 0 (sub (cd Tryz.f165) [1,1,1,0]) (tJ s cs 0 [] (-1:Int)) .normal (tJ s cs p.length ((p.map spE).flatten) z):=hN;have hrep:∀ n:Nat,List.replicate n (aD ([]:List UInt8))=((List.replicate n ([]:List UInt8)).map stE).flatten:=fun n=>by rw [dY];simp
 by_cases hz:0≤z
 ·rw [if_pos hz]
  have hL:=aHj s (p++[(z,(s.length:Int))]) (fun y hy=>by
   rcases nC.1 hy with hy | hy
   ·exact q4 y hy
   ·rw [List.mem_singleton] at hy
    subst hy;exact ⟨hz,by show z≤_;omega,aWa _⟩) (by simp;omega) (p.length+1) 0 (List.replicate (p.length+1) []) (by simp) (by simp) rfl
  have e1:(p++[(z,(s.length:Int))]).length=p.length+1:=by simp
  have e2:(((p++[(z,(s.length:Int))]).map spE).flatten)=((p.map spE).flatten)++[(aB z),(aB (s.length:Int))]:=by simp [spE]
  refine bZr hN hz ⟨rfl,by omega⟩ (by omega) (L6:=p.length+1) (L8:=p.length+1) (Jl:=p++[(z,(s.length:Int))]) (Hp:=(p++[(z,(s.length:Int))]).map (aBk s)) ?_
  rw [hrep];rw [e1,List.length_replicate,e2] at hL
  rw [e1,e2];exact hL
 ·rw [if_neg hz]
  have hL:=aHj s p q4 (by omega) p.length 0 (List.replicate p.length []) (by simp) (by simp) rfl
  refine bZs hN (Int.not_le.1 hz) (by omega) (L6:=p.length) (L8:=p.length) (Jl:=p) (Hp:=p.map (aBk s)) ?_
  rw [hrep];rw [List.length_replicate] at hL
  exact hL
end KV
end Go.Proofs
end
namespace Go.Proofs
namespace KV
open Tryz
section

noncomputable abbrev aLd:Code:=sub (cd Tryz.f166) [1,0,0,0]
abbrev cH(s:List UInt8):List (List UInt8):=aLf [9,13,32] s
def mJ(u:List UInt8):St:=⟨fr 14 [(0,(.p (aD u))),(2,(.p (aD ([]:List UInt8))))],[]⟩
theorem bZm{s O2:List UInt8}(hl0:aF Tp 0 aLd (mJ  s) (.exit 0) (mJ  O2)){base:Nat}:FV Tp 166 [(.p (aD s))] base (.p (aD O2)) []:=FV.fi func166 [hl0.k 4 ⟨[1,3,4,5,6,7,8,9,10,11,12],[],[],[]⟩] (gc hl0.code gn)
section
variable{u:List UInt8}{Eb:UInt8}(h0:(1:Int)<(u.length:Int))(h1:u[0]? = some Eb)
include h0 h1
theorem bAw{u':List UInt8}(h2:(Eb.toNat:Int)=48)(h3:0≤(1:Int)∧(1:Int)≤(u.length:Int)∧(u.length:Int)≤(u.length:Int))(Rq:u'=(u.drop 1)):aA Tp 0 aLd (mJ  u) .normal (mJ  u'):=by
 subst Rq;exact aA.fi ⟨[1,3,4,5,6,7,8,9,10,11,12],[],[],[]⟩ [bT,bT,.x (.v (.int .u8 (Eb.toNat:Int))),bT,bT,bT] (gc h3 (gc (dC h2) (A4 (cN h0) (gt ((u[0]?).map (fun b:UInt8=>PV.v (.int .u8 (b.toNat:Int)))=some (.v (.int .u8 (Eb.toNat:Int)))) (bDx h1) (gt (0≤(0:Int)) (by decide) (gc (cN h0) (g0 h0)))))))
theorem bAx(h2:(Eb.toNat:Int)≠48):aA Tp 0 aLd (mJ  u) (.exit 0) (mJ  u):=aA.fi ⟨[1,3,4,5,6,7,8,9,10,11,12],[],[],[]⟩ [bT,bT,.x (.v (.int .u8 (Eb.toNat:Int))),bT,bT,bF] (gc (bJ h2) (A4 (cN h0) (gt ((u[0]?).map (fun b:UInt8=>PV.v (.int .u8 (b.toNat:Int)))=some (.v (.int .u8 (Eb.toNat:Int)))) (bDx h1) (gt (0≤(0:Int)) (by decide) (gc (cN h0) (g0 h0))))))
end
theorem aEu{u:List UInt8}(h0:(u.length:Int)≤1):aA Tp 0 aLd (mJ  u) (.exit 0) (mJ  u):=aA.fi ⟨[1,3,4,5,6,7,8,9,10,11,12],[],[],[]⟩ [bF,bF,bF,bF] (Gp (bH h0) gn)
def fO:List UInt8→List UInt8
 | []=>[]
 | b::r=>if 0<r.length∧b=48 then fO r else b::r
theorem aLe:∀ u:List UInt8,aF Tp 0 aLd (mJ u) (.exit 0) (mJ (fO u))
 | [] => .exit (aEu (by simp)) (by simp)
 | b::r=>by
  by_cases h0:0<r.length
  ·by_cases hb:b=48
   ·have e:fO (b::r)=fO r:=by simp only [fO];rw [if_pos ⟨h0,hb⟩]
    rw [e];exact .step (bAw (u':=r) (Eb:=b) (by simp;omega) rfl (by rw [hb];rfl) (by simp;omega) (by simp)) (aLe r)
   ·have e:fO (b::r)=b::r:=by simp only [fO];rw [if_neg (fun h=>hb h.2)]
    rw [e];exact .exit (bAx (Eb:=b) (by simp;omega) rfl (fun h=>hb (UInt8.toNat_inj.1 (Int.ofNat.inj h)))) (by simp)
  ·have e:fO (b::r)=b::r:=by simp only [fO];rw [if_neg (fun h=>h0 h.1)]
   rw [e];exact .exit (aEu (by simp;omega)) (by simp)
theorem bZn(s:List UInt8){base:Nat}:FV Tp 166 [.p (aD s)] base (.p (aD (fO s))) []:=bZm (aLe s)
end
section
variable {Ab Ay:Int}{R T Dq Ep:List Int}{i i' Ap base:Nat}

noncomputable abbrev aEs:Code:=sub (cd Tryz.f49) [1,1,0,1,0,0]
noncomputable abbrev aEt:Code:=sub (cd Tryz.f23) [1,1,0,1,0,0]
def jM(R T:List Int)(i:Nat):St:=⟨fr 26 [(0,(.p (bD R))),(1,(.p (bD T))),(12,(pI (R.length:Int))),(13,(pI (i:Int)))],[]⟩
theorem bZf(h0:(R.length:Int)≠(T.length:Int)):FV Tp 49 [(.p (bD R)),(.p (bD T))] base (pB false) []:=FV.fi func49 [bT] (gc (eY h0) gn)
theorem bZg(h0:(R.length:Int)=(T.length:Int))(An:aF Tp 0 aEs (jM R T 0) (.exit 0) (jM R T Ap)):FV Tp 49 [(.p (bD R)),(.p (bD T))] base (pB true) []:=FV.fi func49 [bF,An.k 4 (gZ bz)] (gc An.code (gc (bL h0) gn))
theorem bZh(h0:(R.length:Int)=(T.length:Int))(An:aF Tp 0 aEs (jM R T 0) .ret (cJ (jM R T Ap) [(4,(pB false))])):FV Tp 49 [(.p (bD R)),(.p (bD T))] base (pB false) []:=FV.fi func49 [bF,An.k 4 (gZ bz)] (gc An.code (gc (bL h0) gn))
section
variable(h0:(i:Int)<(R.length:Int))(h1:R[i]? = some Ab)(h2:T[i]? = some Ay)
include h0 h1 h2
theorem bAq(h3:Ab≠Ay):aA Tp 0 aEs (jM R T i) .ret (cJ (jM R T i) [(4,(pB false))]):=aA.fi (gN br [] [(4,0)]) [bT,.x (aB Ab),.x (aB Ay),bT] (gc (eY h3) (gc (atm aB h2) (gc (ixn aB h2) (gc (atm aB h1) (gc (ixn aB h1) (g0 h0))))))
theorem bAr(h3:Ab=Ay)(h4:cp i)(Ai:i'=(i+1)):aA Tp 0 aEs (jM R T i) .normal (jM R T i'):=by
 subst Ai;exact aA.fi (gZ bz) [bT,.x (aB Ab),.x (aB Ay),bF] (gc h4 (gc (bL h3) (gc (atm aB h2) (gc (ixn aB h2) (gc (atm aB h1) (gc (ixn aB h1) (g0 h0)))))))
end
theorem bAs(h0:(R.length:Int)≤(i:Int)):aA Tp 0 aEs (jM R T i) (.exit 0) (jM R T i):=aA.fi (gZ bz) [bF] (gc (bH h0) gn)
theorem bIx(R T:List Int)(h:R.length≤100000){base:Nat}:FV Tp 49 [(.p (bD R)),(.p (bD T))] base (pB (decide (R=T))) []:=by
 by_cases hl:R.length=T.length
 ·have hz:(R.zip T).length=R.length:=by rw [List.length_zip,hl,Nat.min_self]
  rcases aF.find (P:=Tp) (k:=0) (b:=aEs) (fun i=>jM R T i) (fun i _=>cJ (jM R T i) [(4,.p (blP false))]) (jM R T R.length) .ret (.exit 0) (by simp) (by simp) (fun q:Int × Int => !(decide (q.1=q.2))) (R.zip T)
   (fun i q hx hp=>by
    obtain ⟨h1,h3⟩:=dQ hx;have hi:=bC h1;have hp:=(Bool.not_eq_false' _).mp hp;exact bAr (by omega) h1 h3 (of_decide_eq_true hp) (aR (by omega)) rfl)
   (fun i q hx hp=>by
    obtain ⟨h1,h3⟩:=dQ hx;have hi:=bC h1;have hp:=(Bool.not_eq_true' _).mp hp;exact bAq (by omega) h1 h3 (of_decide_eq_false hp))
   (by rw [hz];exact bAs (by omega)) with ⟨i,q,h1,h2,h3,h4⟩ | ⟨h1,h2,h3⟩
  ·have hne:decide (R=T)=false:=by
    apply decide_eq_false;intro e;subst e;obtain ⟨q1,q2⟩:=dQ h1;rw [q1] at q2
    have:q.1=q.2:=by simpa using q2
    simp [this] at h3
   rw [hne];exact bZh (by omega) h4
  ·rw [decide_eq_true (hZ R T hl h2)];exact bZg (by omega) h3
 ·have hne:decide (R=T)=false:=decide_eq_false (fun e=>hl (by rw [e]))
  rw [hne];exact bZf (by omega)
def jN(R T:Lqq)(i:Nat):St:=⟨fr 27 [(0,(.p (.sl R.length ((R.map ixE).flatten)))),(1,(.p (.sl T.length ((T.map ixE).flatten)))),(12,(pI (R.length:Int))),(13,(pI (i:Int)))],[]⟩
theorem bZi{R T:Lqq}(h0:(R.length:Int)≠(T.length:Int)):FV Tp 23 [(.p (.sl R.length ((R.map ixE).flatten))),(.p (.sl T.length ((T.map ixE).flatten)))] base (pB false) []:=FV.fi func23 [bT] (gc (eY h0) gn)
theorem bZj{R T:Lqq}(h0:(R.length:Int)=(T.length:Int))(An:aF Tp 0 aEt (jN R T 0) (.exit 0) (jN R T Ap)):FV Tp 23 [(.p (.sl R.length ((R.map ixE).flatten))),(.p (.sl T.length ((T.map ixE).flatten)))] base (pB true) []:=FV.fi func23 [bF,An.k 4 (gZ c7)] (gc An.code (gc (bL h0) gn))
theorem bZk{R T:Lqq}(h0:(R.length:Int)=(T.length:Int))(An:aF Tp 0 aEt (jN R T 0) .ret (cJ (jN R T Ap) [(4,(pB false))])):FV Tp 23 [(.p (.sl R.length ((R.map ixE).flatten))),(.p (.sl T.length ((T.map ixE).flatten)))] base (pB false) []:=FV.fi func23 [bF,An.k 4 (gZ c7)] (gc An.code (gc (bL h0) gn))
section
variable{R T:Lqq}(h0:(i:Int)<(R.length:Int))(h1:R[i]? = some (Dq))(h2:T[i]? = some (Ep))(K0:Dq.length≤100000)
include h0 h1 h2 K0
theorem bAt(h4:(decide (Dq=Ep))=false):aA Tp 0 aEt (jN R T i) .ret (cJ (jN R T i) [(4,(pB false))]):=have k1:=fk 0 (bIx Dq Ep K0) rfl;aA.fi (gN [2,2,5,7,14,13] [] [(4,0)]) [bT,.x (bD Dq),.x (bD Ep),k1.o,bT] (gc (dB h4) (gc k1 (gt (((T.map ixE).flatten)[(i*1)]? = some (bD Ep)) (aL (E:=ixE) (i:=i) (f:=0) (k:=1) (fun _=>rfl) h2 rfl) (gc (bB (E:=ixE) (k:=1) (i:=(i:Int)) (fun _=>rfl) (by decide) (Bt _) h2) (gt (((R.map ixE).flatten)[(i*1)]? = some (bD Dq)) (aL (E:=ixE) (i:=i) (f:=0) (k:=1) (fun _=>rfl) h1 rfl) (gc (bB (E:=ixE) (k:=1) (i:=(i:Int)) (fun _=>rfl) (by decide) (Bt _) h1) (g0 h0)))))))
theorem bAu(h4:(decide (Dq=Ep))=true)(h5:cp i)(Ai:i'=(i+1)):aA Tp 0 aEt (jN R T i) .normal (jN R T i'):=by
 subst Ai;have k1:=fk 0 (bIx Dq Ep K0) rfl;exact aA.fi (gZ c7) [bT,.x (bD Dq),.x (bD Ep),k1.o,bF] (gc h5 (gc (aW h4) (gc k1 (gt (((T.map ixE).flatten)[(i*1)]? = some (bD Ep)) (aL (E:=ixE) (i:=i) (f:=0) (k:=1) (fun _=>rfl) h2 rfl) (gc (bB (E:=ixE) (k:=1) (i:=(i:Int)) (fun _=>rfl) (by decide) (Bt _) h2) (gt (((R.map ixE).flatten)[(i*1)]? = some (bD Dq)) (aL (E:=ixE) (i:=i) (f:=0) (k:=1) (fun _=>rfl) h1 rfl) (gc (bB (E:=ixE) (k:=1) (i:=(i:Int)) (fun _=>rfl) (by decide) (Bt _) h1) (g0 h0))))))))
end
theorem bAv{R T:Lqq}(h0:(R.length:Int)≤(i:Int)):aA Tp 0 aEt (jN R T i) (.exit 0) (jN R T i):=aA.fi (gZ c7) [bF] (gc (bH h0) gn)
theorem bZl(R T:Lqq)(h:R.length≤100000)(h2:∀ r∈R,r.length≤100000){base:Nat}:FV Tp 23 [(.p (.sl R.length ((R.map ixE).flatten))),(.p (.sl T.length ((T.map ixE).flatten)))] base (pB (decide (R=T))) []:=by
 by_cases hl:R.length=T.length
 ·have hz:(R.zip T).length=R.length:=by rw [List.length_zip,hl,Nat.min_self]
  rcases aF.find (P:=Tp) (k:=0) (b:=aEt) (fun i=>jN R T i) (fun i _=>cJ (jN R T i) [(4,.p (blP false))]) (jN R T R.length) .ret (.exit 0) (by simp) (by simp) (fun q:(List Int) × (List Int) => !(decide (q.1=q.2))) (R.zip T)
   (fun i q hx hp=>by
    obtain ⟨h1,h3⟩:=dQ hx;have hi:=bC h1;have hp:=(Bool.not_eq_false' _).mp hp;exact bAu (by omega) h1 h3 (h2 _ (B0 h1)) hp (aR (by omega)) rfl)
   (fun i q hx hp=>by
    obtain ⟨h1,h3⟩:=dQ hx;have hi:=bC h1;have hp:=(Bool.not_eq_true' _).mp hp;exact bAt (by omega) h1 h3 (h2 _ (B0 h1)) hp)
   (by rw [hz];exact bAv (by omega)) with ⟨i,q,h1,h2,h3,h4⟩ | ⟨h1,h2,h3⟩
  ·have hne:decide (R=T)=false:=by
    apply decide_eq_false;intro e;subst e;obtain ⟨q1,q2⟩:=dQ h1;rw [q1] at q2
    have:q.1=q.2:=by simpa using q2
    simp [this] at h3
   rw [hne];exact bZk (by omega) h4
  ·rw [decide_eq_true (hZ R T hl h2)];exact bZj (by omega) h3
 ·have hne:decide (R=T)=false:=decide_eq_false (fun e=>hl (by rw [e]))
  rw [hne];exact bZi (by omega)
end
section
variable {g v w f4 m1 t2 Ag Ey D3 Ab Ay:Int}{R T l:List Int}{i i' Ap base:Nat}
open Go.RowKit
noncomputable abbrev aDv:Code:=sub (cd Tryz.f44) [1,1,0,1,0,0]
noncomputable abbrev aKc:Code:=pS (cd Tryz.f9) 13 [0,1,0,0]
theorem aAn:((0:Int) != 0)=false:=by first | decide | simp
theorem aRq:((0:Int) == 0)=true:=by first | decide | simp
theorem bMj{s:List UInt8}{F:List (List UInt8)}(hF:aO s [32]=F)(h:s.length<4294967281){base:Nat}:FV Tp 29 [.p (aD s),.p (aD [32])] base (.own base) [(base,.row 9 F.length ((F.map stE).flatten))]:=by
 subst hF;refine ⟨.own 0,[some (.row 9 (aO s [32]).length (((aO s [32]).map stE).flatten))],fun C w us hus hM n => ?_,rfl⟩
 obtain rfl:=Gm rfl rfl hus;obtain ⟨m,hm⟩:=(yL hM.lib).1;refine (callsIn_wide.2 (Tryz.strings_Split ⟨s.toArray⟩ ⟨([32]:List UInt8).toArray⟩ m w (by rw [Lib.size_eq];exact h) hm (by decide))).mono ?_
 rintro e w' ⟨rfl,rfl⟩;have hl:=Lib.splitB_all ⟨([32]:List UInt8).toArray⟩ (by decide) 0 _ ⟨s.toArray⟩ rfl
 have hs:=cCz s [32];have hc:Lib.countB ⟨s.toArray⟩ ⟨([32]:List UInt8).toArray⟩≤s.length:=by
  have:=Lib.countB_le ⟨([32]:List UInt8).toArray⟩ (by decide) _ ⟨s.toArray⟩ (dD _)
  rw [Lib.size_eq] at this;exact this
 generalize Lib.splitB ⟨([32]:List UInt8).toArray⟩ 0 (Lib.countB ⟨s.toArray⟩ ⟨([32]:List UInt8).toArray⟩) ⟨s.toArray⟩=L at hl hs ⊢
 rw [← hs,kI,dY,hl];generalize Lib.countB ⟨s.toArray⟩ ⟨([32]:List UInt8).toArray⟩=n at hl hc
 have hf:xW ([]:Mem) 0:=fun _ h=>by cases h
 refine ⟨_,rfl,C.grow 0 w.heap.size (n+1),tC hf _ _,oF hM hf _ _ (fun ty n' cs h => ?_) (fun _ _ h=>by cases h) (fun _ _ h=>by cases h),?_⟩
 ·cases h
  have My:(Tryz.prog.info? 9).map (·.size)=some 1:=by kernel_rfl
  obtain ⟨i,hi,Gb⟩:=C7.1 My;refine ⟨_,i,rfl,hi,?_,?_,dD _,?_,fun j hj => ?_,fun j hj => ?_⟩
  ·simp [hl,Gb]
  ·simp [hl,Gb]
  ·simp only [maxLen];omega
  ·have Dy:j<L.length:=by simpa using hj
   rw [gL,gL];simp only [Bu,List.getElem?_toArray,rV,Bw Dy,Option.map_some,Option.getD_some];exact .v _
  ·have Dy:j<L.length:=by simpa using hj
   simp only [Bu,List.getElem?_toArray,rV,Bw Dy,Option.map_some,Option.getD_some];rfl
 ·refine .own 0 _ rfl ⟨_,rfl⟩ fun ty n2 cs h => .inr ⟨w.heap.size,?_,by simp [Cx.grow]⟩
  cases h;simp [Cx.grow,hl]
theorem aGk{cs:List PV}{n:Nat}{l:List (List UInt8)}(sep:List UInt8)(hn:n=l.length)(hc:cs=(l.map stE).flatten)(h1:l.length≤140737488355328)(h2:(Lib.join l sep).length≤140737488355328){base:Nat}:FV Tp 50 [.p (.sl n cs),.p (aD sep)] base (.p (aD (Lib.join l sep))) []:=by
 subst hn;subst hc;exact aKf l sep h1 h2
def fcE(q:List UInt8 × Int × Int × Int):List PV:=[aD q.1,aB q.2.1,aB q.2.2.1,aB q.2.2.2]
def jH(R T:List Int)(i:Nat):St:=⟨fr 26 [(0,(.p (bD R))),(1,(.p (bD T))),(12,(pI (R.length:Int))),(13,(pI (i:Int)))],[]⟩
theorem bTa(h0:(R.length:Int)≠(T.length:Int)):FV Tp 44 [(.p (bD R)),(.p (bD T))] base (pB false) []:=FV.fi func44 [bT] (gc (eY h0) gn)
theorem bTb(h0:(R.length:Int)=(T.length:Int))(An:aF Tp 0 aDv (jH R T 0) (.exit 0) (jH R T Ap)):FV Tp 44 [(.p (bD R)),(.p (bD T))] base (pB true) []:=FV.fi func44 [bF,An.k 4 (gZ bz)] (gc An.code (gc (bL h0) gn))
theorem bTc(h0:(R.length:Int)=(T.length:Int))(An:aF Tp 0 aDv (jH R T 0) .ret (cJ (jH R T Ap) [(4,(pB false))])):FV Tp 44 [(.p (bD R)),(.p (bD T))] base (pB false) []:=FV.fi func44 [bF,An.k 4 (gZ bz)] (gc An.code (gc (bL h0) gn))
section
variable(h0:(i:Int)<(R.length:Int))(h1:R[i]? = some Ab)(h2:T[i]? = some Ay)
include h0 h1 h2
theorem aWf(h3:Ab≠Ay):aA Tp 0 aDv (jH R T i) .ret (cJ (jH R T i) [(4,(pB false))]):=aA.fi (gN br [] [(4,0)]) [bT,.x (aB Ab),.x (aB Ay),bT] (gc (eY h3) (gc (atm aB h2) (gc (ixn aB h2) (gc (atm aB h1) (gc (ixn aB h1) (g0 h0))))))
theorem aWg(h3:Ab=Ay)(h4:cp i)(Ai:i'=(i+1)):aA Tp 0 aDv (jH R T i) .normal (jH R T i'):=by
 subst Ai;exact aA.fi (gZ bz) [bT,.x (aB Ab),.x (aB Ay),bF] (gc h4 (gc (bL h3) (gc (atm aB h2) (gc (ixn aB h2) (gc (atm aB h1) (gc (ixn aB h1) (g0 h0)))))))
end
theorem aWh(h0:(R.length:Int)≤(i:Int)):aA Tp 0 aDv (jH R T i) (.exit 0) (jH R T i):=aA.fi (gZ bz) [bF] (gc (bH h0) gn)
theorem bFt(R T:List Int)(h:R.length≤100000){base:Nat}:FV Tp 44 [(.p (bD R)),(.p (bD T))] base (pB (decide (R=T))) []:=by
 by_cases hl:R.length=T.length
 ·have hz:(R.zip T).length=R.length:=by rw [List.length_zip,hl,Nat.min_self]
  rcases aF.find (P:=Tp) (k:=0) (b:=aDv) (fun i=>jH R T i) (fun i _=>cJ (jH R T i) [(4,.p (blP false))]) (jH R T R.length) .ret (.exit 0) (by simp) (by simp) (fun q:Int × Int => !(decide (q.1=q.2))) (R.zip T)
   (fun i q hx hp=>by
    obtain ⟨h1,h3⟩:=dQ hx;have hi:=bC h1;have hp:=(Bool.not_eq_false' _).mp hp;exact aWg (by omega) h1 h3 (of_decide_eq_true hp) (aR (by omega)) rfl)
   (fun i q hx hp=>by
    obtain ⟨h1,h3⟩:=dQ hx;have hi:=bC h1;have hp:=(Bool.not_eq_true' _).mp hp;exact aWf (by omega) h1 h3 (of_decide_eq_false hp))
   (by rw [hz];exact aWh (by omega)) with ⟨i,q,h1,h2,h3,h4⟩ | ⟨h1,h2,h3⟩
  ·have hne:decide (R=T)=false:=by
    apply decide_eq_false;intro e;subst e;obtain ⟨q1,q2⟩:=dQ h1;rw [q1] at q2
    have:q.1=q.2:=by simpa using q2
    simp [this] at h3
   rw [hne];exact bTc (by omega) h4
  ·rw [decide_eq_true (hZ R T hl h2)];exact bTb (by omega) h3
 ·have hne:decide (R=T)=false:=decide_eq_false (fun e=>hl (by rw [e]))
  rw [hne];exact bTa (by omega)
def gB(v:Int)(R0:List (List Cel))(f4:Int)(i Xn:Nat)(Xc:List PV):St:=⟨fr 261 [(11,(.ptr 0 0)),(19,(pI f4)),(217,(.own 1)),(218,(pI 6)),(219,(pI (i:Int)))],[some (.box 26 [(pI (bM v)),(.p (.sl R0.length (R0.map aN)))]),some (.row 90 Xn Xc)]⟩
theorem bTd{h:List UInt8}{R0:List (List Cel)}{T3:List UInt8}(h0:aGl l 0 17 (bM v) 12 R0 m1 t2)(h1:qE (bM v) R0=(T3,0))(h2:(1000:Int)<(h.length:Int))(h3:aSf):FV Tp 9 [(.p (.sl l.length (l.map dW))),(pI v),(pI w),(pI g),(.p (aD h))] base (pB true) []:=have k1:=mq [] 0 (bFv l);have k2:=mq [0] 1 (aGm (bM v) 12 l 0 17 h0);have k3:=fk 2 (aOd h1) rfl;FV.fi func9 [k1.o,.c (pI (bM v)) [],k2.o,k3.o,bF,bF,bF,bF,bT,bT,.c (pB true) [],bT] (gc aRq (gc (fk 2 (h3 _) rfl) (gc aRq (gc (cN h2) (Gp aAn (gc k3 (gc k2 (gc (fk 1 (aOf v) rfl) (gc k1 gn)))))))))
section
variable{h:List UInt8}{R0:List (List Cel)}{T3:List UInt8}(h0:aGl l 0 17 (bM v) 12 R0 m1 t2)(h1:qE (bM v) R0=(T3,0))(h2:(h.length:Int)≤1000)(h3:T3.length<4294967281)(h4:1≤([10]:List UInt8).length)(h5:within (bM v) 0 4=true)(Gu:(aJ (bM v)).length≤100000)(h7:(decide ((aJ (bM v))=(aJ (bM v))))=true)(h8:inR (((R0.length+3):Nat):Int))(h9:((aO T3 ([10]:List UInt8)).length:Int)=(((R0.length+3):Nat):Int))
include h0 h1 h2 h3 h4 h5 Gu h7 h8 h9
theorem bTe(A9:(R0.length:Int)=0)(Da:aSf):FV Tp 9 [(.p (.sl l.length (l.map dW))),(pI v),(pI w),(pI g),(.p (aD h))] base (pB true) []:=have k1:=mq [] 0 (bFv l);have k2:=mq [0] 1 (aGm (bM v) 12 l 0 17 h0);have k3:=fk 2 (aOd h1) rfl;have k4:=fk 2 (eA T3 ([10]:List UInt8) h3 h4) rfl;have k5:=fk 2 (aSe (bM v) h5) rfl;have k6:=fk 2 (aOe (bM v)) rfl;have k7:=fk 2 (bFt (aJ (bM v)) (aJ (bM v)) Gu) rfl;FV.fi func9 ([k1.o,.c (pI (bM v)) [],k2.o,k3.o]++rF 5++[k4.o,k5.o,k6.o,k7.o]++rF 14++rT 10++[.c (pB true) [],bT]) (gc (dC h9) (gc (fk 2 (Da _) rfl) (gc (dC h9) (A4 aRq (gc h8 (G3 aRq (gc (dC A9) (Cg (bL h9) (A4 aAn (gc h8 (G3 aAn (gc (aW h7) (gc k7 (gc k6 (gc k5 (gc k4 (gc (bH h2) (Gp aAn (gc k3 (gc k2 (gc (fk 1 (aOf v) rfl) (gc k1 gn))))))))))))))))))))))
theorem bTf{f5:Int}{J6:List (List UInt8)}{u7:List UInt8}{F8 J9 J10:List (List UInt8)}{Mz:Nat}{X'12:List (List UInt8 × Int × Int × Int)}(A9:(R0.length:Int)≠0)(Da:0<(R0.length:Int)∧(R0.length:Int)≤1000000)(Ba:aAp w (R0.length:Int)=f4)(Cw:0<((aJ (bM v)).length:Int)∧((aJ (bM v)).length:Int)≤1000000)(Ek:aAp g ((aJ (bM v)).length:Int)=f5)(D5:inR (f4+1))(Hb:0≤(0:Int)∧(0:Int)≤(f4+1)∧(f4+1)≤((aO T3 ([10]:List UInt8)).length:Int)∧(((aO T3 ([10]:List UInt8)).map stE).flatten).length=((aO T3 ([10]:List UInt8)).length)*1)(Gz:((f4+1).toNat-0)=J6.length)(I8:((((aO T3 ([10]:List UInt8)).map stE).flatten).take ((f4+1).toNat*1))=(J6.map stE).flatten)(M3:J6.length≤140737488355328)(M4:(Lib.join J6 ([10]:List UInt8)).length≤140737488355328)(P2:(Lib.join J6 ([10]:List UInt8)).length+([10]:List UInt8).length≤4611686018427387904)(G0:(aO T3 ([10]:List UInt8))[(f4+1).toNat]? = some (u7))(J2:0≤(f4+1))(P3:aO u7 [32]=F8)(Ot:u7.length<4294967281)(P4:(F8.length:Int)=((aJ (bM v)).length:Int))(P5:0≤f5∧f5<(F8.length:Int))(P6:(f5.toNat*1)<((F8.map stE).flatten).length)(P7:F8.length=J9.length)(P8:(((F8.map stE).flatten).set (f5.toNat*1) (aD ([45]:List UInt8)))=(J9.map stE).flatten)(P9:J9.length≤140737488355328)(Qa:(Lib.join J9 ([32]:List UInt8)).length≤140737488355328)(Qb:((Lib.join J6 ([10]:List UInt8))++([10]:List UInt8)).length+(Lib.join J9 ([32]:List UInt8)).length≤4611686018427387904)(Qc:(((Lib.join J6 ([10]:List UInt8))++([10]:List UInt8))++(Lib.join J9 ([32]:List UInt8))).length+([10]:List UInt8).length≤4611686018427387904)(Qd:((((Lib.join J6 ([10]:List UInt8))++([10]:List UInt8))++(Lib.join J9 ([32]:List UInt8)))++([10]:List UInt8)).length+h.length≤4611686018427387904)(Ly:inR (f4+2))(Ou:inR (f5+1))(M5:((Lib.join J6 ([10]:List UInt8))++([10]:List UInt8)).length+u7.length≤4611686018427387904)(Qe:(((Lib.join J6 ([10]:List UInt8))++([10]:List UInt8))++u7).length+([32,10]:List UInt8).length≤4611686018427387904)(Qg:((((Lib.join J6 ([10]:List UInt8))++([10]:List UInt8))++u7)++([32,10]:List UInt8)).length+h.length≤4611686018427387904)(Qh:inR ((((aJ (bM v)).length+1):Nat):Int))(Qi:1≤([32]:List UInt8).length)(Qj:0≤(0:Int)∧(0:Int)≤f5∧f5≤((aO u7 ([32]:List UInt8)).length:Int)∧(((aO u7 ([32]:List UInt8)).map stE).flatten).length=((aO u7 ([32]:List UInt8)).length)*1)(Qk:(f5.toNat-0)=J10.length)(Ql:((((aO u7 ([32]:List UInt8)).map stE).flatten).take (f5.toNat*1))=(J10.map stE).flatten)(Qm:J10.length≤140737488355328)(Qn:(Lib.join J10 ([32]:List UInt8)).length≤140737488355328)(Ov:((Lib.join J6 ([10]:List UInt8))++([10]:List UInt8)).length+(Lib.join J10 ([32]:List UInt8)).length≤4611686018427387904)(Qo:(((Lib.join J6 ([10]:List UInt8))++([10]:List UInt8))++(Lib.join J10 ([32]:List UInt8))).length+([10]:List UInt8).length≤4611686018427387904)(Qp:((((Lib.join J6 ([10]:List UInt8))++([10]:List UInt8))++(Lib.join J10 ([32]:List UInt8)))++([10]:List UInt8)).length+h.length≤4611686018427387904)(Qq:(((Lib.join J6 ([10]:List UInt8))++([10]:List UInt8))++u7).length+([10]:List UInt8).length≤4611686018427387904)(Qr:((((Lib.join J6 ([10]:List UInt8))++([10]:List UInt8))++u7)++([10]:List UInt8)).length+u7.length≤4611686018427387904)(Qs:(((((Lib.join J6 ([10]:List UInt8))++([10]:List UInt8))++u7)++([10]:List UInt8))++u7).length+([10]:List UInt8).length≤4611686018427387904)(Qt:((((((Lib.join J6 ([10]:List UInt8))++([10]:List UInt8))++u7)++([10]:List UInt8))++u7)++([10]:List UInt8)).length+h.length≤4611686018427387904)(Qu:inR (f4+3))(Qv:T3.length+([120]:List UInt8).length≤4611686018427387904)(Qw:(T3++([120]:List UInt8)).length+h.length≤4611686018427387904)(Kj:aF Tp 0 aKc (gB v R0 f4 0 6 [(aD (((((Lib.join J6 ([10]:List UInt8))++([10]:List UInt8))++(Lib.join J9 ([32]:List UInt8)))++([10]:List UInt8))++h)),(aB (f4+2)),(aB (f5+1)),(aB 11),(aD (((((Lib.join J6 ([10]:List UInt8))++([10]:List UInt8))++u7)++([32,10]:List UInt8))++h)),(aB (f4+2)),(aB ((((aJ (bM v)).length+1):Nat):Int)),(aB 11),(aD (((((Lib.join J6 ([10]:List UInt8))++([10]:List UInt8))++(Lib.join J10 ([32]:List UInt8)))++([10]:List UInt8))++h)),(aB (f4+2)),(aB (if (f5+1) > 1 then (f5+1) else 1)),(aB 11),(aD (((((((Lib.join J6 ([10]:List UInt8))++([10]:List UInt8))++u7)++([10]:List UInt8))++u7)++([10]:List UInt8))++h)),(aB (f4+3)),(aB 1),(aB 5),(aD (((Lib.join J6 ([10]:List UInt8))++([10]:List UInt8))++u7)),(aB (f4+2)),(aB 1),(aB 11),(aD ((T3++([120]:List UInt8))++h)),(aB (((R0.length+3):Nat):Int)),(aB 1),(aB 11)]) (.exit 0) (gB v R0 f4 Mz X'12.length ((X'12.map fcE).flatten)))(Qx:aSf):FV Tp 9 [(.p (.sl l.length (l.map dW))),(pI v),(pI w),(pI g),(.p (aD h))] base (pB true) []:=by
 have k1:=mq [] 0 (bFv l);have k2:=mq [0] 1 (aGm (bM v) 12 l 0 17 h0);have k3:=fk 2 (aOd h1) rfl;have k4:=fk 2 (eA T3 ([10]:List UInt8) h3 h4) rfl;have k5:=fk 2 (aSe (bM v) h5) rfl;have k6:=fk 2 (aOe (bM v)) rfl;have k7:=fk 2 (bFt (aJ (bM v)) (aJ (bM v)) Gu) rfl;have k8:=fk 2 (aGk ([10]:List UInt8) Gz I8 M3 M4) rfl;have k9:=fk 2 (bMj P3 Ot) rfl;have Kk:=fk 12 (eA u7 ([32]:List UInt8) Ot Qi) rfl;have G8:=fk 20 (aGk ([32]:List UInt8) Qk Ql Qm Qn) rfl;exact FV.fi func9 ([k1.o,.c (pI (bM v)) [],k2.o,k3.o]++rF 5++[k4.o,k5.o,k6.o,k7.o]++rF 15++[.c (pI f4) [],.c (pI f5) [],k8.o,.x (aD u7),k9.o,bF,.c (.p (aD (Lib.join J9 ([32]:List UInt8)))) [(2,.dead)],.x (aD u7),.x (aD u7),Kk.o,G8.o,.x (aD u7),.x (aD u7),.x (aD u7),Kj.k 1 (gI az [1,30]),.c (pB true) []]) (gc (fk 2 (Qx _) rfl) (gc Kj.code (gc h8 (gc Qw (gc Qv (gc Ly (gc M5 (gt ((((aO T3 ([10]:List UInt8)).map stE).flatten)[((f4+1).toNat*1)]? = some (aD u7)) (aL (E:=stE) (i:=(f4+1).toNat) (f:=0) (k:=1) (fun _=>rfl) G0 rfl) (gc (bB (E:=stE) (k:=1) (i:=(f4+1)) (fun _=>rfl) (by decide) J2 G0) (gc D5 (gc Qu (gc Qt (gc Qs (gc Qr (gt ((((aO T3 ([10]:List UInt8)).map stE).flatten)[((f4+1).toNat*1)]? = some (aD u7)) (aL (E:=stE) (i:=(f4+1).toNat) (f:=0) (k:=1) (fun _=>rfl) G0 rfl) (gc (bB (E:=stE) (k:=1) (i:=(f4+1)) (fun _=>rfl) (by decide) J2 G0) (gc D5 (gc Qq (gc M5 (gt ((((aO T3 ([10]:List UInt8)).map stE).flatten)[((f4+1).toNat*1)]? = some (aD u7)) (aL (E:=stE) (i:=(f4+1).toNat) (f:=0) (k:=1) (fun _=>rfl) G0 rfl) (gc (bB (E:=stE) (k:=1) (i:=(f4+1)) (fun _=>rfl) (by decide) J2 G0) (gc D5 (gc Ou (gc Ly (gc Qp (gc Qo (gc Ov (gc G8 (gc Qj (gc Kk (gt ((((aO T3 ([10]:List UInt8)).map stE).flatten)[((f4+1).toNat*1)]? = some (aD u7)) (aL (E:=stE) (i:=(f4+1).toNat) (f:=0) (k:=1) (fun _=>rfl) G0 rfl) (gc (bB (E:=stE) (k:=1) (i:=(f4+1)) (fun _=>rfl) (by decide) J2 G0) (gc D5 (gc Qh (gc Ly (gc Qg (gc Qe (gc M5 (gt ((((aO T3 ([10]:List UInt8)).map stE).flatten)[((f4+1).toNat*1)]? = some (aD u7)) (aL (E:=stE) (i:=(f4+1).toNat) (f:=0) (k:=1) (fun _=>rfl) G0 rfl) (gc (bB (E:=stE) (k:=1) (i:=(f4+1)) (fun _=>rfl) (by decide) J2 G0) (gc D5 (gc Ou (gc Ly (gc Qd (gc Qc (gc Qb (gt (FC Tp 50 [(.own 2),(.p (aD ([32]:List UInt8)))] [(2,(.row 9 F8.length (((F8.map stE).flatten).set (f5.toNat*1) (aD ([45]:List UInt8)))))] 3 (.p (aD (Lib.join J9 ([32]:List UInt8)))) [(2,.dead)]) (FV.close (ids:=[2]) (Am:=[(.p (.sl F8.length (((F8.map stE).flatten).set (f5.toNat*1) (aD ([45]:List UInt8))))),(.p (aD ([32]:List UInt8)))]) (aGk ([32]:List UInt8) P7 P8 P9 Qa) (by kernel_rfl)) (gc P6 (gc P5 (gc (bL P4) (gc k9 (gt ((((aO T3 ([10]:List UInt8)).map stE).flatten)[((f4+1).toNat*1)]? = some (aD u7)) (aL (E:=stE) (i:=(f4+1).toNat) (f:=0) (k:=1) (fun _=>rfl) G0 rfl) (gc (bB (E:=stE) (k:=1) (i:=(f4+1)) (fun _=>rfl) (by decide) J2 G0) (gc D5 (gc P2 (gc k8 (gc Hb (gc D5 (gc (fk 2 (bFu Cw Ek) rfl) (gc (fk 2 (bFu Da Ba) rfl) (gc (bJ A9) (Cg (bL h9) (A4 aAn (gc h8 (G3 aAn (gc (aW h7) (gc k7 (gc k6 (gc k5 (gc k4 (gc (bH h2) (Gp aAn (gc k3 (gc k2 (gc (fk 1 (aOf v) rfl) (gc k1 gn))))))))))))))))))))))))))))))))))))))))))))))))))))))))))))))))))))))))))))
end
section
variable{X:List (List UInt8 × Int × Int × Int)}{Aa:List UInt8}(h0:(i:Int)<6)(h1:0≤(i:Int)∧(i:Int)<(X.length:Int))(h2:X[i]? = some (Aa,Ag,Ey,D3))
include h0 h1 h2
theorem aWi{R0:List (List Cel)}(h3:D3=5)(h4:inR ((R0.length:Int)-1))(h5:f4=((R0.length:Int)-1))(h6:((prM Aa).2.2.2.2)=11)(h7:((prM Aa).2.2.1)=Ag)(h8:((prM Aa).2.2.2.1)=Ey)(h9:cp i)(Ai:i'=(i+1)):aA Tp 0 aKc (gB v R0 f4 i X.length ((X.map fcE).flatten)) .normal (gB v R0 f4 i' X.length ((X.map fcE).flatten)):=by
 subst Ai;have k1:=fk 3 (aBi Aa) rfl;exact aA.fi (gI az [0,1]) ([bT,.x (.agg [(aD Aa),(aB Ag),(aB Ey),(aB D3)])]++rT 8++[k1.o]++rF 11) (gc h9 (gc (bL h8) (Cg (bL h7) (Cg (bL h6) (gc k1 (gc (dC h5) (A4 (dC h3) (gc h4 (Cg (dC h3) (gc (bG (E:=fcE) (i:=i) (k:=4) (fun _=>rfl) h2 rfl) (gc (cC (E:=fcE) (i:=i) (k:=4) (fun _=>rfl) h2) (gc h1 (g0 h0)))))))))))))
theorem aWj{R0:List (List Cel)}(h3:D3=5)(h4:inR ((R0.length:Int)-1))(h5:f4≠((R0.length:Int)-1))(h6:((prM Aa).2.2.2.2)=D3)(h7:((prM Aa).2.2.1)=Ag)(h8:((prM Aa).2.2.2.1)=Ey)(h9:cp i)(Ai:i'=(i+1)):aA Tp 0 aKc (gB v R0 f4 i X.length ((X.map fcE).flatten)) .normal (gB v R0 f4 i' X.length ((X.map fcE).flatten)):=by
 subst Ai;have k1:=fk 3 (aBi Aa) rfl;exact aA.fi (gI az [0,1]) ([bT,.x (.agg [(aD Aa),(aB Ag),(aB Ey),(aB D3)])]++rT 7++[bF,k1.o]++rF 11) (gc h9 (gc (bL h8) (Cg (bL h7) (Cg (bL h6) (gc k1 (gc (bJ h5) (A4 (dC h3) (gc h4 (Cg (dC h3) (gc (bG (E:=fcE) (i:=i) (k:=4) (fun _=>rfl) h2 rfl) (gc (cC (E:=fcE) (i:=i) (k:=4) (fun _=>rfl) h2) (gc h1 (g0 h0)))))))))))))
theorem aOb{R0:List (List Cel)}(h3:D3≠5)(h4:((prM Aa).2.2.2.2)=D3)(h5:((prM Aa).2.2.1)=Ag)(h6:((prM Aa).2.2.2.1)=Ey)(h7:cp i)(Ai:i'=(i+1)):aA Tp 0 aKc (gB v R0 f4 i X.length ((X.map fcE).flatten)) .normal (gB v R0 f4 i' X.length ((X.map fcE).flatten)):=by
 subst Ai;have k1:=fk 3 (aBi Aa) rfl;exact aA.fi (gI az [0,1]) ([bT,.x (.agg [(aD Aa),(aB Ag),(aB Ey),(aB D3)])]++rF 7++[k1.o]++rF 11) (gc h7 (gc (bL h6) (Cg (bL h5) (Cg (bL h4) (gc k1 (I1 (bJ h3) (gc (bG (E:=fcE) (i:=i) (k:=4) (fun _=>rfl) h2 rfl) (gc (cC (E:=fcE) (i:=i) (k:=4) (fun _=>rfl) h2) (gc h1 (g0 h0))))))))))
end
theorem aOc{R0:List (List Cel)}{X:List (List UInt8 × Int × Int × Int)}(h0:(6:Int)≤(i:Int)):aA Tp 0 aKc (gB v R0 f4 i X.length ((X.map fcE).flatten)) (.exit 0) (gB v R0 f4 i X.length ((X.map fcE).flatten)):=aA.fi (gI az [0,1]) [bF] (gc (bH h0) gn)
end
end KV
end Go.Proofs
section
namespace Go.Proofs
open Go.RowKit
namespace KV
open Tryz
theorem bDd{u v:List UInt8}(h:10∉u):Lib.splitK [10] 0 (Lib.count (u++10::v) [10]) (u++10::v)=u::Lib.splitK [10] 0 (Lib.count v [10]) v:=by
 have hi:=aAy 10 v u h;have hd:(u++10::v).drop (u.length+1)=v:=by
  rw [show u.length+1=(u++[10]).length by simp,show u++10::v=(u++[10])++v by simp,List.drop_left]
 rw [Lib.count_hit (i:=u.length) (by simp) hi,List.length_singleton,hd,Nat.add_comm 1,Lib.splitK,hi,List.length_singleton,Int.toNat_natCast,hd,Nat.add_zero,List.take_left]
 have:¬ ((u.length:Int) == -1)=true:=by simp
 rw [if_neg this]
theorem aLs:∀ ls:List (List UInt8),(∀ l∈ls,∀ b∈l,b≠10)→aO (txL ls) [10]=ls++[[]]
 | [],_=>by decide
 | l::ls,h=>by
  rw [gM];have:=bDd (u:=l) (v:=txL ls) (fun q=>h l (jT ..) 10 q rfl)
  show Lib.splitK [10] 0 (Lib.count (l++10::txL ls) [10]) (l++10::txL ls)=_;rw [this];have ih:=aLs ls fun l' hl=>h l' (Cn _ hl)
  show l::aO (txL ls) [10]=_;rw [ih];rfl
end KV
end Go.Proofs
end
section
namespace Go.Proofs
open Go.RowKit
namespace KV
open Tryz
theorem wL:∀ (ls:List (List UInt8)) (t:List UInt8),(∀ l∈ls,∀ b∈l,b≠10)→cF (txL ls++t)=ls.map (fun l=>(l,true))++cF t
 | [],t,_=>rfl
 | l::ls,t,h=>by
  rw [gM,List.append_assoc,List.cons_append,eH (by simp),uX (fun q=>h l (jT ..) 10 q rfl)]
  rw [gS,List.cons_append,wL ls t fun l' hl=>h l' (Cn _ hl)]
theorem rS{x t:List UInt8}(h:∀ b∈x,b≠10):cF (x++10::t)=(x,true)::cF t:=by
 rw [eH (by simp),uX (fun q=>h 10 q rfl)]
theorem aQj{x:List UInt8}(hx:x≠[])(h:∀ b∈x,b≠10):cF x=[(x,false)]:=by
 rw [eH hx,aZs (fun q=>h 10 q rfl)]
 rfl
theorem aTq:∀ ls:List (List UInt8),ls≠[]→Lib.join ls [10]++[10]=txL ls
 | [],h=>absurd rfl h
 | [a],_=>by rw [nN,gM];rfl
 | a::c::r,_=>by
  rw [fN,gM,List.append_assoc,List.append_assoc,aTq (c::r) (by simp)]
  rfl
theorem aFb{s:List UInt8}{k n:Int}{R:List (List Cel)}(hG:nM k R)(hn:n=(R.length:Int)):∀ (l done rest:List (List Cel)) (bf:Nat),done++(l++rest)=R →
  ∃ G1,itB (prF s) ⟨done.length+1,n,bf,false,k,done⟩ (l.map fun x=>(eD k x,true)) = .ok ⟨(done++l).length+1,n,G1,false,k,done++l⟩
 | [],done,rest,bf,h=>⟨bf,by rw [List.append_nil];rfl⟩
 | x::l,done,rest,bf,h=>by
  have hx:x∈R:=by rw [← h];simp
  have hok:=hG.ok x hx;obtain ⟨q1,q2⟩:=kB hok 0;have hlen:=congrArg List.length h;rw [List.cons_append,Bv,Cb] at hlen
  have hrl:=mB hok;obtain ⟨G1,ih⟩:=aFb (s:=s) hG hn l (done++[x]) rest (bf+((eD k x).length+1)) (by rw [← h];simp)
  have e2:done++[x]++l=done++x::l:=by simp
  rw [e2,Bv,List.length_singleton] at ih
  refine ⟨G1,?_⟩;have hf:prF s ⟨done.length+1,n,bf,false,k,done⟩ (eD k x,true) = .ok ⟨done.length+1+1,n,bf+((eD k x).length+1),false,k,done++[x]⟩:=by
   unfold prF;rw [if_neg (by simp),if_neg (by simp),if_pos (by dsimp only;omega)]
   dsimp only;rw [mC,q1,q2];dsimp only;rw [if_neg (by simp [hrl])]
   cases hg:done.getLast? with
   | none=>rfl
   | some c =>
    dsimp only;have:done=done.dropLast++[c]:=by
     have hne:done≠[]:=fun e=>by rw [e] at hg;cases hg
     rw [List.getLast?_eq_some_getLast hne] at hg
     have:=List.dropLast_concat_getLast hne;rw [Option.some.inj hg] at this
     exact this.symm
    have ho:=hG.ord;rw [← h,this,List.cons_append,List.append_assoc] at ho
    have:=aGy done.dropLast c x (l++rest) ho;rw [if_pos this]
  rw [gS,aBe _ hf];exact ih
def dR(k:Int)(R:List (List Cel))(i:Nat):List (List UInt8):=xL k (R.length:Int)::(R.take i).map (eD k)
theorem aLo{s:List UInt8}{k:Int}{R:List (List Cel)}(hG:nM k R)(i:Nat) :
  ∃ bf,itB (prF s) prA ((dR k R i).map fun l=>(l,true)) = .ok ⟨(R.take i).length+1,(R.length:Int),bf,false,k,R.take i⟩:=by
 have hh:=aZx (n:=(R.length:Int)) hG.w (by omega) (by have:=hG.n;omega)
 have Lv:prF s prA (xL k (R.length:Int),true) = .ok ⟨1,(R.length:Int),0+((xL k (R.length:Int)).length+1),false,k,[]⟩:=by
  unfold prF;rw [if_neg (by simp [prA]),if_pos (show prA.nr=0 from rfl)]
  dsimp only [prA];rw [mC,hh,if_neg (by simp)]
  dsimp only;rw [bYt hG.w]
 obtain ⟨bf,hrows⟩:=aFb (s:=s) (n:=(R.length:Int)) hG rfl (R.take i) [] (R.drop i) (0+((xL k (R.length:Int)).length+1)) (by simp)
 refine ⟨bf,?_⟩;unfold dR;rw [gS,aAk,aBe _ Lv];exact hrows
theorem bKl{k:Int}{R:List (List Cel)}(hG:nM k R)(i:Nat):∀ l∈dR k R i,∀ b∈l,b≠10:=fun l hl=>by
 refine wH hG l ?_;unfold dR at hl
 unfold fY
 rcases jU.1 hl with rfl | hl
 ·simp
 ·obtain ⟨x,hx,rfl⟩:=rX.1 hl
  exact Cn _ (aVv (List.mem_of_mem_take hx))
theorem nV{k:Int}{R:List (List Cel)}(hG:nM k R)(i:Nat)(hi:i≤R.length){t x:List UInt8}{b:Bool}{rest:List (List UInt8 × Bool)}(hl:cF t=(x,b)::rest)
  (hs:(txL (dR k R i)++t).length≤65536) {fd er:Int} (hf:∀ s bf,∃ a,prF s ⟨i+1,(R.length:Int),bf,false,k,R.take i⟩ (x,b) = .error (a,((i+2:Nat):Int),fd,er)) :
  prM (txL (dR k R i)++t)=(0,[],((i+2:Nat):Int),fd,er):=by
 unfold prM;rw [if_neg (by omega),wL _ _ (bKl hG i)]
 obtain ⟨bf,h1⟩:=aLo (s:=txL (dR k R i)++t) hG i;rw [pF,Nat.min_eq_left hi] at h1
 obtain ⟨a,h2⟩:=hf (txL (dR k R i)++t) bf;rw [aGz _ _ _ _ _ h1,hl,aPn _ h2]
theorem bPu:∀ t:Int,t=0∨t=1∨t=2∨t=3→(rdM t [45]).2=11:=fun t h=>by
 rcases h with rfl | rfl | rfl | rfl <;> decide +kernel
theorem cBm:∀ t:Int,t=0∨t=1∨t=2∨t=3→(rdM t []).2=11:=fun t h=>by
 rcases h with rfl | rfl | rfl | rfl <;> decide +kernel
theorem yH:∀ (ts:List Int) (us vs:List (List UInt8)) (j i:Nat) (x:List Cel),rdL ts us i = .inl x→us.length=ts.length→j≤us.length→(∀ (t:Int) (v:List UInt8),ts[j]? = some t→vs.head? = some v→(rdM t v).2=11)→j<ts.length →
  rdL ts (us.take j++vs) i = .inr (((i+j+1:Nat):Int),11)
 | [],us,vs,j,i,x,_,_,_,_,hj=>absurd hj (by simp)
 | t::ts,[],vs,j,i,x,_,hl,_,_,_=>by cases hl
 | t::ts,u::us,vs,0,i,x,hx,hl,hj,hv,_=>by
  rw [List.take_zero,List.nil_append];cases vs with
  | nil=>rfl
  | cons v vs =>
   have:=hv t v rfl rfl;unfold rdL;rw [if_pos (by rw [this];decide),this]
 | t::ts,u::us,vs,j+1,i,x,hx,hl,hj,hv,hjt=>by
  rw [List.take_succ_cons,List.cons_append];unfold rdL at hx ⊢
  by_cases h0:(rdM t u).2≠0
  ·rw [if_pos h0] at hx;cases hx
  ·rw [if_neg h0] at hx ⊢
   cases h1:rdL ts us (i+1) with
   | inr p=>rw [h1] at hx;cases hx
   | inl cs =>
    have:=yH ts us vs j (i+1) cs h1 (by simpa using hl) (by simpa using hj) (fun t v h1 h2=>hv t v (by simpa using h1) h2) (by simpa using hjt)
    rw [this];dsimp only;rw [show i+1+j+1=i+(j+1)+1 by omega]
theorem aLp:∀ (ts:List Int) (us vs:List (List UInt8)) (i:Nat),us.length=ts.length→rdL ts (us++vs) i=rdL ts us i
 | [],us,vs,i,_=>by unfold rdL;rfl
 | t::ts,[],vs,i,h=>by cases h
 | t::ts,u::us,vs,i,h=>by
  rw [List.cons_append];unfold rdL;rw [aLp ts us vs (i+1) (by simpa using h)]
theorem aTr{k:Int}{R:List (List Cel)}{i:Nat}(hi:i<R.length){x:List UInt8}{fd er:Int}(h:rdL (aJ k) (spB x) 0 = .inr (fd,er))(s:List UInt8)(bf:Nat) :
  ∃ a,prF s ⟨i+1,(R.length:Int),bf,false,k,R.take i⟩ (x,true) = .error (a,((i+2:Nat):Int),fd,er):=by
 unfold prF;rw [if_neg (by simp),if_neg (by simp),if_pos (by dsimp only;omega)]
 dsimp only;rw [mC,h];exact ⟨_,rfl⟩
theorem bKm{k:Int}{R:List (List Cel)}{i:Nat}(hi:i<R.length){x:List UInt8}{cs:List Cel}(h:rdL (aJ k) (spB x) 0 = .inl cs)(hl:(spB x).length≠(aJ k).length)(s:List UInt8)(bf:Nat) :
  ∃ a,prF s ⟨i+1,(R.length:Int),bf,false,k,R.take i⟩ (x,true) = .error (a,((i+2:Nat):Int),(((aJ k).length+1:Nat):Int),11):=by
 unfold prF;rw [if_neg (by simp),if_neg (by simp),if_pos (by dsimp only;omega)]
 dsimp only;rw [mC,h];dsimp only;rw [if_pos hl];exact ⟨_,rfl⟩
theorem bKn{k:Int}{R:List (List Cel)}{i:Nat}{x:List UInt8}(s:List UInt8)(bf:Nat) :
  ∃ a,prF s ⟨i+1,(R.length:Int),bf,false,k,R.take i⟩ (x,false) = .error (a,((i+2:Nat):Int),1,11):=by
 unfold prF;rw [if_pos (by simp)]
 exact ⟨_,rfl⟩
theorem aFc(k:Int)(c:List Cel):bS k c c=0:=by simp [bS,El,iV]
theorem bCx{k:Int}{R:List (List Cel)}(hG:nM k R){i:Nat}(hi:i+1<R.length){c:List Cel}(hc:R[i]? = some c)(s:List UInt8)(bf:Nat) :
  ∃ a,prF s ⟨i+1+1,(R.length:Int),bf,false,k,R.take (i+1)⟩ (eD k c,true) = .error (a,((i+1+2:Nat):Int),1,5):=by
 have hok:=hG.ok c (B0 hc);obtain ⟨q1,q2⟩:=kB hok 0;have hrl:=mB hok;have hg:(R.take (i+1)).getLast? = some c:=by
  rw [List.getLast?_eq_getElem?,pF,Nat.min_eq_left (by omega),List.getElem?_take_of_lt (by omega)]
  exact hc
 unfold prF;rw [if_neg (by simp),if_neg (by simp),if_pos (by dsimp only;omega)]
 dsimp only;rw [mC,q1,q2];dsimp only;rw [if_neg (by simp [hrl]),hg]
 dsimp only;rw [if_neg (by rw [aFc];decide),if_pos (aFc k c)]
 exact ⟨_,rfl⟩
theorem bCy(k:Int):∃ ts,aJ k=0::ts:=by
 unfold aJ
 repeat' split
 all_goals exact ⟨_,rfl⟩
theorem bCz{k:Int}{c:List Cel}(h:aBa k c):fld (cZ k c) 0≠[115,117,109]:=by
 obtain ⟨ts,ht⟩:=bCy k;have hlen:=h.len;rw [ht] at hlen
 cases hc:c with
 | nil=>rw [hc] at hlen;cases hlen
 | cons a r =>
  have h0:=h.ck 0 0 a (by rw [ht];rfl) (by rw [hc];rfl)
  have h1:=bRu (t:=0) (c:=a) (.inl rfl) h0;intro e;have e2:fld (cZ k (a::r)) 0=wrM 0 a:=by unfold cZ;rw [ht];rfl
  rw [e2] at e
  rw [e] at h1
  have:(rdM 0 [115,117,109]).2=0:=by rw [h1]
  exact absurd this (by decide +kernel)
theorem bKo{k:Int}{R:List (List Cel)}(hG:nM k R){c:List Cel}(hc:c∈R)(s:List UInt8)(bf:Nat) :
  ∃ a,prF s ⟨R.length+1,(R.length:Int),bf,false,k,R.take R.length⟩ (eD k c,true) = .error (a,((R.length+2:Nat):Int),1,11):=by
 have hok:=hG.ok c hc;obtain ⟨q1,q2⟩:=kB hok 0;unfold prF;rw [if_neg (by simp),if_neg (by simp),if_neg (by dsimp only;omega)]
 dsimp only;rw [mC,q1];have:lsM (cZ k c) (bQ (s.take bf))=(1,11):=if_pos (bCz hok);rw [this,if_pos (by decide)]
 exact ⟨_,rfl⟩
theorem bPv{k:Int}{c:List Cel}(h:aBa k c):cZ k c≠[[]]:=fun e=>by
 have h1:=mB h;rw [e] at h1
 have:2≤(aJ k).length:=by
  unfold aJ
  repeat' split
  all_goals decide
 rw [← h1] at this
 exact absurd this (by decide)
theorem aLq:∀ fs:List (List UInt8),fs≠[]→Lib.join (fs++[[]]) [32]=Lib.join fs [32]++[32]
 | [],h=>absurd rfl h
 | [a],_=>by rw [List.singleton_append,fN,nN,nN,List.append_nil]
 | a::c::r,_=>by
  have:=aLq (c::r) (by simp)
  rw [List.cons_append] at this
  rw [List.cons_append,List.cons_append,fN,fN,this];simp
theorem bKp{fs:List (List UInt8)}(h:∀ u∈fs,Cln u)(hn:fs≠[]):spB (Lib.join fs [32]++[32])=fs++[[]]:=by
 rw [← aLq fs hn];refine lJ _ (by simp) (fun u hu => ?_)
 rcases nC.1 hu with h1 | h1
 ·exact h u h1
 ·rw [List.mem_singleton] at h1;subst h1
  exact fun b hb=>by cases hb
theorem aBu{k:Int}{R:List (List Cel)}(hG:nM k R){c:List Cel}(hc:c∈R):∀ b∈eD k c,b≠10:=iA _ (nO (hG.ok c hc))
theorem bPw{fs:List (List UInt8)}(h:∀ u∈fs,Cln u)(j:Nat){v:List UInt8}(hv:Cln v):∀ u∈fs.set j v,Cln u:=fun u hu=>by
 rcases List.mem_or_eq_of_mem_set hu with h1 | rfl
 ·exact h u h1
 ·exact hv
theorem bKq:Cln [45]:=fun b hb=>by
 rw [List.mem_singleton] at hb;subst hb;decide
theorem bKr{α:Type}:∀ (l:List α) (j:Nat) (v:α),j<l.length→l.set j v=l.take j++v::l.drop (j+1)
 | [],j,v,h=>absurd h (by simp)
 | a::l,0,v,_=>rfl
 | a::l,j+1,v,h=>by
  rw [List.set_cons_succ,bKr l j v (by simpa using h)]
  rfl
section
variable {k:Int} {R:List (List Cel)} (hG:nM k R) {i:Nat} {c:List Cel} (hc:R[i]? = some c)
include hG hc
theorem bDa{j:Nat}(hj:j<(aJ k).length)(bh:List UInt8)(hs:(txL (dR k R i)++(Lib.join ((cZ k c).set j [45]) [32]++10::bh)).length≤65536) :
  prM (txL (dR k R i)++(Lib.join ((cZ k c).set j [45]) [32]++10::bh))=(0,[],((i+2:Nat):Int),((j+1:Nat):Int),11):=by
 have hi:=bC hc;have hok:=hG.ok c (B0 hc);have hcl:=bPw (nO hok) j bKq;have hrl:=mB hok;obtain ⟨q1,q2⟩:=kB hok 0;refine nV hG i (by omega) (rS (iA _ hcl)) hs (aTr hi ?_)
 rw [lJ _ (fun e=>by have:=congrArg List.length e;rw [aGh,hrl,List.length_nil] at this;omega) hcl,bKr _ _ _ (by omega)]
 have:=yH (aJ k) (cZ k c) ([45]::(cZ k c).drop (j+1)) j 0 c q2 hrl (by omega) (fun t v h1 h2=>by cases h2;exact bPu t (aBb k t (B0 h1))) hj
 rw [this,iP]
theorem bDb(bh:List UInt8)(hs:(txL (dR k R i)++((eD k c++[32])++10::bh)).length≤65536) :
  prM (txL (dR k R i)++((eD k c++[32])++10::bh))=(0,[],((i+2:Nat):Int),(((aJ k).length+1:Nat):Int),11):=by
 have hi:=bC hc;have hok:=hG.ok c (B0 hc);have hrl:=mB hok;obtain ⟨q1,q2⟩:=kB hok 0;have hsp:spB (eD k c++[32])=cZ k c++[[]]:=bKp (nO hok) (fun e=>by have q:=congrArg List.length e;have:=qL k;rw [hrl,List.length_nil] at q;omega)
 refine nV hG i (by omega) (rS (fun b hb => ?_)) hs (bKm hi (cs:=c) ?_ ?_)
 ·rcases nC.1 hb with h | h
  ·exact aBu hG (B0 hc) b h
  ·rw [List.mem_singleton] at h;subst h;decide
 ·rw [hsp,aLp _ _ _ _ hrl,q2]
 ·rw [hsp,Bv,hrl];simp
theorem aQk{j:Nat}(hj:j<(aJ k).length)(bh:List UInt8)(hs:(txL (dR k R i)++(Lib.join ((cZ k c).take j) [32]++10::bh)).length≤65536) :
  prM (txL (dR k R i)++(Lib.join ((cZ k c).take j) [32]++10::bh))=(0,[],((i+2:Nat):Int),((j+1:Nat):Int),11):=by
 have hi:=bC hc;have hok:=hG.ok c (B0 hc);have hcl:∀ u∈(cZ k c).take j,Cln u:=fun u hu=>nO hok u (List.mem_of_mem_take hu)
 have hrl:=mB hok;obtain ⟨q1,q2⟩:=kB hok 0;refine nV hG i (by omega) (rS (iA _ hcl)) hs (aTr hi ?_)
 cases j with
 | zero =>
  rw [List.take_zero];have:=yH (aJ k) (cZ k c) [[]] 0 0 c q2 hrl (by omega) (fun t v h1 h2=>by cases h2;exact cBm t (aBb k t (B0 h1))) hj
  exact this
 | succ j =>
  rw [lJ _ (fun e=>by have:=congrArg List.length e;rw [pF,hrl,Nat.min_eq_left (by omega)] at this;simp at this) hcl]
  have:=yH (aJ k) (cZ k c) [] (j+1) 0 c q2 hrl (by omega) (fun t v h1 h2=>by cases h2) hj
  rw [List.append_nil] at this
  rw [this,iP]
theorem aQl(bh:List UInt8)(hs:(txL (dR k R i)++(eD k c++10::(eD k c++10::bh))).length≤65536) :
  prM (txL (dR k R i)++(eD k c++10::(eD k c++10::bh)))=(0,[],((i+3:Nat):Int),1,if i+1=R.length then 11 else 5):=by
 have hi:=bC hc;have hm:=B0 hc;have e:dR k R (i+1)=dR k R i++[eD k c]:=by
  unfold dR;rw [List.take_add_one,hc];simp
 have e2:txL (dR k R i)++(eD k c++10::(eD k c++10::bh))=txL (dR k R (i+1))++(eD k c++10::bh):=by
  rw [e,uY,gM,List.append_assoc];simp [txL]
 rw [e2] at hs ⊢
 refine nV hG (i+1) (by omega) (rS (aBu hG hm)) hs (fun s bf => ?_)
 by_cases hq:i+1=R.length
 ·rw [if_pos hq,hq]
  exact bKo hG hm s bf
 ·rw [if_neg hq]
  exact bCx hG (by omega) hc s bf
theorem bDc(hs:(txL (dR k R i)++eD k c).length≤65536) :
  prM (txL (dR k R i)++eD k c)=(0,[],((i+2:Nat):Int),1,11):=by
 have hi:=bC hc;have hok:=hG.ok c (B0 hc);have hne:eD k c≠[]:=fun e=>by
  obtain ⟨q1,q2⟩:=kB hok 0;have hf:=bPv hok;rw [e] at q1
  exact hf q1.symm
 exact nV hG i (by omega) (aQj hne (aBu hG (B0 hc))) hs (fun s bf=>bKn s bf)
end
theorem aLr{k:Int}{R:List (List Cel)}(hc:dZ k R=0){t:List UInt8}(ht:t≠[])(hs:((qE k R).1++t).length≤65536) :
  prM ((qE k R).1++t)=(0,[],((R.length+3:Nat):Int),1,11):=by
 have hG:=aSo hc;have hp:=aHc hc;rw [hp] at hs ⊢
 dsimp only at hs ⊢
 generalize hv:kW (iX k R)=v at hs ⊢
 have hvb:0≤v∧v≤65520:=by rw [← hv];exact aHa _
 have hbl:=aAz hc;have hsv:v=bQ (iX k R):=by rw [← hv];exact if_pos (by omega)
 have hno:∀ l∈fY k R++[rY v],∀ b∈l,b≠10:=fun l hl=>by
  rcases nC.1 hl with h | h
  ·exact wH hG l h
  ·rw [List.mem_singleton] at h;subst h
   exact iA _ (aHb hvb.1)
 generalize hS:txL (fY k R++[rY v])++t=s at hs ⊢
 have hlines:cF s=(fY k R++[rY v]).map (fun l=>(l,true))++cF t:=by rw [← hS];exact wL _ _ hno
 have Cr:s.take (txL (fY k R)).length=iX k R:=by
  rw [← hS,uY,List.append_assoc,List.take_left,uZ]
 obtain ⟨bf,hbody⟩:=aLo (s:=s) hG R.length;have epre:dR k R R.length=fY k R:=by unfold dR fY;rw [List.take_length]
 rw [epre,List.take_length] at hbody
 have hbf:bf=(txL (fY k R)).length:=by
  have:=(vE _ [] prA _ aPs hbody).bf;rw [List.nil_append,bIe] at this
  exact this
 have G7:prF s ⟨R.length+1,(R.length:Int),bf,false,k,R⟩ (rY v,true) = .ok ⟨R.length+1+1,(R.length:Int),bf+((rY v).length+1),true,k,R⟩:=by
  unfold prF;rw [if_neg (by simp),if_neg (by simp),if_neg (by dsimp only;omega)]
  dsimp only;rw [mC,hbf,Cr,← hsv,aZy hvb.1 hvb.2,if_neg (by simp)]
 have Bl:∃ x b r,cF t=(x,b)::r:=⟨_,_,_,eH ht⟩;obtain ⟨x,b,r,Bl⟩:=Bl;unfold prM;rw [if_neg (by omega),hlines,rW,List.append_assoc,aGz _ _ _ _ _ hbody,gS,List.cons_append,aBe _ G7,List.map_nil,List.nil_append,Bl]
 have Sf:prF s ⟨R.length+1+1,(R.length:Int),bf+((rY v).length+1),true,k,R⟩ (x,b) = .error (⟨R.length+1+1+1,(R.length:Int),bf+((rY v).length+1),true,k,R⟩,((R.length+1+1+1:Nat):Int),1,11):=by
  unfold prF;rw [if_pos (.inl rfl)]
 rw [aPn _ Sf]
theorem bKs{k:Int}{R:List (List Cel)}(hc:dZ k R=0){x:List Cel}(hx:x∈R):(eD k x).length≤268:=(aAt (uT hc) hx).2
theorem bPx{k:Int}{R:List (List Cel)}(hc:dZ k R=0)(i:Nat):(txL (dR k R i)).length≤61000:=by
 have h1:=aAz hc;rw [uZ] at h1
 have:fY k R=dR k R i++(R.drop i).map (eD k):=by
  unfold fY dR;rw [List.cons_append,← rW,aVt]
 rw [this,uY,Bv] at h1
 omega
end KV
end Go.Proofs
end
section
namespace Go.Proofs
open Go.RowKit
namespace KV
open Tryz
def bSy(n i:Nat)(q:List UInt8 × Int × Int × Int):Prop :=
 (prM q.1).2.2.1=q.2.1∧(prM q.1).2.2.2.1=q.2.2.1∧(prM q.1).2.2.2.2=if q.2.2.2=5∧i+1=n then 11 else q.2.2.2
theorem aWe{v:Int}{R:List (List Cel)}{i q:Nat}{X:List (List UInt8 × Int × Int × Int)}{x:List UInt8 × Int × Int × Int}(hX:X.length=6)(hR:R.length≤1000)(hx:X[q]? = some x)(h:bSy R.length i x) :
  aA Tp 0 (sub (cd Tryz.f9) ao) (gB v R (i:Int) q X.length ((X.map fcE).flatten)) .normal (gB v R (i:Int) (q+1) X.length ((X.map fcE).flatten)):=by
 have hq:=bC hx;obtain ⟨u,a,b,e⟩:=x;obtain ⟨h1,h2,h3⟩:=h;dsimp only at h1 h2 h3
 by_cases he:e=5
 ·by_cases hi:i+1=R.length
  ·rw [if_pos ⟨he,hi⟩] at h3
   exact aWi (by omega) (by omega) hx he (by show _∧_;omega) (by omega) h3 h1 h2 (aR (by omega)) rfl
  ·rw [if_neg (fun q=>hi q.2)] at h3
   exact aWj (by omega) (by omega) hx he (by show _∧_;omega) (by omega) h3 h1 h2 (aR (by omega)) rfl
 ·rw [if_neg (fun q=>he q.1)] at h3
  exact aOb (by omega) (by omega) hx he h3 h1 h2 (aR (by omega)) rfl
theorem bFs{v:Int}{R:List (List Cel)}{i:Nat}{X:List (List UInt8 × Int × Int × Int)}(hX:X.length=6)(hR:R.length≤1000)(h:∀ x∈X,bSy R.length i x) :
  aF Tp 0 (sub (cd Tryz.f9) ao) (gB v R (i:Int) 0 X.length ((X.map fcE).flatten)) (.exit 0) (gB v R (i:Int) X.length X.length ((X.map fcE).flatten)) :=
 aF.range (P:=Tp) (k:=0) (b:=(sub (cd Tryz.f9) ao)) (e := .exit 0) (fun j (_:Unit)=>gB v R (i:Int) j X.length ((X.map fcE).flatten)) (fun _=>gB v R (i:Int) X.length X.length ((X.map fcE).flatten)) (fun _ _=>()) (fun _ _=>True) (by simp) X (a0:=()) trivial
  (fun j x o hx _=>⟨trivial,aWe hX hR hx (h x (B0 hx))⟩)
  (fun o _=>aOc (by omega))
theorem aKb:∀ (fs:List (List UInt8)) (u:List UInt8),u∈fs→u.length≤(Lib.join fs [32]).length
 | [],u,h=>by cases h
 | [a],u,h=>by rw [List.mem_singleton] at h;subst h;rw [nN];exact dD _
 | a::c::r,u,h=>by
  rw [fN,Bv,Bv]
  rcases jU.1 h with rfl | h
  ·omega
  ·have:=aKb (c::r) u h;omega
theorem bSz(l:List Int)(v w g:Int)(h:List UInt8)(ha:aSf){base:Nat}:FV Tp 9 [.p (.sl l.length (l.map dW)),.p (aB v),.p (aB w),.p (aB g),.p (aD h)] base (.p (blP true)) []:=by
 obtain ⟨R,m,t,hG,hn,_,_,hM⟩:=bTk l 0 17 (bM v) 12 (aGo v) (by decide) (by decide)
 have hc:=bYq hG;have hpl:=bOn hc;obtain ⟨T,hT⟩:∃ T,qE (bM v) R=(T,0):=⟨(qE (bM v) R).1,by rw [aHc hc]⟩
 by_cases hh:1000<h.length
 ·exact bTd hM hT (by omega) ha
 have hV:=aHa (iX (bM v) R);have htx:T=txL (fY (bM v) R++[rY (kW (iX (bM v) R))]):=by
  have:=congrArg Prod.fst hT;rw [aHc hc] at this
  exact this.symm
 have hno:∀ y∈fY (bM v) R++[rY (kW (iX (bM v) R))],∀ b∈y,b≠10:=fun y hy=>by
  rcases nC.1 hy with h | h
  ·exact wH hG y h
  ·rw [List.mem_singleton] at h;subst h
   exact iA _ (aHb hV.1)
 have hs:aO T [10]=fY (bM v) R++[rY (kW (iX (bM v) R))]++[[]]:=by rw [htx,aLs _ hno]
 have Cr:(fY (bM v) R).length=R.length+1:=by unfold fY;rw [Cb,kI]
 have hlen:(aO T [10]).length=R.length+3:=by rw [hs,Bv,Bv,Cr];rfl
 have hcl:=kA (bM v);have hcp:=qL (bM v);have hTl:T.length≤62000:=by rw [hT] at hpl;exact hpl
 by_cases h0:R.length=0
 ·exact bTe hM hT (by omega) (by omega) (by decide) (aGo v) (by omega) (by simp) (aR (by omega)) (by omega) (by omega) ha
 obtain ⟨f4,h4⟩:∃ f,aAp w (R.length:Int)=f:=⟨_,rfl⟩;obtain ⟨f5,h5⟩:∃ f,aAp g ((aJ (bM v)).length:Int)=f:=⟨_,rfl⟩;have b4:=aGn w (n:=(R.length:Int)) (by omega)
 have b5:=aGn g (n:=((aJ (bM v)).length:Int)) (by omega)
 rw [h4] at b4
 rw [h5] at b5
 obtain ⟨i,rfl⟩:∃ i:Nat,f4=(i:Int):=⟨f4.toNat,by omega⟩
 obtain ⟨j,rfl⟩:∃ j:Nat,f5=(j:Int):=⟨f5.toNat,by omega⟩
 have hi:i<R.length:=by omega
 have hj:j<(aJ (bM v)).length:=by omega
 obtain ⟨c,hci⟩:∃ c,R[i]? = some c:=⟨_,Bw hi⟩;have hcm:=B0 hci;have hok:=hG.ok c hcm;have hrl:=mB hok;obtain ⟨q1,q2⟩:=kB hok 0;have hbp:fY (bM v) R=dR (bM v) R i++(R.drop i).map (eD (bM v)):=by
  unfold fY dR;rw [List.cons_append,← rW,aVt]
 have hPl:(dR (bM v) R i).length=i+1:=by unfold dR;rw [Cb,kI,pF,Nat.min_eq_left (by omega)]
 have hPt:=bPx hc i;have hul:=bKs hc hcm;have J1:Lib.join (dR (bM v) R i) [10]++[10]=txL (dR (bM v) R i):=aTq _ (by unfold dR;simp)
 have P0:(Lib.join (dR (bM v) R i) [10]).length+1=(txL (dR (bM v) R i)).length:=by rw [← J1,Bv];rfl
 have e1:((i:Int)+1).toNat=i+1:=by omega
 have ej:((j:Int)).toNat=j:=by omega
 have hsp:aO (eD (bM v) c) [32]=cZ (bM v) c:=by rw [mC,q1]
 have t6:(((aO T [10]).map stE).flatten).take (((i:Int)+1).toNat*1)=((dR (bM v) R i).map stE).flatten:=by
  rw [e1,Nat.mul_one,dY,dY,← List.map_take,hs,hbp,List.append_assoc,List.append_assoc,← hPl,List.take_left]
 have u7:(aO T [10])[((i:Int)+1).toNat]? = some (eD (bM v) c):=by
  rw [e1,hs,hbp,List.append_assoc,List.append_assoc,aJy (by omega),hPl,aVz,bMc hi]
  rw [Bw hi] at hci
  cases hci;rfl
 have hmem:∀ u∈cZ (bM v) c,u.length≤268:=fun u hu=>iE (aKb _ u hu) hul
 have l9:((cZ (bM v) c).set j [45]).length=(cZ (bM v) c).length:=aGh;have J9:=jZ 268 ((cZ (bM v) c).set j [45]) (fun u hu=>by
  rcases List.mem_or_eq_of_mem_set hu with h1 | rfl
  ·exact hmem u h1
  ·decide)
 have J10:=jZ 268 ((cZ (bM v) c).take j) (fun u hu=>hmem u (List.mem_of_mem_take hu))
 have l10:((cZ (bM v) c).take j).length=j:=by rw [pF];omega
 rw [l9] at J9
 rw [l10] at J10
 have J9b:(Lib.join ((cZ (bM v) c).set j [45]) [32]).length≤1076:=by omega
 have J10b:(Lib.join ((cZ (bM v) c).take j) [32]).length≤1076:=by omega
 have t9:((((cZ (bM v) c).map stE).flatten).set (((j:Int)).toNat*1) (aD [45]))=(((cZ (bM v) c).set j [45]).map stE).flatten:=by
  rw [ej,Nat.mul_one,dY,dY,List.map_set]
 have P1:(((aO (eD (bM v) c) [32]).map stE).flatten).take (((j:Int)).toNat*1)=(((cZ (bM v) c).take j).map stE).flatten:=by
  rw [ej,Nat.mul_one,dY,dY,← List.map_take,hsp]
 have x1:((((Lib.join (dR (bM v) R i) [10])++[10])++(Lib.join ((cZ (bM v) c).set j [45]) [32]))++[10])++h=txL (dR (bM v) R i)++(Lib.join ((cZ (bM v) c).set j [45]) [32]++10::h):=by rw [J1];simp
 have x2:((((Lib.join (dR (bM v) R i) [10])++[10])++eD (bM v) c)++[32,10])++h=txL (dR (bM v) R i)++((eD (bM v) c++[32])++10::h):=by rw [J1];simp
 have x3:((((Lib.join (dR (bM v) R i) [10])++[10])++(Lib.join ((cZ (bM v) c).take j) [32]))++[10])++h=txL (dR (bM v) R i)++(Lib.join ((cZ (bM v) c).take j) [32]++10::h):=by rw [J1];simp
 have x4:((((((Lib.join (dR (bM v) R i) [10])++[10])++eD (bM v) c)++[10])++eD (bM v) c)++[10])++h=txL (dR (bM v) R i)++(eD (bM v) c++10::(eD (bM v) c++10::h)):=by rw [J1];simp
 have x5:((Lib.join (dR (bM v) R i) [10])++[10])++eD (bM v) c=txL (dR (bM v) R i)++eD (bM v) c:=by rw [J1]
 have x6:(T++[120])++h=(qE (bM v) R).1++(120::h):=by rw [hT];simp
 have c1:=bDa hG hci hj h (by simp only [Bv,Cb];omega)
 have c2:=bDb hG hci h (by simp only [Bv,Cb,List.length_nil];omega)
 have c3:=aQk hG hci hj h (by simp only [Bv,Cb];omega)
 have c4:=aQl hG hci h (by simp only [Bv,Cb];omega)
 have c5:=bDc hG hci (by simp only [Bv];omega)
 have c6:=aLr hc (t:=120::h) (by simp) (by rw [hT];simp only [Bv,Cb];omega)
 have L:=bFs (v:=v) (R:=R) (i:=i) (X:=[
  (((((Lib.join (dR (bM v) R i) [10])++[10])++(Lib.join ((cZ (bM v) c).set j [45]) [32]))++[10])++h,(i:Int)+2,(j:Int)+1,11),
  (((((Lib.join (dR (bM v) R i) [10])++[10])++eD (bM v) c)++[32,10])++h,(i:Int)+2,(((aJ (bM v)).length+1:Nat):Int),11),
  (((((Lib.join (dR (bM v) R i) [10])++[10])++(Lib.join ((cZ (bM v) c).take j) [32]))++[10])++h,(i:Int)+2,if (j:Int)+1 > 1 then (j:Int)+1 else 1,11),
  (((((((Lib.join (dR (bM v) R i) [10])++[10])++eD (bM v) c)++[10])++eD (bM v) c)++[10])++h,(i:Int)+3,1,5),
  (((Lib.join (dR (bM v) R i) [10])++[10])++eD (bM v) c,(i:Int)+2,1,11),
  ((T++[120])++h,((R.length+3:Nat):Int),1,11)]) rfl (by omega) (fun x hx=>by
   simp only [jU,List.mem_nil_iff,or_false] at hx
   unfold bSy
   rcases hx with rfl | rfl | rfl | rfl | rfl | rfl
   ·dsimp only;rw [x1,c1];exact ⟨by dsimp only;omega,by dsimp only;omega,by simp⟩
   ·dsimp only;rw [x2,c2];exact ⟨by dsimp only;omega,rfl,by simp⟩
   ·dsimp only;rw [x3,c3];exact ⟨by dsimp only;omega,by dsimp only;split <;> omega,by simp⟩
   ·dsimp only;rw [x4,c4];exact ⟨by dsimp only;omega,rfl,by simp⟩
   ·dsimp only;rw [x5,c5];exact ⟨by dsimp only;omega,rfl,by simp⟩
   ·dsimp only;rw [x6,c6];exact ⟨rfl,rfl,by simp⟩)
 refine bTf (J6:=dR (bM v) R i) (u7:=eD (bM v) c) (F8:=cZ (bM v) c) (J9:=(cZ (bM v) c).set j [45]) (J10:=(cZ (bM v) c).take j) hM hT (by omega) (by omega) (by decide) (aGo v) (by omega) (by simp) (aR (by omega)) (by omega) (by omega) (by omega) h4 (by omega) h5 (by show _∧_;omega) ?_ (by omega) t6 (by omega) (by omega) ?_ u7 (by omega) hsp (by omega) (by omega) (by omega) ?_ l9.symm t9 (by omega) (by omega) ?_ ?_ ?_ (by show _∧_;omega) (by show _∧_;omega) ?_ ?_ ?_ (by show _∧_;omega) (by decide) ?_ (by omega) P1 (by omega) (by omega) ?_ ?_ ?_ ?_ ?_ ?_ ?_ (by show _∧_;omega) ?_ ?_ L ha
 all_goals first | (simp only [dY,kI,Bv,Cb,List.length_nil,hlen,hsp,hrl];omega) | (simp only [dY,kI,hlen,hsp,hrl];refine ⟨?_,?_,?_,?_⟩ <;> omega)
end KV
end Go.Proofs
end
namespace Go.Proofs
namespace KV
open Tryz
section
variable {xb:Bool}{k Ac:Int}{i i' nl Fl Cu:Nat}

noncomputable abbrev kS:Code:=pS (cd Tryz.f79) 7 [0,1,0,1]
noncomputable abbrev vI:Code:=pS (cd Tryz.f79) 7 [0,1,0,1,0,1,1,1,0,1,0,0]
def dA(k:Int)(nl Rn:Nat)(Rc:List PV)(me:List (Value × PV))(mk:Nat):St:=⟨fr 176 [(2,(.ptr 0 0)),(4,(.ptr 1 0)),(5,(.ptr 2 0)),(6,(.ptr 3 0)),(7,(.ptr 4 0)),(8,(.ptr 6 0)),(9,(.ptr 7 0)),(10,(.ptr 8 0)),(11,(pI (aM k))),(12,(.ptr 10 0)),(13,(.ptr 11 0)),(35,(.ptr 5 0)),(44,(.fn 175 [] [(.ptr 12 0)]))],[some (.box 23 [(pI k)]),some (.box 26 [(pI 0),(.p bK)]),some (.box 3 [(pI 0)]),some (.box 3 [(pI 0)]),some (.box 27 [(pI 0)]),some (.box 158 [(pI k),(.own 13),(pI 0),(pI 0),(pI 0)]),some (.box 156 [(.ptr 5 0)]),some (.box 260 [(.fn 164 [(.p (aD ([9,13,32]:List UInt8)))] [])]),some (.box 65 [(.p (bD (aJ k)))]),some (.mp me mk),some (.box 247 [(.mp 9)]),some (.box 3 [(pI (nl:Int))]),some .dead,some (.row 78 Rn Rc)]⟩
def wN(k:Int)(s:List UInt8):St:=⟨fr 176 [(2,(.ptr 0 0)),(4,(.ptr 1 0)),(5,(.ptr 2 0)),(6,(.ptr 3 0)),(7,(.ptr 4 0)),(8,(.ptr 6 0)),(9,(.ptr 7 0)),(10,(.ptr 8 0)),(11,(pI (aM k))),(12,(.ptr 10 0)),(13,(.ptr 11 0)),(35,(.ptr 5 0)),(44,(.fn 175 [] [(.ptr 12 0)]))],[some (.box 23 [(pI k)]),some (.box 26 [(pI 0),(.p bK)]),some (.box 3 [(pI 0)]),some (.box 3 [(pI 0)]),some (.box 27 [(pI 0)]),some (.box 158 [(pI k),(.p bK),(pI 0),(pI 0),(pI 0)]),some (.box 156 [(.ptr 5 0)]),some (.box 260 [(.fn 164 [(.p (aD ([9,13,32]:List UInt8)))] [])]),some (.box 65 [(.p (bD (aJ k)))]),some (.mp [] 0),some (.box 247 [(.mp 9)]),some (.box 3 [(pI 0)]),some (.box 9 [(.p (aD s))])]⟩
theorem cCe{s:List UInt8}{Oc:Nat}{R'1 Dr:List (List Cel)}(h0:(within k 0 4)=true)(h1:(s.length:Int)≤65536)(Bl:aA Tp 0 (sub (cd Tryz.f79) be) (wN k s) .normal (dA k Oc R'1.length ((R'1.map rwE).flatten) ((bO k) Dr) Dr.length))(h3:(R'1.length:Int)≤200)(Jr:R'1.length≤12)(Sg:1≤R'1.length)(N8:∀ x∈R'1,aM k≤(x.length:Int)):FMM Tp 79 [(pI k),(.p (aD s))] [] (.tup [(.p (.agg [(aB k),(.sl ((isG (bS k) R'1).length) (((isG (bS k) R'1).map rwE).flatten))])),(pI 0),(pI 0),(pI 0)]) []:=have k1:=fk 5 (oN k) rfl;have k2:=fk 8 (eT k) rfl;have k3:=mq [13,0] 14 (cBb (D:=R'1) (k:=k) Jr Sg N8);have k4:=mq [5,13] 14 (bIr (k:=k) (l:=(0:Int)) (f:=(0:Int)) (e:=0) (n:=((isG (bS k) R'1).length)) (cs:=(((isG (bS k) R'1).map rwE).flatten)) rfl);FMM.fi 0 ⟨[],[],[13],[]⟩ func79 [k1.o,bF,bF,k2.o,.c (.fn 175 [] [(.ptr 12 0)]) [(12,(.box 9 [(.p (aD s))]))],Bl.k 1 ⟨(rng [(0,2),(3,1),(14,21),(36,8),(45,110),(169,1)]),(rng [(0,13)]),[],[]⟩,bF,k3.o,k4.o] (gc k4 (gc k3 (gc (bH h3) (gc Bl (gt (FC Tp 88 [(.p (aD s))] [] 12 (.fn 175 [] [(.ptr 12 0)]) [(12,(.box 9 [(.p (aD s))]))]) (FMM.fcN (k:=1) rfl (ids:=[]) (aHg (s:=s)) (by kernel_rfl)) (gc k2 (gc (bH h1) (gc (aW h0) (gc k1 gn)))))))))
def dV(k:Int)(nl:Nat)(R m:List (List Cel))(xl Aa:List UInt8)(i fsn:Nat)(fsc:List PV):St:=⟨fr 176 [(2,(.ptr 0 0)),(4,(.ptr 1 0)),(5,(.ptr 2 0)),(6,(.ptr 3 0)),(7,(.ptr 4 0)),(8,(.ptr 6 0)),(9,(.ptr 7 0)),(10,(.ptr 8 0)),(11,(pI (aM k))),(12,(.ptr 10 0)),(13,(.ptr 11 0)),(14,(.p (aD xl))),(15,(.own 14)),(35,(.ptr 5 0)),(44,(.fn 175 [] [(.ptr 12 0)])),(45,(.p (aD xl))),(47,(pI (nl:Int))),(48,(pI (((nl+1):Nat):Int))),(49,(.p (aD xl))),(50,(.fn 164 [(.p (aD ([9,13,32]:List UInt8)))] [])),(51,(.own 14)),(52,(.own 14)),(53,(pI ((cH xl).length:Int))),(54,(pB (((cH xl).length:Int) == 0))),(55,(pB (((cH xl).length:Int) == 0))),(56,(.own 14)),(57,(.ptr 14 0)),(58,(.p (aD Aa))),(59,(pB (decide (Aa=([107,108,105,115,116,101,114]:List UInt8))))),(60,(pB (decide (Aa=([107,108,105,115,116,101,114]:List UInt8))))),(61,(pB (decide (Aa=([107,108,105,115,116,101,114]:List UInt8))))),(62,(.own 14)),(63,(.ptr 14 0)),(64,(.p (aD Aa))),(65,(pB (decide (Aa=([115,117,109]:List UInt8))))),(66,(pB (decide (Aa=([115,117,109]:List UInt8))))),(67,(.own 14)),(68,(pI ((cH xl).length:Int))),(69,(pI (i:Int)))],[some (.box 23 [(pI k)]),some (.box 26 [(pI 0),(.p bK)]),some (.box 3 [(pI 0)]),some (.box 3 [(pI 0)]),some (.box 27 [(pI 0)]),some (.box 158 [(pI k),(.own 13),(pI 0),(pI 0),(pI 0)]),some (.box 156 [(.ptr 5 0)]),some (.box 260 [(.fn 164 [(.p (aD ([9,13,32]:List UInt8)))] [])]),some (.box 65 [(.p (bD (aJ k)))]),some (.mp ((bO k) m) m.length),some (.box 247 [(.mp 9)]),some (.box 3 [(pI (((nl+1):Nat):Int))]),some .dead,some (.row 78 R.length ((R.map rwE).flatten)),some (.row 9 fsn fsc)]⟩
theorem bDh{R m:List (List Cel)}{xl:List UInt8}(h0:inR (((nl+1):Nat):Int))(Db:xl.length≤90000)(Ez:∀ b∈xl,b.toNat<128)(h3:((cH xl).length:Int)=0)(C5:Fl=(nl+1)):bW Tp 14 13 kS (pH (dA k nl R.length ((R.map rwE).flatten) ((bO k) m) m.length) 45 46 14 xl xb) .normal (dA k Fl R.length ((R.map rwE).flatten) ((bO k) m) m.length).m:=by
 subst C5;have raw:bW Tp 14 13 kS (pH (dA k nl R.length ((R.map rwE).flatten) ((bO k) m) m.length) 45 46 14 xl xb) .normal (dA k (nl+1) R.length ((R.map rwE).flatten) ((bO k) m) m.length).m:=⟨⟨fr 176 [(2,(.ptr 0 0)),(4,(.ptr 1 0)),(5,(.ptr 2 0)),(6,(.ptr 3 0)),(7,(.ptr 4 0)),(8,(.ptr 6 0)),(9,(.ptr 7 0)),(10,(.ptr 8 0)),(11,(pI (aM k))),(12,(.ptr 10 0)),(13,(.ptr 11 0)),(35,(.ptr 5 0)),(44,(.fn 175 [] [(.ptr 12 0)]))],[some (.box 23 [(pI k)]),some (.box 26 [(pI 0),(.p bK)]),some (.box 3 [(pI 0)]),some (.box 3 [(pI 0)]),some (.box 27 [(pI 0)]),some (.box 158 [(pI k),(.own 13),(pI 0),(pI 0),(pI 0)]),some (.box 156 [(.ptr 5 0)]),some (.box 260 [(.fn 164 [(.p (aD ([9,13,32]:List UInt8)))] [])]),some (.box 65 [(.p (bD (aJ k)))]),some (.mp ((bO k) m) m.length),some (.box 247 [(.mp 9)]),some (.box 3 [(pI (((nl+1):Nat):Int))]),some .dead,some (.row 78 R.length ((R.map rwE).flatten))]⟩,⟨[],[13],[],[]⟩,aA.fin (g:=⟨(rng [(0,2),(3,1),(14,21),(36,8),(45,110),(169,1)]),[],[],[]⟩) (o:=[.c (.own 14) [(14,(.row 9 ((cH xl).length) (((cH xl).map stE).flatten)))],bT,bT,bT,bT,bT]) (l:=[_,_,_,_,_,_,_]) (by kernel_rfl) (Cg (dC h3) (gc (fk 14 (qU xl [9,13,32] Db Ez) rfl) (gc h0 gn))),by kernel_rfl,(⟨fr 176 [(2,(.ptr 0 0)),(4,(.ptr 1 0)),(5,(.ptr 2 0)),(6,(.ptr 3 0)),(7,(.ptr 4 0)),(8,(.ptr 6 0)),(9,(.ptr 7 0)),(10,(.ptr 8 0)),(11,(pI (aM k))),(12,(.ptr 10 0)),(13,(.ptr 11 0)),(35,(.ptr 5 0)),(44,(.fn 175 [] [(.ptr 12 0)]))],[some (.box 23 [(pI k)]),some (.box 26 [(pI 0),(.p bK)]),some (.box 3 [(pI 0)]),some (.box 3 [(pI 0)]),some (.box 27 [(pI 0)]),some (.box 158 [(pI k),(.own 13),(pI 0),(pI 0),(pI 0)]),some (.box 156 [(.ptr 5 0)]),some (.box 260 [(.fn 164 [(.p (aD ([9,13,32]:List UInt8)))] [])]),some (.box 65 [(.p (bD (aJ k)))]),some (.mp ((bO k) m) m.length),some (.box 247 [(.mp 9)]),some (.box 3 [(pI (((nl+1):Nat):Int))]),some .dead,some (.row 78 R.length ((R.map rwE).flatten))]⟩:St).t,by kernel_rfl⟩
 exact raw
theorem bDi{R m:List (List Cel)}{xl Aa:List UInt8}(h0:inR (((nl+1):Nat):Int))(Db:xl.length≤90000)(Ez:∀ b∈xl,b.toNat<128)(h3:((cH xl).length:Int)≠0)(h4:0≤(0:Int)∧(0:Int)<((cH xl).length:Int))(h5:(cH xl)[0]? = some (Aa))(h6:Aa=([107,108,105,115,116,101,114]:List UInt8))(C5:Fl=(nl+1)):bW Tp 14 13 kS (pH (dA k nl R.length ((R.map rwE).flatten) ((bO k) m) m.length) 45 46 14 xl xb) .normal (dA k Fl R.length ((R.map rwE).flatten) ((bO k) m) m.length).m:=by
 subst C5
 have raw:bW Tp 14 13 kS (pH (dA k nl R.length ((R.map rwE).flatten) ((bO k) m) m.length) 45 46 14 xl xb) .normal (dA k (nl+1) R.length ((R.map rwE).flatten) ((bO k) m) m.length).m:=⟨⟨fr 176 [(2,(.ptr 0 0)),(4,(.ptr 1 0)),(5,(.ptr 2 0)),(6,(.ptr 3 0)),(7,(.ptr 4 0)),(8,(.ptr 6 0)),(9,(.ptr 7 0)),(10,(.ptr 8 0)),(11,(pI (aM k))),(12,(.ptr 10 0)),(13,(.ptr 11 0)),(35,(.ptr 5 0)),(44,(.fn 175 [] [(.ptr 12 0)]))],[some (.box 23 [(pI k)]),some (.box 26 [(pI 0),(.p bK)]),some (.box 3 [(pI 0)]),some (.box 3 [(pI 0)]),some (.box 27 [(pI 0)]),some (.box 158 [(pI k),(.own 13),(pI 0),(pI 0),(pI 0)]),some (.box 156 [(.ptr 5 0)]),some (.box 260 [(.fn 164 [(.p (aD ([9,13,32]:List UInt8)))] [])]),some (.box 65 [(.p (bD (aJ k)))]),some (.mp ((bO k) m) m.length),some (.box 247 [(.mp 9)]),some (.box 3 [(pI (((nl+1):Nat):Int))]),some .dead,some (.row 78 R.length ((R.map rwE).flatten))]⟩,⟨[],[13],[],[]⟩,aA.fin (g:=⟨(rng [(0,2),(3,1),(14,21),(36,8),(45,110),(169,1)]),[],[],[]⟩) (o:=[.c (.own 14) [(14,(.row 9 ((cH xl).length) (((cH xl).map stE).flatten)))],bF,bF,bF,.x (aD Aa),bF,bF,bT,bT,bT,bT,bT]) (l:=[(decide (Aa=([107,108,105,115,116,101,114]:List UInt8)))=true,(decide (Aa=([107,108,105,115,116,101,114]:List UInt8)))=true,(decide (Aa=([107,108,105,115,116,101,114]:List UInt8)))=true,(decide (Aa=([107,108,105,115,116,101,114]:List UInt8)))=true,(decide (Aa=([107,108,105,115,116,101,114]:List UInt8)))=true,_,_,(((cH xl).map stE).flatten)[0]? = some (aD Aa),_,_,_,_,_,_]) (by kernel_rfl) (Cg (decide_eq_true h6) (A4 (bJ h3) (gc (aL (E:=stE) (i:=0) (f:=0) (k:=1) (fun _=>rfl) h5 rfl) (gc (bJ h3) (gc h4 (A4 (bJ h3) (gc (fk 14 (qU xl [9,13,32] Db Ez) rfl) (gc h0 gn)))))))),by kernel_rfl,(⟨fr 176 [(2,(.ptr 0 0)),(4,(.ptr 1 0)),(5,(.ptr 2 0)),(6,(.ptr 3 0)),(7,(.ptr 4 0)),(8,(.ptr 6 0)),(9,(.ptr 7 0)),(10,(.ptr 8 0)),(11,(pI (aM k))),(12,(.ptr 10 0)),(13,(.ptr 11 0)),(35,(.ptr 5 0)),(44,(.fn 175 [] [(.ptr 12 0)]))],[some (.box 23 [(pI k)]),some (.box 26 [(pI 0),(.p bK)]),some (.box 3 [(pI 0)]),some (.box 3 [(pI 0)]),some (.box 27 [(pI 0)]),some (.box 158 [(pI k),(.own 13),(pI 0),(pI 0),(pI 0)]),some (.box 156 [(.ptr 5 0)]),some (.box 260 [(.fn 164 [(.p (aD ([9,13,32]:List UInt8)))] [])]),some (.box 65 [(.p (bD (aJ k)))]),some (.mp ((bO k) m) m.length),some (.box 247 [(.mp 9)]),some (.box 3 [(pI (((nl+1):Nat):Int))]),some .dead,some (.row 78 R.length ((R.map rwE).flatten))]⟩:St).t,by kernel_rfl⟩
 exact raw
theorem bDj{R m:List (List Cel)}{xl Aa:List UInt8}(h0:inR (((nl+1):Nat):Int))(Db:xl.length≤90000)(Ez:∀ b∈xl,b.toNat<128)(h3:((cH xl).length:Int)≠0)(h4:0≤(0:Int)∧(0:Int)<((cH xl).length:Int))(h5:(cH xl)[0]? = some (Aa))(h6:Aa≠([107,108,105,115,116,101,114]:List UInt8))(h7:Aa=([115,117,109]:List UInt8))(C5:Fl=(nl+1)):bW Tp 14 13 kS (pH (dA k nl R.length ((R.map rwE).flatten) ((bO k) m) m.length) 45 46 14 xl xb) .normal (dA k Fl R.length ((R.map rwE).flatten) ((bO k) m) m.length).m:=by
 subst C5
 have raw:bW Tp 14 13 kS (pH (dA k nl R.length ((R.map rwE).flatten) ((bO k) m) m.length) 45 46 14 xl xb) .normal (dA k (nl+1) R.length ((R.map rwE).flatten) ((bO k) m) m.length).m:=⟨⟨fr 176 [(2,(.ptr 0 0)),(4,(.ptr 1 0)),(5,(.ptr 2 0)),(6,(.ptr 3 0)),(7,(.ptr 4 0)),(8,(.ptr 6 0)),(9,(.ptr 7 0)),(10,(.ptr 8 0)),(11,(pI (aM k))),(12,(.ptr 10 0)),(13,(.ptr 11 0)),(35,(.ptr 5 0)),(44,(.fn 175 [] [(.ptr 12 0)]))],[some (.box 23 [(pI k)]),some (.box 26 [(pI 0),(.p bK)]),some (.box 3 [(pI 0)]),some (.box 3 [(pI 0)]),some (.box 27 [(pI 0)]),some (.box 158 [(pI k),(.own 13),(pI 0),(pI 0),(pI 0)]),some (.box 156 [(.ptr 5 0)]),some (.box 260 [(.fn 164 [(.p (aD ([9,13,32]:List UInt8)))] [])]),some (.box 65 [(.p (bD (aJ k)))]),some (.mp ((bO k) m) m.length),some (.box 247 [(.mp 9)]),some (.box 3 [(pI (((nl+1):Nat):Int))]),some .dead,some (.row 78 R.length ((R.map rwE).flatten))]⟩,⟨[],[13],[],[]⟩,aA.fin (g:=⟨(rng [(0,2),(3,1),(14,21),(36,8),(45,110),(169,1)]),[],[],[]⟩) (o:=[.c (.own 14) [(14,(.row 9 ((cH xl).length) (((cH xl).map stE).flatten)))],bF,bF,bF,.x (aD Aa),bF,bF,bF,bF,bF,.x (aD Aa),bF,bF,bT]) (l:=[(decide (Aa=([115,117,109]:List UInt8)))=true,(decide (Aa=([107,108,105,115,116,101,114]:List UInt8)))=false,(decide (Aa=([107,108,105,115,116,101,114]:List UInt8)))=false,(((cH xl).map stE).flatten)[0]? = some (aD Aa),(decide (Aa=([107,108,105,115,116,101,114]:List UInt8)))=false,_,(decide (Aa=([107,108,105,115,116,101,114]:List UInt8)))=false,(decide (Aa=([107,108,105,115,116,101,114]:List UInt8)))=false,_,_,(((cH xl).map stE).flatten)[0]? = some (aD Aa),_,_,_,_,_,_]) (by kernel_rfl) (gc (decide_eq_true h7) (A4 (decide_eq_false h6) (gc (aL (E:=stE) (i:=0) (f:=0) (k:=1) (fun _=>rfl) h5 rfl) (gc (decide_eq_false h6) (gc h4 (A4 (decide_eq_false h6) (A4 (bJ h3) (gc (aL (E:=stE) (i:=0) (f:=0) (k:=1) (fun _=>rfl) h5 rfl) (gc (bJ h3) (gc h4 (A4 (bJ h3) (gc (fk 14 (qU xl [9,13,32] Db Ez) rfl) (gc h0 gn))))))))))))),by kernel_rfl,(⟨fr 176 [(2,(.ptr 0 0)),(4,(.ptr 1 0)),(5,(.ptr 2 0)),(6,(.ptr 3 0)),(7,(.ptr 4 0)),(8,(.ptr 6 0)),(9,(.ptr 7 0)),(10,(.ptr 8 0)),(11,(pI (aM k))),(12,(.ptr 10 0)),(13,(.ptr 11 0)),(35,(.ptr 5 0)),(44,(.fn 175 [] [(.ptr 12 0)]))],[some (.box 23 [(pI k)]),some (.box 26 [(pI 0),(.p bK)]),some (.box 3 [(pI 0)]),some (.box 3 [(pI 0)]),some (.box 27 [(pI 0)]),some (.box 158 [(pI k),(.own 13),(pI 0),(pI 0),(pI 0)]),some (.box 156 [(.ptr 5 0)]),some (.box 260 [(.fn 164 [(.p (aD ([9,13,32]:List UInt8)))] [])]),some (.box 65 [(.p (bD (aJ k)))]),some (.mp ((bO k) m) m.length),some (.box 247 [(.mp 9)]),some (.box 3 [(pI (((nl+1):Nat):Int))]),some .dead,some (.row 78 R.length ((R.map rwE).flatten))]⟩:St).t,by kernel_rfl⟩
 exact raw
theorem bDk{R m:List (List Cel)}{xl Aa:List UInt8}{Af:List (List UInt8)}{Ad Cm:List Cel}(h0:inR (((nl+1):Nat):Int))(Db:xl.length≤90000)(Ez:∀ b∈xl,b.toNat<128)(h3:((cH xl).length:Int)≠0)(h4:0≤(0:Int)∧(0:Int)<((cH xl).length:Int))(h5:(cH xl)[0]? = some (Aa))(h6:Aa≠([107,108,105,115,116,101,114]:List UInt8))(h7:Aa≠([115,117,109]:List UInt8))(Ig:aF Tp 14 vI (dV k nl R m xl Aa 0 ((cH xl).length) (((cH xl).map stE).flatten)) (.exit 3) (dV k nl R m xl Aa Cu Af.length ((Af.map stE).flatten)))(F7:∀ u∈Af,u.length≤90000)(E4:rdL (aJ k) Af 0 = .inl Ad)(F9:Af.length=(aJ k).length)(Ba:aM k≤(Ad.length:Int))(Cw:eO Tp 186 ((bO k) m) (k3V (aK k Ad 0) (aK k Ad 1) (aK k Ad 2)))(Ek:(iB ((bO k) m) (k3V (aK k Ad 0) (aK k Ad 1) (aK k Ad 2)))=true)(D5:gV ((bO k) m) (k3V (aK k Ad 0) (aK k Ad 1) (aK k Ad 2))=some (.sl Cm.length ((Cm.map cE).flatten)))(Hb:Cm.length≤100000)(Gz:(decide (Cm=Ad))=false)(C5:Fl=(nl+1)):bW Tp 14 13 kS (pH (dA k nl R.length ((R.map rwE).flatten) ((bO k) m) m.length) 45 46 14 xl xb) .ret (bV (bV (bV (bV (dA k Fl R.length ((R.map rwE).flatten) ((bO k) m) m.length) 5 (some (.box 158 [(pI k),(.own 13),(pI (((nl+1):Nat):Int)),(pI 1),(pI 5)]))) 2 (some (.box 3 [(pI (((nl+1):Nat):Int))]))) 3 (some (.box 3 [(pI 1)]))) 4 (some (.box 27 [(pI 5)]))).m:=by
 subst C5
 have raw:bW Tp 14 13 kS (pH (dA k nl R.length ((R.map rwE).flatten) ((bO k) m) m.length) 45 46 14 xl xb) .ret (bV (bV (bV (bV (dA k (nl+1) R.length ((R.map rwE).flatten) ((bO k) m) m.length) 5 (some (.box 158 [(pI k),(.own 13),(pI (((nl+1):Nat):Int)),(pI 1),(pI 5)]))) 2 (some (.box 3 [(pI (((nl+1):Nat):Int))]))) 3 (some (.box 3 [(pI 1)]))) 4 (some (.box 27 [(pI 5)]))).m:=⟨⟨fr 176 [(2,(.ptr 0 0)),(4,(.ptr 1 0)),(5,(.ptr 2 0)),(6,(.ptr 3 0)),(7,(.ptr 4 0)),(8,(.ptr 6 0)),(9,(.ptr 7 0)),(10,(.ptr 8 0)),(11,(pI (aM k))),(12,(.ptr 10 0)),(13,(.ptr 11 0)),(35,(.ptr 5 0))],[some (.box 23 [(pI k)]),some (.box 26 [(pI 0),(.p bK)]),some (.box 3 [(pI (((nl+1):Nat):Int))]),some (.box 3 [(pI 1)]),some (.box 27 [(pI 5)]),some (.box 158 [(pI k),(.own 13),(pI (((nl+1):Nat):Int)),(pI 1),(pI 5)]),some (.box 156 [(.ptr 5 0)]),some (.box 260 [(.fn 164 [(.p (aD ([9,13,32]:List UInt8)))] [])]),some (.box 65 [(.p (bD (aJ k)))]),some (.mp ((bO k) m) m.length),some (.box 247 [(.mp 9)]),some (.box 3 [(pI (((nl+1):Nat):Int))]),some .dead,some (.row 78 R.length ((R.map rwE).flatten))]⟩,⟨[],[13],[],[]⟩,aA.fin (g:=⟨(rng [(0,2),(3,1),(14,21),(36,8),(45,110),(169,1)]),[],[],[]⟩) (o:=[.c (.own 14) [(14,(.row 9 ((cH xl).length) (((cH xl).map stE).flatten)))],bF,bF,bF,.x (aD Aa),bF,bF,bF,bF,bF,.x (aD Aa),bF,bF,bF,.k 4 ⟨(rng [(0,2),(3,1),(16,1),(22,13),(36,8),(46,1),(70,22),(169,1)]),[14],[],[]⟩ (.exit 3) (dV k nl R m xl Aa Cu Af.length ((Af.map stE).flatten)),.c (.fn 176 [] [(.ptr 15 0),(.ptr 16 0)]) [(5,(.box 158 [(pI k),(.own 13),(pI 0),(pI 0),(pI 0)])),(13,(.row 78 R.length ((R.map rwE).flatten))),(15,(.box 156 [(.ptr 5 0)])),(16,(.box 3 [(pI (((nl+1):Nat):Int))]))],.g 1 ⟨[44],[15,16],[14],[]⟩,.c (.tup [(.own 16),(pB true)]) [(5,(.box 158 [(pI k),(.own 13),(pI 0),(pI 0),(pI 0)])),(13,(.row 78 R.length ((R.map rwE).flatten))),(14,(.box 156 [(.ptr 5 0)])),(15,(.box 3 [(pI (((nl+1):Nat):Int))])),(16,(.row 80 Ad.length ((Ad.map cE).flatten)))],bF,.g 1 ⟨[],[14,15],[16],[]⟩,.c (.p (.agg [(aB (aK k Ad 0)),(aB (aK k Ad 1)),(aB (aK k Ad 2))])) [],bT,.x (.sl Cm.length ((Cm.map cE).flatten)),.c (pB (decide (Cm=Ad))) [],bT,bT,.c (pB false) [(14,(.box 156 [(.ptr 5 0)])),(15,(.box 3 [(pI (((nl+1):Nat):Int))])),(5,(.box 158 [(pI k),(.own 13),(pI (((nl+1):Nat):Int)),(pI 1),(pI 5)])),(13,(.row 78 R.length ((R.map rwE).flatten)))],bT,bT,bT,.c (.tup [(.p (.agg [(aB 0),bK])),(pI (((nl+1):Nat):Int)),(pI 1),(pI 5)]) [(5,(.box 158 [(pI k),(.own 13),(pI (((nl+1):Nat):Int)),(pI 1),(pI 5)])),(13,(.row 78 R.length ((R.map rwE).flatten)))]]) (l:=[FC Tp 94 [(.ptr 5 0)] [(5,(.box 158 [(pI k),(.own 13),(pI (((nl+1):Nat):Int)),(pI 1),(pI 5)])),(13,(.row 78 R.length ((R.map rwE).flatten)))] 16 (.tup [(.p (.agg [(aB 0),bK])),(pI (((nl+1):Nat):Int)),(pI 1),(pI 5)]) [(5,(.box 158 [(pI k),(.own 13),(pI (((nl+1):Nat):Int)),(pI 1),(pI 5)])),(13,(.row 78 R.length ((R.map rwE).flatten)))],true=true,_,_,FC Tp 176 [(pI 1),(pI 5),(.ptr 14 0),(.ptr 15 0)] [(14,(.box 156 [(.ptr 5 0)])),(15,(.box 3 [(pI (((nl+1):Nat):Int))])),(5,(.box 158 [(pI k),(.own 13),(pI 0),(pI 0),(pI 0)])),(13,(.row 78 R.length ((R.map rwE).flatten)))] 16 (pB false) [(14,(.box 156 [(.ptr 5 0)])),(15,(.box 3 [(pI (((nl+1):Nat):Int))])),(5,(.box 158 [(pI k),(.own 13),(pI (((nl+1):Nat):Int)),(pI 1),(pI 5)])),(13,(.row 78 R.length ((R.map rwE).flatten)))],_,_,_,_,_,_,_,false=false,FC Tp 91 [(.ptr 5 0),(.p (.sl Af.length ((Af.map stE).flatten))),(.fn 176 [] [(.ptr 14 0),(.ptr 15 0)])] [(5,(.box 158 [(pI k),(.own 13),(pI 0),(pI 0),(pI 0)])),(14,(.box 156 [(.ptr 5 0)])),(15,(.box 3 [(pI (((nl+1):Nat):Int))])),(13,(.row 78 R.length ((R.map rwE).flatten)))] 16 (.tup [(.own 16),(pB true)]) [(5,(.box 158 [(pI k),(.own 13),(pI 0),(pI 0),(pI 0)])),(13,(.row 78 R.length ((R.map rwE).flatten))),(14,(.box 156 [(.ptr 5 0)])),(15,(.box 3 [(pI (((nl+1):Nat):Int))])),(16,(.row 80 Ad.length ((Ad.map cE).flatten)))],FC Tp 89 [(.ptr 5 0),(pI (((nl+1):Nat):Int))] [(5,(.box 158 [(pI k),(.own 13),(pI 0),(pI 0),(pI 0)])),(13,(.row 78 R.length ((R.map rwE).flatten)))] 15 (.fn 176 [] [(.ptr 15 0),(.ptr 16 0)]) [(5,(.box 158 [(pI k),(.own 13),(pI 0),(pI 0),(pI 0)])),(13,(.row 78 R.length ((R.map rwE).flatten))),(15,(.box 156 [(.ptr 5 0)])),(16,(.box 3 [(pI (((nl+1):Nat):Int))]))],_,(decide (Aa=([115,117,109]:List UInt8)))=false,(decide (Aa=([107,108,105,115,116,101,114]:List UInt8)))=false,(decide (Aa=([107,108,105,115,116,101,114]:List UInt8)))=false,(((cH xl).map stE).flatten)[0]? = some (aD Aa),(decide (Aa=([107,108,105,115,116,101,114]:List UInt8)))=false,_,(decide (Aa=([107,108,105,115,116,101,114]:List UInt8)))=false,(decide (Aa=([107,108,105,115,116,101,114]:List UInt8)))=false,_,_,(((cH xl).map stE).flatten)[0]? = some (aD Aa),_,_,_,_,_,_]) (by kernel_rfl) (gc (FMM.fc (ids:=[5,13]) (kK (k:=k) (l:=(((nl+1):Nat):Int)) (f:=(1:Int)) (e:=(5:Int)) (n:=R.length) (cs:=((R.map rwE).flatten)) (by decide)) (by kernel_rfl)) (gc rfl (A4 (dB Gz) (gc (FMM.fc (ids:=[14,15,5,13]) (cP 1 5 (((nl+1):Nat):Int) k 0 0 0 R) (by kernel_rfl)) (A4 (dB Gz) (gc (fk 16 (bGl Cm Ad Hb) rfl) (gc D5 (gc Ek (gc Cw (gc (fk 16 (eJ k Ad Ba) rfl) (gc rfl (gc (FMM.fcN (k:=1) rfl (ids:=[5,13,14,15]) (lH (((nl+1):Nat):Int) R 0 0 F7 E4 F9) (by kernel_rfl)) (gc (FMM.fcN (k:=2) rfl (ids:=[5,13]) (fC (ln:=(((nl+1):Nat):Int)) (k:=k) (l:=(0:Int)) (f:=(0:Int)) (e:=(0:Int)) (R:=R)) (by kernel_rfl)) (gc Ig.code (gc (decide_eq_false h7) (A4 (decide_eq_false h6) (gc (aL (E:=stE) (i:=0) (f:=0) (k:=1) (fun _=>rfl) h5 rfl) (gc (decide_eq_false h6) (gc h4 (A4 (decide_eq_false h6) (A4 (bJ h3) (gc (aL (E:=stE) (i:=0) (f:=0) (k:=1) (fun _=>rfl) h5 rfl) (gc (bJ h3) (gc h4 (A4 (bJ h3) (gc (fk 14 (qU xl [9,13,32] Db Ez) rfl) (gc h0 gn))))))))))))))))))))))))))),by kernel_rfl,(⟨fr 176 [(2,(.ptr 0 0)),(4,(.ptr 1 0)),(5,(.ptr 2 0)),(6,(.ptr 3 0)),(7,(.ptr 4 0)),(8,(.ptr 6 0)),(9,(.ptr 7 0)),(10,(.ptr 8 0)),(11,(pI (aM k))),(12,(.ptr 10 0)),(13,(.ptr 11 0)),(35,(.ptr 5 0))],[some (.box 23 [(pI k)]),some (.box 26 [(pI 0),(.p bK)]),some (.box 3 [(pI (((nl+1):Nat):Int))]),some (.box 3 [(pI 1)]),some (.box 27 [(pI 5)]),some (.box 158 [(pI k),(.own 13),(pI (((nl+1):Nat):Int)),(pI 1),(pI 5)]),some (.box 156 [(.ptr 5 0)]),some (.box 260 [(.fn 164 [(.p (aD ([9,13,32]:List UInt8)))] [])]),some (.box 65 [(.p (bD (aJ k)))]),some (.mp ((bO k) m) m.length),some (.box 247 [(.mp 9)]),some (.box 3 [(pI (((nl+1):Nat):Int))]),some .dead,some (.row 78 R.length ((R.map rwE).flatten))]⟩:St).t,by kernel_rfl⟩
 exact raw
theorem bDl{R m:List (List Cel)}{xl Aa:List UInt8}{Af:List (List UInt8)}{Ad Cm:List Cel}(h0:inR (((nl+1):Nat):Int))(Db:xl.length≤90000)(Ez:∀ b∈xl,b.toNat<128)(h3:((cH xl).length:Int)≠0)(h4:0≤(0:Int)∧(0:Int)<((cH xl).length:Int))(h5:(cH xl)[0]? = some (Aa))(h6:Aa≠([107,108,105,115,116,101,114]:List UInt8))(h7:Aa≠([115,117,109]:List UInt8))(Ig:aF Tp 14 vI (dV k nl R m xl Aa 0 ((cH xl).length) (((cH xl).map stE).flatten)) (.exit 3) (dV k nl R m xl Aa Cu Af.length ((Af.map stE).flatten)))(F7:∀ u∈Af,u.length≤90000)(E4:rdL (aJ k) Af 0 = .inl Ad)(F9:Af.length=(aJ k).length)(Ba:aM k≤(Ad.length:Int))(Cw:eO Tp 186 ((bO k) m) (k3V (aK k Ad 0) (aK k Ad 1) (aK k Ad 2)))(Ek:(iB ((bO k) m) (k3V (aK k Ad 0) (aK k Ad 1) (aK k Ad 2)))=true)(D5:gV ((bO k) m) (k3V (aK k Ad 0) (aK k Ad 1) (aK k Ad 2))=some (.sl Cm.length ((Cm.map cE).flatten)))(Hb:Cm.length≤100000)(Gz:(decide (Cm=Ad))=true)(C5:Fl=(nl+1)):bW Tp 14 13 kS (pH (dA k nl R.length ((R.map rwE).flatten) ((bO k) m) m.length) 45 46 14 xl xb) .normal (dA k Fl R.length ((R.map rwE).flatten) ((bO k) m) m.length).m:=by
 subst C5
 have raw:bW Tp 14 13 kS (pH (dA k nl R.length ((R.map rwE).flatten) ((bO k) m) m.length) 45 46 14 xl xb) .normal (dA k (nl+1) R.length ((R.map rwE).flatten) ((bO k) m) m.length).m:=⟨⟨fr 176 [(2,(.ptr 0 0)),(4,(.ptr 1 0)),(5,(.ptr 2 0)),(6,(.ptr 3 0)),(7,(.ptr 4 0)),(8,(.ptr 6 0)),(9,(.ptr 7 0)),(10,(.ptr 8 0)),(11,(pI (aM k))),(12,(.ptr 10 0)),(13,(.ptr 11 0)),(35,(.ptr 5 0))],[some (.box 23 [(pI k)]),some (.box 26 [(pI 0),(.p bK)]),some (.box 3 [(pI 0)]),some (.box 3 [(pI 0)]),some (.box 27 [(pI 0)]),some (.box 158 [(pI k),(.own 13),(pI 0),(pI 0),(pI 0)]),some (.box 156 [(.ptr 5 0)]),some (.box 260 [(.fn 164 [(.p (aD ([9,13,32]:List UInt8)))] [])]),some (.box 65 [(.p (bD (aJ k)))]),some (.mp ((bO k) m) m.length),some (.box 247 [(.mp 9)]),some (.box 3 [(pI (((nl+1):Nat):Int))]),some .dead,some (.row 78 R.length ((R.map rwE).flatten))]⟩,⟨[],[13],[],[]⟩,aA.fin (g:=⟨(rng [(0,2),(3,1),(14,21),(36,8),(45,110),(169,1)]),[],[],[]⟩) (o:=[.c (.own 14) [(14,(.row 9 ((cH xl).length) (((cH xl).map stE).flatten)))],bF,bF,bF,.x (aD Aa),bF,bF,bF,bF,bF,.x (aD Aa),bF,bF,bF,.k 4 ⟨(rng [(0,2),(3,1),(16,1),(22,13),(36,8),(46,1),(70,22),(169,1)]),[14],[],[]⟩ (.exit 3) (dV k nl R m xl Aa Cu Af.length ((Af.map stE).flatten)),.c (.fn 176 [] [(.ptr 15 0),(.ptr 16 0)]) [(5,(.box 158 [(pI k),(.own 13),(pI 0),(pI 0),(pI 0)])),(13,(.row 78 R.length ((R.map rwE).flatten))),(15,(.box 156 [(.ptr 5 0)])),(16,(.box 3 [(pI (((nl+1):Nat):Int))]))],.g 1 ⟨[44],[15,16],[14],[]⟩,.c (.tup [(.own 16),(pB true)]) [(5,(.box 158 [(pI k),(.own 13),(pI 0),(pI 0),(pI 0)])),(13,(.row 78 R.length ((R.map rwE).flatten))),(14,(.box 156 [(.ptr 5 0)])),(15,(.box 3 [(pI (((nl+1):Nat):Int))])),(16,(.row 80 Ad.length ((Ad.map cE).flatten)))],bF,.g 1 ⟨[],[14,15],[16],[]⟩,.c (.p (.agg [(aB (aK k Ad 0)),(aB (aK k Ad 1)),(aB (aK k Ad 2))])) [],bT,.x (.sl Cm.length ((Cm.map cE).flatten)),.c (pB (decide (Cm=Ad))) [],bF,bF,bF,bF]) (l:=[_,_,_,_,_,_,_,_,_,false=false,FC Tp 91 [(.ptr 5 0),(.p (.sl Af.length ((Af.map stE).flatten))),(.fn 176 [] [(.ptr 14 0),(.ptr 15 0)])] [(5,(.box 158 [(pI k),(.own 13),(pI 0),(pI 0),(pI 0)])),(14,(.box 156 [(.ptr 5 0)])),(15,(.box 3 [(pI (((nl+1):Nat):Int))])),(13,(.row 78 R.length ((R.map rwE).flatten)))] 16 (.tup [(.own 16),(pB true)]) [(5,(.box 158 [(pI k),(.own 13),(pI 0),(pI 0),(pI 0)])),(13,(.row 78 R.length ((R.map rwE).flatten))),(14,(.box 156 [(.ptr 5 0)])),(15,(.box 3 [(pI (((nl+1):Nat):Int))])),(16,(.row 80 Ad.length ((Ad.map cE).flatten)))],FC Tp 89 [(.ptr 5 0),(pI (((nl+1):Nat):Int))] [(5,(.box 158 [(pI k),(.own 13),(pI 0),(pI 0),(pI 0)])),(13,(.row 78 R.length ((R.map rwE).flatten)))] 15 (.fn 176 [] [(.ptr 15 0),(.ptr 16 0)]) [(5,(.box 158 [(pI k),(.own 13),(pI 0),(pI 0),(pI 0)])),(13,(.row 78 R.length ((R.map rwE).flatten))),(15,(.box 156 [(.ptr 5 0)])),(16,(.box 3 [(pI (((nl+1):Nat):Int))]))],_,(decide (Aa=([115,117,109]:List UInt8)))=false,(decide (Aa=([107,108,105,115,116,101,114]:List UInt8)))=false,(decide (Aa=([107,108,105,115,116,101,114]:List UInt8)))=false,(((cH xl).map stE).flatten)[0]? = some (aD Aa),(decide (Aa=([107,108,105,115,116,101,114]:List UInt8)))=false,_,(decide (Aa=([107,108,105,115,116,101,114]:List UInt8)))=false,(decide (Aa=([107,108,105,115,116,101,114]:List UInt8)))=false,_,_,(((cH xl).map stE).flatten)[0]? = some (aD Aa),_,_,_,_,_,_]) (by kernel_rfl) (Gp (aW Gz) (gc (fk 16 (bGl Cm Ad Hb) rfl) (gc D5 (gc Ek (gc Cw (gc (fk 16 (eJ k Ad Ba) rfl) (gc rfl (gc (FMM.fcN (k:=1) rfl (ids:=[5,13,14,15]) (lH (((nl+1):Nat):Int) R 0 0 F7 E4 F9) (by kernel_rfl)) (gc (FMM.fcN (k:=2) rfl (ids:=[5,13]) (fC (ln:=(((nl+1):Nat):Int)) (k:=k) (l:=(0:Int)) (f:=(0:Int)) (e:=(0:Int)) (R:=R)) (by kernel_rfl)) (gc Ig.code (gc (decide_eq_false h7) (A4 (decide_eq_false h6) (gc (aL (E:=stE) (i:=0) (f:=0) (k:=1) (fun _=>rfl) h5 rfl) (gc (decide_eq_false h6) (gc h4 (A4 (decide_eq_false h6) (A4 (bJ h3) (gc (aL (E:=stE) (i:=0) (f:=0) (k:=1) (fun _=>rfl) h5 rfl) (gc (bJ h3) (gc h4 (A4 (bJ h3) (gc (fk 14 (qU xl [9,13,32] Db Ez) rfl) (gc h0 gn))))))))))))))))))))))),by kernel_rfl,(⟨fr 176 [(2,(.ptr 0 0)),(4,(.ptr 1 0)),(5,(.ptr 2 0)),(6,(.ptr 3 0)),(7,(.ptr 4 0)),(8,(.ptr 6 0)),(9,(.ptr 7 0)),(10,(.ptr 8 0)),(11,(pI (aM k))),(12,(.ptr 10 0)),(13,(.ptr 11 0)),(35,(.ptr 5 0))],[some (.box 23 [(pI k)]),some (.box 26 [(pI 0),(.p bK)]),some (.box 3 [(pI 0)]),some (.box 3 [(pI 0)]),some (.box 27 [(pI 0)]),some (.box 158 [(pI k),(.own 13),(pI 0),(pI 0),(pI 0)]),some (.box 156 [(.ptr 5 0)]),some (.box 260 [(.fn 164 [(.p (aD ([9,13,32]:List UInt8)))] [])]),some (.box 65 [(.p (bD (aJ k)))]),some (.mp ((bO k) m) m.length),some (.box 247 [(.mp 9)]),some (.box 3 [(pI (((nl+1):Nat):Int))]),some .dead,some (.row 78 R.length ((R.map rwE).flatten))]⟩:St).t,by kernel_rfl⟩
 exact raw
theorem bDm{R m:List (List Cel)}{xl Aa:List UInt8}{Af:List (List UInt8)}{Ad:List Cel}{R' m':List (List Cel)}(h0:inR (((nl+1):Nat):Int))(Db:xl.length≤90000)(Ez:∀ b∈xl,b.toNat<128)(h3:((cH xl).length:Int)≠0)(h4:0≤(0:Int)∧(0:Int)<((cH xl).length:Int))(h5:(cH xl)[0]? = some (Aa))(h6:Aa≠([107,108,105,115,116,101,114]:List UInt8))(h7:Aa≠([115,117,109]:List UInt8))(Ig:aF Tp 14 vI (dV k nl R m xl Aa 0 ((cH xl).length) (((cH xl).map stE).flatten)) (.exit 3) (dV k nl R m xl Aa Cu Af.length ((Af.map stE).flatten)))(F7:∀ u∈Af,u.length≤90000)(E4:rdL (aJ k) Af 0 = .inl Ad)(F9:Af.length=(aJ k).length)(Ba:aM k≤(Ad.length:Int))(Cw:eO Tp 186 ((bO k) m) (k3V (aK k Ad 0) (aK k Ad 1) (aK k Ad 2)))(Ek:(iB ((bO k) m) (k3V (aK k Ad 0) (aK k Ad 1) (aK k Ad 2)))=false)(D5:[(PV.sl Ad.length ((Ad.map cE).flatten))].length=1*1∧R.length+1≤1000000)(C5:Fl=(nl+1))(D6:R'.length=(R.length+1))(D7:(R'.map rwE).flatten=(((R.map rwE).flatten)++[(PV.sl Ad.length ((Ad.map cE).flatten))]))(E2:(bO k) m'=(((bO k) m)++[((k3V (aK k Ad 0) (aK k Ad 1) (aK k Ad 2)),(.sl Ad.length ((Ad.map cE).flatten)))]))(E3:m'.length=(m.length+1)):bW Tp 14 13 kS (pH (dA k nl R.length ((R.map rwE).flatten) ((bO k) m) m.length) 45 46 14 xl xb) .normal (dA k Fl R'.length ((R'.map rwE).flatten) ((bO k) m') m'.length).m:=by
 subst C5
 have raw:bW Tp 14 13 kS (pH (dA k nl R.length ((R.map rwE).flatten) ((bO k) m) m.length) 45 46 14 xl xb) .normal (dA k (nl+1) (R.length+1) (((R.map rwE).flatten)++[(PV.sl Ad.length ((Ad.map cE).flatten))]) (((bO k) m)++[((k3V (aK k Ad 0) (aK k Ad 1) (aK k Ad 2)),(.sl Ad.length ((Ad.map cE).flatten)))]) (m.length+1)).m:=⟨⟨fr 176 [(2,(.ptr 0 0)),(4,(.ptr 1 0)),(5,(.ptr 2 0)),(6,(.ptr 3 0)),(7,(.ptr 4 0)),(8,(.ptr 6 0)),(9,(.ptr 7 0)),(10,(.ptr 8 0)),(11,(pI (aM k))),(12,(.ptr 10 0)),(13,(.ptr 11 0)),(35,(.ptr 5 0))],[some (.box 23 [(pI k)]),some (.box 26 [(pI 0),(.p bK)]),some (.box 3 [(pI 0)]),some (.box 3 [(pI 0)]),some (.box 27 [(pI 0)]),some (.box 158 [(pI k),(.own 14),(pI 0),(pI 0),(pI 0)]),some (.box 156 [(.ptr 5 0)]),some (.box 260 [(.fn 164 [(.p (aD ([9,13,32]:List UInt8)))] [])]),some (.box 65 [(.p (bD (aJ k)))]),some (.mp (((bO k) m)++[((k3V (aK k Ad 0) (aK k Ad 1) (aK k Ad 2)),(.sl Ad.length ((Ad.map cE).flatten)))]) (m.length+1)),some (.box 247 [(.mp 9)]),some (.box 3 [(pI (((nl+1):Nat):Int))]),some .dead,some .dead,some (.row 78 (R.length+1) (((R.map rwE).flatten)++[(PV.sl Ad.length ((Ad.map cE).flatten))]))]⟩,⟨[],[14],[],[]⟩,aA.fin (g:=⟨(rng [(0,2),(3,1),(14,21),(36,8),(45,110),(169,1)]),[17],[],[]⟩) (o:=[.c (.own 14) [(14,(.row 9 ((cH xl).length) (((cH xl).map stE).flatten)))],bF,bF,bF,.x (aD Aa),bF,bF,bF,bF,bF,.x (aD Aa),bF,bF,bF,.k 4 ⟨(rng [(0,2),(3,1),(16,1),(22,13),(36,8),(46,1),(70,22),(169,1)]),[14],[],[]⟩ (.exit 3) (dV k nl R m xl Aa Cu Af.length ((Af.map stE).flatten)),.c (.fn 176 [] [(.ptr 15 0),(.ptr 16 0)]) [(5,(.box 158 [(pI k),(.own 13),(pI 0),(pI 0),(pI 0)])),(13,(.row 78 R.length ((R.map rwE).flatten))),(15,(.box 156 [(.ptr 5 0)])),(16,(.box 3 [(pI (((nl+1):Nat):Int))]))],.g 1 ⟨[44],[15,16],[14],[]⟩,.c (.tup [(.own 16),(pB true)]) [(5,(.box 158 [(pI k),(.own 13),(pI 0),(pI 0),(pI 0)])),(13,(.row 78 R.length ((R.map rwE).flatten))),(14,(.box 156 [(.ptr 5 0)])),(15,(.box 3 [(pI (((nl+1):Nat):Int))])),(16,(.row 80 Ad.length ((Ad.map cE).flatten)))],bF,.g 1 ⟨[],[14,15],[16],[]⟩,.c (.p (.agg [(aB (aK k Ad 0)),(aB (aK k Ad 1)),(aB (aK k Ad 2))])) [],bF,.c (.p (.agg [(aB (aK k Ad 0)),(aB (aK k Ad 1)),(aB (aK k Ad 2))])) [],bF]) (l:=[_,_,_,_,_,_,_,false=false,FC Tp 91 [(.ptr 5 0),(.p (.sl Af.length ((Af.map stE).flatten))),(.fn 176 [] [(.ptr 14 0),(.ptr 15 0)])] [(5,(.box 158 [(pI k),(.own 13),(pI 0),(pI 0),(pI 0)])),(14,(.box 156 [(.ptr 5 0)])),(15,(.box 3 [(pI (((nl+1):Nat):Int))])),(13,(.row 78 R.length ((R.map rwE).flatten)))] 16 (.tup [(.own 16),(pB true)]) [(5,(.box 158 [(pI k),(.own 13),(pI 0),(pI 0),(pI 0)])),(13,(.row 78 R.length ((R.map rwE).flatten))),(14,(.box 156 [(.ptr 5 0)])),(15,(.box 3 [(pI (((nl+1):Nat):Int))])),(16,(.row 80 Ad.length ((Ad.map cE).flatten)))],FC Tp 89 [(.ptr 5 0),(pI (((nl+1):Nat):Int))] [(5,(.box 158 [(pI k),(.own 13),(pI 0),(pI 0),(pI 0)])),(13,(.row 78 R.length ((R.map rwE).flatten)))] 15 (.fn 176 [] [(.ptr 15 0),(.ptr 16 0)]) [(5,(.box 158 [(pI k),(.own 13),(pI 0),(pI 0),(pI 0)])),(13,(.row 78 R.length ((R.map rwE).flatten))),(15,(.box 156 [(.ptr 5 0)])),(16,(.box 3 [(pI (((nl+1):Nat):Int))]))],_,(decide (Aa=([115,117,109]:List UInt8)))=false,(decide (Aa=([107,108,105,115,116,101,114]:List UInt8)))=false,(decide (Aa=([107,108,105,115,116,101,114]:List UInt8)))=false,(((cH xl).map stE).flatten)[0]? = some (aD Aa),(decide (Aa=([107,108,105,115,116,101,114]:List UInt8)))=false,_,(decide (Aa=([107,108,105,115,116,101,114]:List UInt8)))=false,(decide (Aa=([107,108,105,115,116,101,114]:List UInt8)))=false,_,_,(((cH xl).map stE).flatten)[0]? = some (aD Aa),_,_,_,_,_,_]) (by kernel_rfl) (gc D5 (gc Ek (gc Cw (gc (fk 16 (eJ k Ad Ba) rfl) (gc Ek (gc Cw (gc (fk 16 (eJ k Ad Ba) rfl) (gc rfl (gc (FMM.fcN (k:=1) rfl (ids:=[5,13,14,15]) (lH (((nl+1):Nat):Int) R 0 0 F7 E4 F9) (by kernel_rfl)) (gc (FMM.fcN (k:=2) rfl (ids:=[5,13]) (fC (ln:=(((nl+1):Nat):Int)) (k:=k) (l:=(0:Int)) (f:=(0:Int)) (e:=(0:Int)) (R:=R)) (by kernel_rfl)) (gc Ig.code (gc (decide_eq_false h7) (A4 (decide_eq_false h6) (gc (aL (E:=stE) (i:=0) (f:=0) (k:=1) (fun _=>rfl) h5 rfl) (gc (decide_eq_false h6) (gc h4 (A4 (decide_eq_false h6) (A4 (bJ h3) (gc (aL (E:=stE) (i:=0) (f:=0) (k:=1) (fun _=>rfl) h5 rfl) (gc (bJ h3) (gc h4 (A4 (bJ h3) (gc (fk 14 (qU xl [9,13,32] Db Ez) rfl) (gc h0 gn)))))))))))))))))))))))),by kernel_rfl,(⟨fr 176 [(2,(.ptr 0 0)),(4,(.ptr 1 0)),(5,(.ptr 2 0)),(6,(.ptr 3 0)),(7,(.ptr 4 0)),(8,(.ptr 6 0)),(9,(.ptr 7 0)),(10,(.ptr 8 0)),(11,(pI (aM k))),(12,(.ptr 10 0)),(13,(.ptr 11 0)),(35,(.ptr 5 0))],[some (.box 23 [(pI k)]),some (.box 26 [(pI 0),(.p bK)]),some (.box 3 [(pI 0)]),some (.box 3 [(pI 0)]),some (.box 27 [(pI 0)]),some (.box 158 [(pI k),(.own 14),(pI 0),(pI 0),(pI 0)]),some (.box 156 [(.ptr 5 0)]),some (.box 260 [(.fn 164 [(.p (aD ([9,13,32]:List UInt8)))] [])]),some (.box 65 [(.p (bD (aJ k)))]),some (.mp (((bO k) m)++[((k3V (aK k Ad 0) (aK k Ad 1) (aK k Ad 2)),(.sl Ad.length ((Ad.map cE).flatten)))]) (m.length+1)),some (.box 247 [(.mp 9)]),some (.box 3 [(pI (((nl+1):Nat):Int))]),some .dead,some .dead,some (.row 78 (R.length+1) (((R.map rwE).flatten)++[(PV.sl Ad.length ((Ad.map cE).flatten))]))]⟩:St).t,by kernel_rfl⟩
 exact raw.cast (by rw [D6,D7,E2,E3])
theorem bDn{R m:List (List Cel)}{xl Aa:List UInt8}{Af:List (List UInt8)}{Ad:List Cel}(h0:inR (((nl+1):Nat):Int))(Db:xl.length≤90000)(Ez:∀ b∈xl,b.toNat<128)(h3:((cH xl).length:Int)≠0)(h4:0≤(0:Int)∧(0:Int)<((cH xl).length:Int))(h5:(cH xl)[0]? = some (Aa))(h6:Aa≠([107,108,105,115,116,101,114]:List UInt8))(h7:Aa≠([115,117,109]:List UInt8))(Ig:aF Tp 14 vI (dV k nl R m xl Aa 0 ((cH xl).length) (((cH xl).map stE).flatten)) (.exit 3) (dV k nl R m xl Aa Cu Af.length ((Af.map stE).flatten)))(F7:∀ u∈Af,u.length≤90000)(E4:rdL (aJ k) Af 0 = .inl Ad)(F9:Af.length≠(aJ k).length)(C5:Fl=(nl+1)):bW Tp 14 13 kS (pH (dA k nl R.length ((R.map rwE).flatten) ((bO k) m) m.length) 45 46 14 xl xb) .ret (bV (bV (bV (bV (dA k Fl R.length ((R.map rwE).flatten) ((bO k) m) m.length) 5 (some (.box 158 [(pI k),(.own 13),(pI (((nl+1):Nat):Int)),(pI (((aJ k).length+1:Nat):Int)),(pI 11)]))) 2 (some (.box 3 [(pI (((nl+1):Nat):Int))]))) 3 (some (.box 3 [(pI (((aJ k).length+1:Nat):Int))]))) 4 (some (.box 27 [(pI 11)]))).m:=by
 subst C5
 have raw:bW Tp 14 13 kS (pH (dA k nl R.length ((R.map rwE).flatten) ((bO k) m) m.length) 45 46 14 xl xb) .ret (bV (bV (bV (bV (dA k (nl+1) R.length ((R.map rwE).flatten) ((bO k) m) m.length) 5 (some (.box 158 [(pI k),(.own 13),(pI (((nl+1):Nat):Int)),(pI (((aJ k).length+1:Nat):Int)),(pI 11)]))) 2 (some (.box 3 [(pI (((nl+1):Nat):Int))]))) 3 (some (.box 3 [(pI (((aJ k).length+1:Nat):Int))]))) 4 (some (.box 27 [(pI 11)]))).m:=⟨⟨fr 176 [(2,(.ptr 0 0)),(4,(.ptr 1 0)),(5,(.ptr 2 0)),(6,(.ptr 3 0)),(7,(.ptr 4 0)),(8,(.ptr 6 0)),(9,(.ptr 7 0)),(10,(.ptr 8 0)),(11,(pI (aM k))),(12,(.ptr 10 0)),(13,(.ptr 11 0)),(35,(.ptr 5 0))],[some (.box 23 [(pI k)]),some (.box 26 [(pI 0),(.p bK)]),some (.box 3 [(pI (((nl+1):Nat):Int))]),some (.box 3 [(pI (((aJ k).length+1:Nat):Int))]),some (.box 27 [(pI 11)]),some (.box 158 [(pI k),(.own 13),(pI (((nl+1):Nat):Int)),(pI (((aJ k).length+1:Nat):Int)),(pI 11)]),some (.box 156 [(.ptr 5 0)]),some (.box 260 [(.fn 164 [(.p (aD ([9,13,32]:List UInt8)))] [])]),some (.box 65 [(.p (bD (aJ k)))]),some (.mp ((bO k) m) m.length),some (.box 247 [(.mp 9)]),some (.box 3 [(pI (((nl+1):Nat):Int))]),some .dead,some (.row 78 R.length ((R.map rwE).flatten))]⟩,⟨[],[13],[],[]⟩,aA.fin (g:=⟨(rng [(0,2),(3,1),(14,21),(36,8),(45,110),(169,1)]),[],[],[]⟩) (o:=[.c (.own 14) [(14,(.row 9 ((cH xl).length) (((cH xl).map stE).flatten)))],bF,bF,bF,.x (aD Aa),bF,bF,bF,bF,bF,.x (aD Aa),bF,bF,bF,.k 4 ⟨(rng [(0,2),(3,1),(16,1),(22,13),(36,8),(46,1),(70,22),(169,1)]),[14],[],[]⟩ (.exit 3) (dV k nl R m xl Aa Cu Af.length ((Af.map stE).flatten)),.c (.fn 176 [] [(.ptr 15 0),(.ptr 16 0)]) [(5,(.box 158 [(pI k),(.own 13),(pI 0),(pI 0),(pI 0)])),(13,(.row 78 R.length ((R.map rwE).flatten))),(15,(.box 156 [(.ptr 5 0)])),(16,(.box 3 [(pI (((nl+1):Nat):Int))]))],.g 1 ⟨[44],[15,16],[14],[]⟩,.c (.tup [(.own 16),(pB false)]) [(5,(.box 158 [(pI k),(.own 13),(pI (((nl+1):Nat):Int)),(pI (((aJ k).length+1:Nat):Int)),(pI 11)])),(13,(.row 78 R.length ((R.map rwE).flatten))),(14,(.box 156 [(.ptr 5 0)])),(15,(.box 3 [(pI (((nl+1):Nat):Int))])),(16,(.row 80 Ad.length ((Ad.map cE).flatten)))],bT,.c (.tup [(.p (.agg [(aB 0),bK])),(pI (((nl+1):Nat):Int)),(pI (((aJ k).length+1:Nat):Int)),(pI 11)]) [(5,(.box 158 [(pI k),(.own 13),(pI (((nl+1):Nat):Int)),(pI (((aJ k).length+1:Nat):Int)),(pI 11)])),(13,(.row 78 R.length ((R.map rwE).flatten)))]]) (l:=[FC Tp 94 [(.ptr 5 0)] [(5,(.box 158 [(pI k),(.own 13),(pI (((nl+1):Nat):Int)),(pI (((aJ k).length+1:Nat):Int)),(pI 11)])),(13,(.row 78 R.length ((R.map rwE).flatten)))] 17 (.tup [(.p (.agg [(aB 0),bK])),(pI (((nl+1):Nat):Int)),(pI (((aJ k).length+1:Nat):Int)),(pI 11)]) [(5,(.box 158 [(pI k),(.own 13),(pI (((nl+1):Nat):Int)),(pI (((aJ k).length+1:Nat):Int)),(pI 11)])),(13,(.row 78 R.length ((R.map rwE).flatten)))],true=true,FC Tp 91 [(.ptr 5 0),(.p (.sl Af.length ((Af.map stE).flatten))),(.fn 176 [] [(.ptr 14 0),(.ptr 15 0)])] [(5,(.box 158 [(pI k),(.own 13),(pI 0),(pI 0),(pI 0)])),(14,(.box 156 [(.ptr 5 0)])),(15,(.box 3 [(pI (((nl+1):Nat):Int))])),(13,(.row 78 R.length ((R.map rwE).flatten)))] 16 (.tup [(.own 16),(pB false)]) [(5,(.box 158 [(pI k),(.own 13),(pI (((nl+1):Nat):Int)),(pI (((aJ k).length+1:Nat):Int)),(pI 11)])),(13,(.row 78 R.length ((R.map rwE).flatten))),(14,(.box 156 [(.ptr 5 0)])),(15,(.box 3 [(pI (((nl+1):Nat):Int))])),(16,(.row 80 Ad.length ((Ad.map cE).flatten)))],FC Tp 89 [(.ptr 5 0),(pI (((nl+1):Nat):Int))] [(5,(.box 158 [(pI k),(.own 13),(pI 0),(pI 0),(pI 0)])),(13,(.row 78 R.length ((R.map rwE).flatten)))] 15 (.fn 176 [] [(.ptr 15 0),(.ptr 16 0)]) [(5,(.box 158 [(pI k),(.own 13),(pI 0),(pI 0),(pI 0)])),(13,(.row 78 R.length ((R.map rwE).flatten))),(15,(.box 156 [(.ptr 5 0)])),(16,(.box 3 [(pI (((nl+1):Nat):Int))]))],_,(decide (Aa=([115,117,109]:List UInt8)))=false,(decide (Aa=([107,108,105,115,116,101,114]:List UInt8)))=false,(decide (Aa=([107,108,105,115,116,101,114]:List UInt8)))=false,(((cH xl).map stE).flatten)[0]? = some (aD Aa),(decide (Aa=([107,108,105,115,116,101,114]:List UInt8)))=false,_,(decide (Aa=([107,108,105,115,116,101,114]:List UInt8)))=false,(decide (Aa=([107,108,105,115,116,101,114]:List UInt8)))=false,_,_,(((cH xl).map stE).flatten)[0]? = some (aD Aa),_,_,_,_,_,_]) (by kernel_rfl) (gc (FMM.fc (ids:=[5,13]) (kK (k:=k) (l:=(((nl+1):Nat):Int)) (f:=(((aJ k).length+1:Nat):Int)) (e:=(11:Int)) (n:=R.length) (cs:=((R.map rwE).flatten)) (by decide)) (by kernel_rfl)) (gc rfl (gc (FMM.fcN (k:=1) rfl (ids:=[5,13,14,15]) (aKe (((nl+1):Nat):Int) R 0 0 F7 E4 F9) (by kernel_rfl)) (gc (FMM.fcN (k:=2) rfl (ids:=[5,13]) (fC (ln:=(((nl+1):Nat):Int)) (k:=k) (l:=(0:Int)) (f:=(0:Int)) (e:=(0:Int)) (R:=R)) (by kernel_rfl)) (gc Ig.code (gc (decide_eq_false h7) (A4 (decide_eq_false h6) (gc (aL (E:=stE) (i:=0) (f:=0) (k:=1) (fun _=>rfl) h5 rfl) (gc (decide_eq_false h6) (gc h4 (A4 (decide_eq_false h6) (A4 (bJ h3) (gc (aL (E:=stE) (i:=0) (f:=0) (k:=1) (fun _=>rfl) h5 rfl) (gc (bJ h3) (gc h4 (A4 (bJ h3) (gc (fk 14 (qU xl [9,13,32] Db Ez) rfl) (gc h0 gn)))))))))))))))))),by kernel_rfl,(⟨fr 176 [(2,(.ptr 0 0)),(4,(.ptr 1 0)),(5,(.ptr 2 0)),(6,(.ptr 3 0)),(7,(.ptr 4 0)),(8,(.ptr 6 0)),(9,(.ptr 7 0)),(10,(.ptr 8 0)),(11,(pI (aM k))),(12,(.ptr 10 0)),(13,(.ptr 11 0)),(35,(.ptr 5 0))],[some (.box 23 [(pI k)]),some (.box 26 [(pI 0),(.p bK)]),some (.box 3 [(pI (((nl+1):Nat):Int))]),some (.box 3 [(pI (((aJ k).length+1:Nat):Int))]),some (.box 27 [(pI 11)]),some (.box 158 [(pI k),(.own 13),(pI (((nl+1):Nat):Int)),(pI (((aJ k).length+1:Nat):Int)),(pI 11)]),some (.box 156 [(.ptr 5 0)]),some (.box 260 [(.fn 164 [(.p (aD ([9,13,32]:List UInt8)))] [])]),some (.box 65 [(.p (bD (aJ k)))]),some (.mp ((bO k) m) m.length),some (.box 247 [(.mp 9)]),some (.box 3 [(pI (((nl+1):Nat):Int))]),some .dead,some (.row 78 R.length ((R.map rwE).flatten))]⟩:St).t,by kernel_rfl⟩
 exact raw
theorem bDo{R m:List (List Cel)}{xl Aa:List UInt8}{Af:List (List UInt8)}{Bs Bo:Int}(h0:inR (((nl+1):Nat):Int))(Db:xl.length≤90000)(Ez:∀ b∈xl,b.toNat<128)(h3:((cH xl).length:Int)≠0)(h4:0≤(0:Int)∧(0:Int)<((cH xl).length:Int))(h5:(cH xl)[0]? = some (Aa))(h6:Aa≠([107,108,105,115,116,101,114]:List UInt8))(h7:Aa≠([115,117,109]:List UInt8))(Ig:aF Tp 14 vI (dV k nl R m xl Aa 0 ((cH xl).length) (((cH xl).map stE).flatten)) (.exit 3) (dV k nl R m xl Aa Cu Af.length ((Af.map stE).flatten)))(F7:∀ u∈Af,u.length≤90000)(E4:rdL (aJ k) Af 0 = .inr (Bs,Bo))(Od:Bo≠0)(C5:Fl=(nl+1)):bW Tp 14 13 kS (pH (dA k nl R.length ((R.map rwE).flatten) ((bO k) m) m.length) 45 46 14 xl xb) .ret (bV (bV (bV (bV (dA k Fl R.length ((R.map rwE).flatten) ((bO k) m) m.length) 5 (some (.box 158 [(pI k),(.own 13),(pI (((nl+1):Nat):Int)),(pI Bs),(pI Bo)]))) 2 (some (.box 3 [(pI (((nl+1):Nat):Int))]))) 3 (some (.box 3 [(pI Bs)]))) 4 (some (.box 27 [(pI Bo)]))).m:=by
 subst C5
 have raw:bW Tp 14 13 kS (pH (dA k nl R.length ((R.map rwE).flatten) ((bO k) m) m.length) 45 46 14 xl xb) .ret (bV (bV (bV (bV (dA k (nl+1) R.length ((R.map rwE).flatten) ((bO k) m) m.length) 5 (some (.box 158 [(pI k),(.own 13),(pI (((nl+1):Nat):Int)),(pI Bs),(pI Bo)]))) 2 (some (.box 3 [(pI (((nl+1):Nat):Int))]))) 3 (some (.box 3 [(pI Bs)]))) 4 (some (.box 27 [(pI Bo)]))).m:=⟨⟨fr 176 [(2,(.ptr 0 0)),(4,(.ptr 1 0)),(5,(.ptr 2 0)),(6,(.ptr 3 0)),(7,(.ptr 4 0)),(8,(.ptr 6 0)),(9,(.ptr 7 0)),(10,(.ptr 8 0)),(11,(pI (aM k))),(12,(.ptr 10 0)),(13,(.ptr 11 0)),(35,(.ptr 5 0))],[some (.box 23 [(pI k)]),some (.box 26 [(pI 0),(.p bK)]),some (.box 3 [(pI (((nl+1):Nat):Int))]),some (.box 3 [(pI Bs)]),some (.box 27 [(pI Bo)]),some (.box 158 [(pI k),(.own 13),(pI (((nl+1):Nat):Int)),(pI Bs),(pI Bo)]),some (.box 156 [(.ptr 5 0)]),some (.box 260 [(.fn 164 [(.p (aD ([9,13,32]:List UInt8)))] [])]),some (.box 65 [(.p (bD (aJ k)))]),some (.mp ((bO k) m) m.length),some (.box 247 [(.mp 9)]),some (.box 3 [(pI (((nl+1):Nat):Int))]),some .dead,some (.row 78 R.length ((R.map rwE).flatten))]⟩,⟨[],[13],[],[]⟩,aA.fin (g:=⟨(rng [(0,2),(3,1),(14,21),(36,8),(45,110),(169,1)]),[],[],[]⟩) (o:=[.c (.own 14) [(14,(.row 9 ((cH xl).length) (((cH xl).map stE).flatten)))],bF,bF,bF,.x (aD Aa),bF,bF,bF,bF,bF,.x (aD Aa),bF,bF,bF,.k 4 ⟨(rng [(0,2),(3,1),(16,1),(22,13),(36,8),(46,1),(70,22),(169,1)]),[14],[],[]⟩ (.exit 3) (dV k nl R m xl Aa Cu Af.length ((Af.map stE).flatten)),.c (.fn 176 [] [(.ptr 15 0),(.ptr 16 0)]) [(5,(.box 158 [(pI k),(.own 13),(pI 0),(pI 0),(pI 0)])),(13,(.row 78 R.length ((R.map rwE).flatten))),(15,(.box 156 [(.ptr 5 0)])),(16,(.box 3 [(pI (((nl+1):Nat):Int))]))],.g 1 ⟨[44],[15,16],[14],[]⟩,.c (.tup [(.p bK),(pB false)]) [(5,(.box 158 [(pI k),(.own 13),(pI (((nl+1):Nat):Int)),(pI Bs),(pI Bo)])),(13,(.row 78 R.length ((R.map rwE).flatten))),(14,(.box 156 [(.ptr 5 0)])),(15,(.box 3 [(pI (((nl+1):Nat):Int))]))],bT,.c (.tup [(.p (.agg [(aB 0),bK])),(pI (((nl+1):Nat):Int)),(pI Bs),(pI Bo)]) [(5,(.box 158 [(pI k),(.own 13),(pI (((nl+1):Nat):Int)),(pI Bs),(pI Bo)])),(13,(.row 78 R.length ((R.map rwE).flatten)))]]) (l:=[FC Tp 94 [(.ptr 5 0)] [(5,(.box 158 [(pI k),(.own 13),(pI (((nl+1):Nat):Int)),(pI Bs),(pI Bo)])),(13,(.row 78 R.length ((R.map rwE).flatten)))] 16 (.tup [(.p (.agg [(aB 0),bK])),(pI (((nl+1):Nat):Int)),(pI Bs),(pI Bo)]) [(5,(.box 158 [(pI k),(.own 13),(pI (((nl+1):Nat):Int)),(pI Bs),(pI Bo)])),(13,(.row 78 R.length ((R.map rwE).flatten)))],true=true,FC Tp 91 [(.ptr 5 0),(.p (.sl Af.length ((Af.map stE).flatten))),(.fn 176 [] [(.ptr 14 0),(.ptr 15 0)])] [(5,(.box 158 [(pI k),(.own 13),(pI 0),(pI 0),(pI 0)])),(14,(.box 156 [(.ptr 5 0)])),(15,(.box 3 [(pI (((nl+1):Nat):Int))])),(13,(.row 78 R.length ((R.map rwE).flatten)))] 16 (.tup [(.p bK),(pB false)]) [(5,(.box 158 [(pI k),(.own 13),(pI (((nl+1):Nat):Int)),(pI Bs),(pI Bo)])),(13,(.row 78 R.length ((R.map rwE).flatten))),(14,(.box 156 [(.ptr 5 0)])),(15,(.box 3 [(pI (((nl+1):Nat):Int))]))],FC Tp 89 [(.ptr 5 0),(pI (((nl+1):Nat):Int))] [(5,(.box 158 [(pI k),(.own 13),(pI 0),(pI 0),(pI 0)])),(13,(.row 78 R.length ((R.map rwE).flatten)))] 15 (.fn 176 [] [(.ptr 15 0),(.ptr 16 0)]) [(5,(.box 158 [(pI k),(.own 13),(pI 0),(pI 0),(pI 0)])),(13,(.row 78 R.length ((R.map rwE).flatten))),(15,(.box 156 [(.ptr 5 0)])),(16,(.box 3 [(pI (((nl+1):Nat):Int))]))],_,(decide (Aa=([115,117,109]:List UInt8)))=false,(decide (Aa=([107,108,105,115,116,101,114]:List UInt8)))=false,(decide (Aa=([107,108,105,115,116,101,114]:List UInt8)))=false,(((cH xl).map stE).flatten)[0]? = some (aD Aa),(decide (Aa=([107,108,105,115,116,101,114]:List UInt8)))=false,_,(decide (Aa=([107,108,105,115,116,101,114]:List UInt8)))=false,(decide (Aa=([107,108,105,115,116,101,114]:List UInt8)))=false,_,_,(((cH xl).map stE).flatten)[0]? = some (aD Aa),_,_,_,_,_,_]) (by kernel_rfl) (gc (FMM.fc (ids:=[5,13]) (kK (k:=k) (l:=(((nl+1):Nat):Int)) (f:=Bs) (e:=Bo) (n:=R.length) (cs:=((R.map rwE).flatten)) Od) (by kernel_rfl)) (gc rfl (gc (FMM.fcN (k:=0) rfl (ids:=[5,13,14,15]) (aRs (((nl+1):Nat):Int) R 0 0 F7 E4).2 (by kernel_rfl)) (gc (FMM.fcN (k:=2) rfl (ids:=[5,13]) (fC (ln:=(((nl+1):Nat):Int)) (k:=k) (l:=(0:Int)) (f:=(0:Int)) (e:=(0:Int)) (R:=R)) (by kernel_rfl)) (gc Ig.code (gc (decide_eq_false h7) (A4 (decide_eq_false h6) (gc (aL (E:=stE) (i:=0) (f:=0) (k:=1) (fun _=>rfl) h5 rfl) (gc (decide_eq_false h6) (gc h4 (A4 (decide_eq_false h6) (A4 (bJ h3) (gc (aL (E:=stE) (i:=0) (f:=0) (k:=1) (fun _=>rfl) h5 rfl) (gc (bJ h3) (gc h4 (A4 (bJ h3) (gc (fk 14 (qU xl [9,13,32] Db Ez) rfl) (gc h0 gn)))))))))))))))))),by kernel_rfl,(⟨fr 176 [(2,(.ptr 0 0)),(4,(.ptr 1 0)),(5,(.ptr 2 0)),(6,(.ptr 3 0)),(7,(.ptr 4 0)),(8,(.ptr 6 0)),(9,(.ptr 7 0)),(10,(.ptr 8 0)),(11,(pI (aM k))),(12,(.ptr 10 0)),(13,(.ptr 11 0)),(35,(.ptr 5 0))],[some (.box 23 [(pI k)]),some (.box 26 [(pI 0),(.p bK)]),some (.box 3 [(pI (((nl+1):Nat):Int))]),some (.box 3 [(pI Bs)]),some (.box 27 [(pI Bo)]),some (.box 158 [(pI k),(.own 13),(pI (((nl+1):Nat):Int)),(pI Bs),(pI Bo)]),some (.box 156 [(.ptr 5 0)]),some (.box 260 [(.fn 164 [(.p (aD ([9,13,32]:List UInt8)))] [])]),some (.box 65 [(.p (bD (aJ k)))]),some (.mp ((bO k) m) m.length),some (.box 247 [(.mp 9)]),some (.box 3 [(pI (((nl+1):Nat):Int))]),some .dead,some (.row 78 R.length ((R.map rwE).flatten))]⟩:St).t,by kernel_rfl⟩
 exact raw
section
variable{xl:List UInt8}(h0:(i:Int)<((cH xl).length:Int))(h1:(i:Int)<((aJ k).length:Int))(h2:(aJ k)[i]? = some Ac)
include h0 h1 h2
theorem bDp{R m:List (List Cel)}{Aa:List UInt8}{fs:List (List UInt8)}{Hu:List UInt8}{Mc:List (List UInt8)}(h3:Ac=0)(h4:0≤(i:Int)∧(i:Int)<(fs.length:Int))(h5:fs[i]? = some (Hu))(h6:(i*1)<((fs.map stE).flatten).length)(h7:cp i)(Ai:i'=(i+1))(Lc:Mc.length=fs.length)(Ld:(Mc.map stE).flatten=(((fs.map stE).flatten).set (i*1) (aD (fO Hu)))):aA Tp 14 vI (dV k nl R m xl Aa i fs.length ((fs.map stE).flatten)) .normal (dV k nl R m xl Aa i' Mc.length ((Mc.map stE).flatten)):=by
 subst Ai;have k1:=fk 15 (bZn Hu) rfl;rw [Lc,Ld];exact aA.fi (gI ab [14]) (rT 5++[.x (aB Ac),bT,bT,bT,.x (aD Hu),k1.o]) (gc h7 (gc h6 (gc h4 (gc k1 (gt (((fs.map stE).flatten)[(i*1)]? = some (aD Hu)) (aL (E:=stE) (i:=i) (f:=0) (k:=1) (fun _=>rfl) h5 rfl) (gc h4 (gc (dC h3) (A4 (cN h1) (gc (atm aB h2) (gc (cN h1) (gc (ixn aB h2) (A2 (cN h1) (g0 h0)))))))))))))
theorem bDq{R m:List (List Cel)}{Aa:List UInt8}{fs:List (List UInt8)}(h3:Ac≠0)(h4:cp i)(Ai:i'=(i+1)):aA Tp 14 vI (dV k nl R m xl Aa i fs.length ((fs.map stE).flatten)) .normal (dV k nl R m xl Aa i' fs.length ((fs.map stE).flatten)):=by
 subst Ai;exact aA.fi (gI ab [14]) (rT 5++[.x (aB Ac),bT,bT,bF]) (gc h4 (gc (bJ h3) (A4 (cN h1) (gc (atm aB h2) (gc (cN h1) (gc (ixn aB h2) (A2 (cN h1) (g0 h0))))))))
end
theorem bDr{R m:List (List Cel)}{xl Aa:List UInt8}{fs:List (List UInt8)}(h0:(i:Int)<((cH xl).length:Int))(h1:((aJ k).length:Int)≤(i:Int))(h2:cp i)(Ai:i'=(i+1)):aA Tp 14 vI (dV k nl R m xl Aa i fs.length ((fs.map stE).flatten)) .normal (dV k nl R m xl Aa i' fs.length ((fs.map stE).flatten)):=by
 subst Ai;exact aA.fi (gI ab [14]) ([bT]++rF 6) (gc h2 (G3 (bH h1) (g0 h0)))
theorem bDs{R m:List (List Cel)}{xl Aa:List UInt8}{fs:List (List UInt8)}(h0:((cH xl).length:Int)≤(i:Int)):aA Tp 14 vI (dV k nl R m xl Aa i fs.length ((fs.map stE).flatten)) (.exit 3) (dV k nl R m xl Aa i fs.length ((fs.map stE).flatten)):=aA.fi (gI ab [14]) [bF] (gc (bH h0) gn)
end
end KV
end Go.Proofs
section
set_option maxRecDepth 1000000
namespace Go.Proofs
open Go.RowKit Go.Maps
namespace KV
open Tryz
theorem bQd(s p:List UInt8):(∀ b∈(Lib.cut s p).1,b∈s)∧(Lib.cut s p).1.length≤s.length∧∀ b∈(Lib.cut s p).2.1,b∈s:=by
 unfold Lib.cut
 split
 ·exact ⟨fun b hb=>List.mem_of_mem_take hb,by rw [pF];omega,fun b hb=>List.mem_of_mem_drop hb⟩
 ·exact ⟨fun b hb=>hb,dD _,fun b hb=>(by cases hb)⟩
theorem aLu:∀ (k:Nat) (s:List UInt8),s.length≤k→∀ x∈cF s,x.1.length≤s.length∧∀ b∈x.1,b∈s
 | k,s,h,x,hx=>by
  by_cases hs:s=[]
  ·subst hs;rw [oR] at hx;cases hx
  ·rw [eH hs] at hx
   obtain ⟨c1,c2,c3⟩:=bQd s [10];have hlt:=aBg (s:=s) (x:=[10]) hs (by simp)
   rcases jU.1 hx with rfl | hx
   ·exact ⟨c2,c1⟩
   ·match k,h with
    | 0,h=>exact absurd (uO (by omega)) hs
    | k+1,h =>
     obtain ⟨h1,h2⟩:=aLu k (Lib.cut s [10]).2.1 (by omega) x hx
     exact ⟨by omega,fun b hb=>c3 b (h2 b hb)⟩
def oT:List Int→List (List UInt8)→List (List UInt8)
 | [],us=>us
 | _::_,[]=>[]
 | t::ts,u::us=>(if t=0 then fO u else u)::oT ts us
theorem aLv:∀ (ts:List Int) (us:List (List UInt8)),(oT ts us).length=us.length
 | [],us=>rfl
 | _::_,[]=>rfl
 | t::ts,u::us=>by simp [oT,aLv ts us]
theorem aBv:∀ u:List UInt8,(fO u).length≤u.length
 | []=>dD _
 | b::r=>by
  simp only [fO]
  split
  ·have:=aBv r;simp;omega
  ·exact dD _
theorem aLw:∀ (ts:List Int) (us:List (List UInt8)) (N:Nat),(∀ u∈us,u.length≤N)→∀ u∈oT ts us,u.length≤N
 | [],us,N,h,u,hu=>h u hu
 | _::_,[],N,h,u,hu=>by cases hu
 | t::ts,v::us,N,h,u,hu=>by
  rcases jU.1 hu with rfl | hu
  ·have:=h v (by simp)
   split
   ·exact iE (aBv v) this
   ·exact this
  ·exact aLw ts us N (fun u hu=>h u (Cn _ hu)) u hu
theorem cCa{cs s u:List UInt8}(h:u∈aLf cs s):u.length≤s.length:=by
 unfold aLf at h
 obtain ⟨x,_,rfl⟩:=rX.1 h;unfold aBk;rw [pF,xY];omega
theorem cDz{cs s:List UInt8}:(aLf cs s).length≤s.length+1:=by
 have hI:=bIz cs s (gH 0 s).length (dD _);rw [List.take_length] at hI
 have h1:=hI.len;rw [tI] at h1
 unfold aLf bZo bIy;rw [kI]
 split
 ·rw [Bv];simp;omega
 ·omega
theorem yJ{k:Int}{nl:Nat}{R m:List (List Cel)}{xl Aa:List UInt8}(hn:xl.length≤90000):∀ (us:List (List UInt8)) (ts:List Int) (dn:List (List UInt8)) (fs:List (List UInt8)),fs=dn++us→fs.length=(cH xl).length→(aJ k).drop dn.length=ts →
  aF Tp 14 (sub (cd Tryz.f79) [1,1,1,1,1,1,1,0,1,0,1,0,1,1,1,0,1,0,0]) (dV k nl R m xl Aa dn.length fs.length ((fs.map stE).flatten)) (.exit 3) (dV k nl R m xl Aa (cH xl).length (dn++oT ts us).length (((dn++oT ts us).map stE).flatten))
 | [],ts,dn,fs,he,hl,hd=>by
  subst he;rw [List.append_nil] at hl ⊢
  have:oT ts []=[]:=by cases ts <;> rfl
  rw [this,List.append_nil,hl];have hx:=bDs (k:=k) (nl:=nl) (R:=R) (m:=m) (xl:=xl) (Aa:=Aa) (i:=dn.length) (fs:=dn) (by omega)
  rw [hl] at hx
  exact .exit hx (by simp)
 | u::us,ts,dn,fs,he,hl,hd=>by
  subst he;have h0:(dn.length:Int)<((cH xl).length:Int):=by rw [← hl];simp;omega
  have hN:(cH xl).length≤xl.length+1:=cDz;have hi:inR (((dn.length+1:Nat)):Int):=aR (by omega)
  have hat:(dn++u::us)[dn.length]? = some u:=by simp
  have hset:∀ v,(dn++u::us).set dn.length v=(dn++[v])++us:=fun v=>by
   rw [List.set_append,if_neg (by omega),aVz];simp
  match ts,hd with
  | [],hd =>
   have h1:((aJ k).length:Int)≤(dn.length:Int):=by
    have:=congrArg List.length hd;simp at this;omega
   have:=yJ (k:=k) (nl:=nl) (R:=R) (m:=m) (Aa:=Aa) hn us [] (dn++[u]) ((dn++[u])++us) rfl (by rw [← hl];simp) (by
    rw [List.drop_eq_nil_iff] at hd ⊢
    simp;omega)
   have e:(dn++[u])++us=dn++u::us:=by simp
   rw [e,Bv,List.length_singleton] at this
   have e2:(dn++[u])++oT [] us=dn++oT [] (u::us):=by simp [oT]
   rw [e2] at this
   exact .step (bDr h0 h1 hi rfl) this
  | t::ts,hd =>
   have hlt:dn.length<(aJ k).length:=by
    have:=congrArg List.length hd;simp at this;omega
   have ht:(aJ k)[dn.length]? = some t:=by
    have:=congrArg (·[0]?) hd
    simpa using this
   have Fp:(aJ k).drop (dn.length+1)=ts:=by rw [← List.tail_drop,hd];rfl
   by_cases hz:t=0
   ·have:=yJ (k:=k) (nl:=nl) (R:=R) (m:=m) (Aa:=Aa) hn us ts (dn++[fO u]) ((dn++[fO u])++us) rfl (by rw [← hl];simp) (by simpa using Fp)
    rw [← hset,Bv,List.length_singleton] at this
    have e2:(dn++[fO u])++oT ts us=dn++oT (t::ts) (u::us):=by simp [oT,hz]
    rw [e2] at this
    exact .step (bDp h0 (by omega) ht hz (by simp;omega) hat (by rw [dY];simp) hi rfl (by simp) (by rw [dY,dY,List.map_set,Nat.mul_one])) this
   ·have:=yJ (k:=k) (nl:=nl) (R:=R) (m:=m) (Aa:=Aa) hn us ts (dn++[u]) ((dn++[u])++us) rfl (by rw [← hl];simp) (by simpa using Fp)
    have e:(dn++[u])++us=dn++u::us:=by simp
    rw [e,Bv,List.length_singleton] at this
    have e2:(dn++[u])++oT ts us=dn++oT (t::ts) (u::us):=by simp [oT,hz]
    rw [e2] at this
    exact .step (bDq h0 (by omega) ht hz hi rfl) this
theorem cCb(s:List UInt8):0≤(paM s).1∧(paM s).1≤360000:=by
 unfold paM
 split
 ·rename_i h
  obtain ⟨_,_,h7,h8,_⟩:=h;have b1:=aGx (by omega) h7
  have b2:=aGx (by omega) h8
  have bn:=yG (Lib.cut s [58]).1 360000 (by omega)
  split
  ·exact ⟨aWa _,by decide⟩
  ·rename_i h2
   have h3:=fun q=>h2 (.inr q)
   dsimp only;constructor <;> omega
 ·exact ⟨aWa _,by decide⟩
theorem cCc(t:Int)(u:List UInt8) : -1000000000≤(rdM t u).1.1∧(rdM t u).1.1≤1000000000:=by
 unfold rdM;have h1:=yG u 999999 (by omega)
 have h2:=cCb u
 split
 ·dsimp only;omega
 ·split
  ·dsimp only;omega
  ·by_cases hh:(if t=2 then nI u else nJ u)=true
   ·rw [if_pos hh];exact (by decide : -1000000000≤(0:Int)∧(0:Int)≤1000000000)
   ·rw [if_neg hh];exact (by decide : -1000000000≤(0:Int)∧(0:Int)≤1000000000)
theorem aQm:∀ (ts:List Int) (us:List (List UInt8)) (i:Nat) (cs:List Cel),rdL ts us i = .inl cs→∀ c∈cs,-1000000000≤c.1∧c.1≤1000000000
 | [],us,i,cs,h,c,hc=>by cases h;cases hc
 | t::ts,[],i,cs,h,c,hc=>by cases h
 | t::ts,u::us,i,cs,h,c,hc=>by
  unfold rdL at h
  split at h
  ·cases h
  ·split at h
   ·rename_i Bg he
    cases h
    rcases jU.1 hc with rfl | hc
    ·exact cCc t u
    ·exact aQm ts us (i+1) Bg he c hc
   ·cases h
theorem bKw{k:Int}{r:List Cel}(h:∀ c∈r,-1000000000≤c.1∧c.1≤1000000000):kQ k r:=by
 have hj:∀ j,-1000000000≤aK k r j∧aK k r j≤1000000000:=fun j=>by
  unfold aK
  split
  ·cases hr:r[j]? with
   | none=>simp
   | some c=>simpa using h c (B0 hr)
  ·simp
 intro x hx;simp only [Av,jU,List.not_mem_nil,or_false] at hx
 rcases hx with rfl | rfl | rfl <;> exact hj _
structure TSt where
 nl:Nat
 R:List (List Cel)
def wKl:List UInt8:=[107,108,105,115,116,101,114]
def cEa:List UInt8:=[115,117,109]
def tdF(k:Int)(a:TSt)(x:List UInt8 × Bool):Except (TSt × Int × Int × Int) TSt :=
 match (cH x.1)[0]? with
 | none => .ok ⟨a.nl+1,a.R⟩
 | some u=>if u=wKl then .ok ⟨a.nl+1,a.R⟩ else if u=cEa then .ok ⟨a.nl+1,a.R⟩ else
  match rdL (aJ k) (oT (aJ k) (cH x.1)) 0 with
  | .inr p => .error (⟨a.nl+1,a.R⟩,((a.nl+1:Nat):Int),p.1,p.2)
  | .inl cs=>if (cH x.1).length≠(aJ k).length then .error (⟨a.nl+1,a.R⟩,((a.nl+1:Nat):Int),(((aJ k).length+1:Nat):Int),11) else
   match kR k a.R cs with
   | none => .ok ⟨a.nl+1,a.R++[cs]⟩
   | some y=>if y=cs then .ok ⟨a.nl+1,a.R⟩ else .error (⟨a.nl+1,a.R⟩,((a.nl+1:Nat):Int),1,5)
structure aQn (k:Int) (pre:List (List UInt8 × Bool)) (a:TSt):Prop where
 nl:a.nl=pre.length
 Rn:a.R.length≤a.nl
 len:∀ r∈a.R,r.length=(aJ k).length
 ky:∀ r∈a.R,kQ k r
 nd:(a.R.map (Av k)).Nodup
theorem bDe{k:Int}{R:List (List Cel)}{r y:List Cel}(h:kR k R r=some y):y∈R:=bMb h
theorem bDf{k:Int}{pre:List (List UInt8 × Bool)}{a a2:TSt}{x:List UInt8 × Bool}(h:aQn k pre a)(hf:tdF k a x = .ok a2):aQn k (pre++[x]) a2:=by
 obtain ⟨h1,h2,h3,h4,h5⟩:=h;have keep:aQn k (pre++[x]) ⟨a.nl+1,a.R⟩:=⟨by simp [h1],by show a.R.length≤a.nl+1;omega,h3,h4,h5⟩
 unfold tdF at hf
 split at hf
 ·cases hf;exact keep
 ·split at hf
  ·cases hf;exact keep
  ·split at hf
   ·cases hf;exact keep
   ·split at hf
    ·cases hf
    ·rename_i cs hr
     split at hf
     ·cases hf
     ·split at hf
      ·rename_i hl
       cases hf;refine ⟨by simp [h1],by simp;omega,fun r Dt => ?_,fun r Dt => ?_,?_⟩
       ·rcases nC.1 Dt with q | q
        ·exact h3 r q
        ·rw [List.mem_singleton] at q;subst q;exact vD _ _ _ _ hr
       ·rcases nC.1 Dt with q | q
        ·exact h4 r q
        ·rw [List.mem_singleton] at q;subst q;exact bKw (aQm _ _ _ _ hr)
       ·show ((a.R++[cs]).map (Av k)).Nodup
        rw [rW,List.nodup_append];refine ⟨h5,by simp,fun u hu v hv e => ?_⟩
        simp only [gS,List.map_nil,List.mem_singleton] at hv
        subst hv;subst e;obtain ⟨y,hy,hyk⟩:=rX.1 hu;have:=List.find?_eq_none.1 hl y hy;simp [hyk] at this
      ·split at hf
       ·cases hf;exact keep
       ·cases hf
theorem aBw{k:Int}:∀ (l pre:List (List UInt8 × Bool)) (a a2:TSt),aQn k pre a→itB (tdF k) a l = .ok a2→aQn k (pre++l) a2
 | [],pre,a,a2,h,hi=>by cases hi;rw [List.append_nil];exact h
 | x::l,pre,a,a2,h,hi=>by
  cases hf:tdF k a x with
  | error e=>simp only [itB,hf] at hi;cases hi
  | ok a' =>
   simp only [itB,hf] at hi
   have:=aBw l (pre++[x]) a' a2 (bDf h hf) hi;rw [List.append_assoc] at this
   exact this
def tdA:TSt:=⟨0,[]⟩
theorem bKx(k:Int):aQn k [] tdA:=⟨rfl,dD _,fun r h=>(by cases h),fun r h=>(by cases h),List.nodup_nil⟩
abbrev tdS(k:Int)(a:TSt):St:=dA k a.nl a.R.length ((a.R.map rwE).flatten) (bO k a.R) a.R.length
abbrev tdR(k:Int)(e:TSt × Int × Int × Int):St:=bV (bV (bV (bV (tdS k e.1) 5 (some (.box 158 [.p (aB k),.own 13,.p (aB e.2.1),.p (aB e.2.2.1),.p (aB e.2.2.2)]))) 2 (some (.box 3 [.p (aB e.2.1)]))) 3 (some (.box 3 [.p (aB e.2.2.1)]))) 4 (some (.box 27 [.p (aB e.2.2.2)]))
theorem bKy{k:Int}{s:List UInt8}(hs:s.length≤65536)(ha:∀ b∈s,b.toNat<128){pre:List (List UInt8 × Bool)}{x:List UInt8 × Bool}{a:TSt}(hp:pre++[x] <+: cF s)(h:aQn k pre a) :
  (∀ a',tdF k a x = .ok a'→bW Tp 14 13 (sub (cd Tryz.f79) [1,1,1,1,1,1,1,0,1,0,1]) (pH (tdS k a) 45 46 14 x.1 x.2) .normal (tdS k a').m) ∧
  (∀ e,tdF k a x = .error e→bW Tp 14 13 (sub (cd Tryz.f79) [1,1,1,1,1,1,1,0,1,0,1]) (pH (tdS k a) 45 46 14 x.1 x.2) .ret (tdR k e).m):=by
 have hxm:x∈cF s:=by
  obtain ⟨l,hl⟩:=hp;rw [← hl];simp
 obtain ⟨Gl,Fz⟩:=aLu _ s (dD _) x hxm;have hpl:pre.length<s.length+1:=by
  have h1:=tG _ s (dD _);obtain ⟨l,hl⟩:=hp;have:=congrArg List.length hl;simp at this;omega
 obtain ⟨xl,xb⟩:=x;obtain ⟨nl,R⟩:=a;obtain ⟨h1,h2,h3,h4,h5⟩:=h;dsimp only at h1 h2 h3 h4 h5 Gl Fz
 have i1:inR (((nl+1:Nat)):Int):=aR (by omega)
 have i2:xl.length≤90000:=by omega
 have i3:∀ b∈xl,b.toNat<128:=fun b hb=>ha b (Fz b hb)
 unfold tdF;dsimp only;cases hf:(cH xl)[0]? with
 | none =>
  refine ⟨fun _ h => ?_,fun _ h=>(by cases h)⟩
  cases h;have:(cH xl).length=0:=by simpa using hf
  exact bDh i1 i2 i3 (by omega) rfl
 | some u =>
  have hn:0<(cH xl).length:=bC hf;have z1:((cH xl).length:Int)≠(0:Int):=by omega
  have z2:0≤(0:Int)∧(0:Int)<((cH xl).length:Int):=by omega
  dsimp only
  by_cases hk:u=wKl
  ·rw [if_pos hk]
   refine ⟨fun _ h => ?_,fun _ h=>(by cases h)⟩
   cases h;exact bDi i1 i2 i3 z1 z2 hf hk rfl
  rw [if_neg hk]
  by_cases hu:u=cEa
  ·rw [if_pos hu]
   refine ⟨fun _ h => ?_,fun _ h=>(by cases h)⟩
   cases h;exact bDj i1 i2 i3 z1 z2 hf hk hu rfl
  rw [if_neg hu];have hL:=yJ (k:=k) (nl:=nl) (R:=R) (m:=R) (xl:=xl) (Aa:=u) i2 (cH xl) (aJ k) [] (cH xl) rfl rfl rfl;rw [List.nil_append,List.length_nil] at hL
  have F7:∀ v∈oT (aJ k) (cH xl),v.length≤90000:=aLw _ _ _ (fun v hv=>iE (cCa hv) i2)
  cases hr:rdL (aJ k) (oT (aJ k) (cH xl)) 0 with
  | inr p =>
   obtain ⟨fd,er⟩:=p;refine ⟨fun _ h=>(by cases h),fun _ h => ?_⟩
   cases h;exact bDo i1 i2 i3 z1 z2 hf hk hu hL F7 hr (aPr _ _ _ _ hr) rfl
  | inl cs =>
   have hcl:=vD _ _ _ _ hr;have hsl:=aLv (aJ k) (cH xl);dsimp only
   by_cases hfl:(cH xl).length=(aJ k).length
   ·rw [if_neg (by simp [hfl])]
    have hkc:aM k≤(cs.length:Int):=by rw [hcl];exact uV k
    have hki:=bKw (k:=k) (aQm _ _ _ _ hr);have hKA:=vG h4 hki h5;cases hlk:kR k R cs with
    | none =>
     refine ⟨fun _ h => ?_,fun _ h=>(by cases h)⟩
     cases h;exact bDm (R:=R) (m:=R) (R':=R++[cs]) (m':=R++[cs]) i1 i2 i3 z1 z2 hf hk hu hL F7 hr (by rw [hsl];exact hfl) hkc hKA (by rw [nT,nU,hlk];rfl) ⟨rfl,by omega⟩ rfl (by simp) (nR R cs) (aFa k R cs) (by simp)
    | some y =>
     have hy:=h3 y (bDe hlk);have hcol:(aJ k).length≤10:=by unfold aJ;(repeat' split) <;> decide
     dsimp only
     by_cases he:y=cs
     ·rw [if_pos he]
      refine ⟨fun _ h => ?_,fun _ h=>(by cases h)⟩
      cases h;exact bDl i1 i2 i3 z1 z2 hf hk hu hL F7 hr (by rw [hsl];exact hfl) hkc hKA (by rw [nT,nU,hlk];rfl) (by rw [rR,hlk];rfl) (by omega) (decide_eq_true he) rfl
     ·rw [if_neg he]
      refine ⟨fun _ h=>(by cases h),fun _ h => ?_⟩
      cases h;exact bDk i1 i2 i3 z1 z2 hf hk hu hL F7 hr (by rw [hsl];exact hfl) hkc hKA (by rw [nT,nU,hlk];rfl) (by rw [rR,hlk];rfl) (by omega) (decide_eq_false he) rfl
   ·rw [if_pos hfl]
    refine ⟨fun _ h=>(by cases h),fun _ h => ?_⟩
    cases h;exact bDn i1 i2 i3 z1 z2 hf hk hu hL F7 hr (by rw [hsl];exact hfl) rfl
theorem aBx{M A B:Mem}{es:List (Value × PV)}{cl:Nat}{o:AO}(hA:oQ A=true)(hB:oQ B=true)(ho:M[A.length]? = some (some o))(hv:∀ e∈es,nmP e.2=true):oP M (A++some (.mp es cl)::B):=by
 intro id Fa Jy h
 rcases Nat.lt_trichotomy id A.length with q | q | q
 ·rw [aGg q] at h
  exact absurd h ((eU hA).1 _ _ _)
 ·subst q
  rw [aJy (dD _),aVz] at h
  simp at h
  obtain ⟨rfl,_⟩:=h;exact ⟨⟨o,ho⟩,fun j hj=>hv _ (iC hj)⟩
 ·rw [aJy (by omega)] at h
  obtain ⟨d,hd⟩:∃ d,id-A.length=d+1:=⟨id-A.length-1,by omega⟩
  rw [hd,List.getElem?_cons_succ] at h
  exact absurd h ((eU hB).1 _ _ _)
theorem bKz(k:Int)(R:List (List Cel)):∀ e∈bO k R,nmP e.2=true:=fun e he=>by
 obtain ⟨r,_,rfl⟩:=rX.1 he;have:=aSt r;show nmP (aN r)=true;unfold rwE at this
 simpa [iU] using this
theorem wM:∀ l:List Int,iU (l.map aB)=true
 | []=>rfl
 | _::l=>wM l
theorem bDg{k:Int}{s:List UInt8}(hs:s.length≤65536)(ha:∀ b∈s,b.toNat<128) :
  (∀ a,itB (tdF k) tdA (cF s) = .ok a→aA Tp 0 (sub (cd Tryz.f79) be) (wN k s) .normal (tdS k a))∧(∀ e,itB (tdF k) tdA (cF s) = .error e→aA Tp 0 (sub (cd Tryz.f79) be) (wN k s) .ret (tdR k e)):=by
 refine aBf (k:=0) (kb:=14) (kk:=13) (gi:=44) (p1:=45) (p2:=46) (bx:=12) (g0:=⟨[],[13],[],[(105001,78)]⟩) s (by omega) (wN k s) (tdS k) (tdR k) (wN k s).t (tdF k) tdA
  (s1T 45 46 14) (Ho 45 46 14) (asg := aPx 11 45 14 9 "read.go:179") (body := (sub (cd Tryz.f79) [1, 1, 1, 1, 1, 1, 1, 0, 1, 0, 1])) (by kernel_rfl) rfl rfl rfl (by show 13 ≤ 13; omega) ⟨(wN k s).t, by kernel_rfl⟩ (fun _ => rfl) (fun _ => rfl)
  (fun a => ?_) (fun e => ?_) (fun a=>gT (by rfl)) (fun e=>gT (by rfl)) (gT (by rfl)) (fun a => ?_) (fun e => ?_) (fun a=>by show 14≤14;omega) (by kernel_rfl)
  (fun a x l K W h=>Nw a x l K W h) (fun a x C M W h=>aSv (fun _=>rfl) a x h) (fun _ _=>rfl) (fun pre x a hp hi=>bKy hs ha hp (by have:=aBw pre [] tdA a (bKx k) hi;exact this))
 ·exact aBx (A:=(tdS k a).m.take 9) (B:=(tdS k a).m.drop 10) (o := .mp [] 0) (by rfl) (by rfl) rfl (bKz k a.R)
 ·exact aBx (A:=(tdR k e).m.take 9) (B:=(tdR k e).m.drop 10) (o := .mp [] 0) (by rfl) (by rfl) rfl (bKz k e.1.R)
 ·show ((iU ((aJ k).map aB) && true) && (iU (a.R.map rwE).flatten && true))=true
  rw [qR,wM];rfl
 ·show ((iU ((aJ k).map aB) && true) && (iU (e.1.R.map rwE).flatten && true))=true
  rw [qR,wM];rfl
theorem cCd{k:Int}(hk:within k 0 4=true){s:List UInt8}(hs:s.length≤65536)(ha:∀ b∈s,b.toNat<128){a:TSt}(hi:itB (tdF k) tdA (cF s) = .ok a)(h1:1≤a.R.length)(Ba:a.R.length≤12){base:Nat} :
  FV Tp 79 [.p (aB k),.p (aD s)] base (.tup [.p (.agg [aB k,bZ (isG (bS k) a.R)]),.p (aB 0),.p (aB 0),.p (aB 0)]) []:=by
 have hok:=aBw (cF s) [] tdA a (bKx k) hi;have:=cCe (s:=s) hk (by omega) ((bDg hs ha).1 a hi) (by omega) Ba h1 (fun x hx=>by rw [hok.len x hx];exact uV k)
 rw [fI] at this
 exact FV.frz this (by rfl)
end KV
end Go.Proofs
end
section
namespace Go.Proofs
open Go.RowKit
namespace KV
open Tryz
theorem yK:dZ 0 lM=0:=by decide +kernel
theorem bDt{n:Nat}(h:n<10):Lib.itoa (n:Int)=[UInt8.ofNat (48+n)]:=by rw [Lib.itoa_nonneg,nK h]
theorem aLx{n:Nat}(h:¬ n<10):Lib.itoa (n:Int)=Lib.itoa ((n / 10:Nat):Int)++[UInt8.ofNat (48+n % 10)]:=by rw [Lib.itoa_nonneg,yF h,Lib.itoa_nonneg]
theorem Si:Lib.itoa 2=[50]:=bDt (n:=2) (by omega)
theorem Sj:Lib.itoa 7=[55]:=bDt (n:=7) (by omega)
theorem Me:Lib.itoa 1=[49]:=bDt (n:=1) (by omega)
theorem Oe:Lib.itoa 0=[48]:=bDt (n:=0) (by omega)
theorem Sk:Lib.itoa 5=[53]:=bDt (n:=5) (by omega)
theorem Of:Lib.itoa 12=[49,50]:=by
 have:=aLx (n:=12) (by omega)
 rw [show ((12 / 10:Nat):Int)=1 from rfl,Me] at this
 exact this
theorem Lf:Lib.itoa 100=[49,48,48]:=by
 have A9:=aLx (n:=10) (by omega)
 rw [show ((10 / 10:Nat):Int)=1 from rfl,Me] at A9
 have:=aLx (n:=100) (by omega)
 rw [show ((100 / 10:Nat):Int)=((10:Nat):Int) from rfl,A9] at this
 exact this
theorem Lg:Lib.itoa 130=[49,51,48]:=by
 have A9:=aLx (n:=13) (by omega)
 rw [show ((13 / 10:Nat):Int)=1 from rfl,Me] at A9
 have:=aLx (n:=130) (by omega)
 rw [show ((130 / 10:Nat):Int)=((13:Nat):Int) from rfl,A9] at this
 exact this
theorem Sl:(ptM 0).1=[48,58,48,48,46,48]:=by
 have e:ptM 0=((((((Lib.itoa 0)++[58])++((Lib.itoa 100).drop 1))++[46])++Lib.itoa 0),0):=by
  unfold ptM;rw [if_pos (by decide)];rfl
 rw [e,Oe,Lf];rfl
theorem Lh:(ptM 305).1=[48,58,51,48,46,53]:=by
 have e:ptM 305=((((((Lib.itoa 0)++[58])++((Lib.itoa 130).drop 1))++[46])++Lib.itoa 5),0):=by
  unfold ptM;rw [if_pos (by decide)];rfl
 rw [e,Oe,Lg,Sk];rfl
def bQe:List UInt8:=[107,108,105,115,116,101,114,32,115,116,97,114,116,115,32,50,10,55,32,48,58,48,48,46,48,32,49,10,49,50,32,48,58,51,48,46,53,32,48,10]
theorem bLa:iX 0 lM=bQe:=by
 have e1:cZ 0 [(7,[]),(0,[]),(1,[])]=[[55],[48,58,48,48,46,48],[49]]:=by
  show [Lib.itoa 7,(ptM 0).1,Lib.itoa 1]=_;rw [Sj,Sl,Me]
 have e2:cZ 0 [(12,[]),(305,[]),(0,[])]=[[49,50],[48,58,51,48,46,53],[48]]:=by
  show [Lib.itoa 12,(ptM 305).1,Lib.itoa 0]=_;rw [Of,Lh,Oe]
 have e0:lY 0 2=[107,108,105,115,116,101,114,32,115,116,97,114,116,115,32,50,10]:=by
  show lnM [_,_,Lib.itoa 2]=_;rw [Si];rfl
 show (lY 0 2++lnM (cZ 0 [(7,[]),(0,[]),(1,[])]))++lnM (cZ 0 [(12,[]),(305,[]),(0,[])])=_;rw [e0,e1,e2];rfl
theorem bQf:bQ bQe=3900:=by decide +kernel
theorem Og:Lib.itoa 3=[51]:=bDt (n:=3) (by omega)
theorem Lk:Lib.itoa 39=[51,57]:=by
 have:=aLx (n:=39) (by omega)
 rw [show ((39 / 10:Nat):Int)=3 from rfl,Og] at this
 exact this
theorem Ju:Lib.itoa 390=[51,57,48]:=by
 have:=aLx (n:=390) (by omega)
 rw [show ((390 / 10:Nat):Int)=39 from rfl,Lk] at this
 exact this
theorem Ih:Lib.itoa 3900=[51,57,48,48]:=by
 have:=aLx (n:=3900) (by omega)
 rw [show ((3900 / 10:Nat):Int)=390 from rfl,Ju] at this
 exact this
def aLy:List UInt8:=bQe++[115,117,109,32,51,57,48,48,10]
theorem bDu:qE 0 lM=(aLy,0):=by
 unfold qE;rw [if_neg (by rw [yK];simp),bLa]
 have e:kW bQe=3900:=by unfold kW;rw [if_pos (by decide),bQf]
 rw [e,Ih];rfl
end KV
end Go.Proofs
end
section
set_option maxRecDepth 1000000
namespace Go.Proofs
open Go.RowKit
namespace KV
open Tryz
def cBp:List UInt8:=[107,108,105,115,116,101,114,32,115,116,97,114,116,115,32,50,10,55,32,54,48,49,58,48,48,46,48,32,49,10]
def cBq:List UInt8:=[48,49,50,32,32,32,48,58,51,48,46,53,32,48,10,10,55,32,48,58,48,48,46,48,32,49]
def oS:List (List Cel):=[[(7,[]),(10,[]),(1,[])],[(9,[]),(200,[]),(0,[])]]
def aHt:List (List Cel):=[[(7,[]),(0,[]),(2,[])],[(12,[]),(305,[]),(0,[])]]
theorem bPy:prM aLy=(0,lM,0,0,0):=by decide +kernel
theorem bPz:prM cBp=(0,[],2,2,3):=by decide +kernel
theorem cBr{base:Nat}:FV Tp 30 [.p (aD [97,98])] base (.tup [.p (aB 3105),.p (aB 0)]) []:=by
 have:=mA [97,98] (by decide) (base:=base)
 rw [show bQ [97,98]=3105 by decide +kernel] at this
 exact this
theorem bKt{base:Nat}:FV Tp 28 [.p (.agg [aB 0,bZ lM])] base (.tup [.p (aD aLy),.p (aB 0)]) []:=by
 have:=bHh 0 lM (base:=base);rw [bDu] at this
 exact this
theorem bKu{base:Nat}:FV Tp 15 [.p (aD aLy)] base (.tup [.p (.agg [aB 0,bZ lM]),.p (aB 0),.p (aB 0),.p (aB 0)]) []:=by
 have:=aBi aLy (base:=base);rw [bPy] at this
 exact this
theorem cBs{base:Nat}:FV Tp 15 [.p (aD cBp)] base (.tup [.p (.agg [aB 0,bZ []]),.p (aB 2),.p (aB 2),.p (aB 3)]) []:=by
 have:=aBi cBp (base:=base);rw [bPz] at this
 exact this
theorem cBt:itB (tdF 0) tdA (cF cBq) = .ok ⟨3,[[(12,[]),(305,[]),(0,[])],[(7,[]),(0,[]),(1,[])]]⟩:=by kernel_rfl
theorem bQa{base:Nat}:FV Tp 79 [.p (aB 0),.p (aD cBq)] base (.tup [.p (.agg [aB 0,bZ lM]),.p (aB 0),.p (aB 0),.p (aB 0)]) []:=by
 have:=cCd (k:=0) (by decide) (s:=cBq) (by decide) (by decide) cBt (by decide) (by decide) (base:=base)
 rw [show isG (bS 0) [[(12,[]),(305,[]),(0,[])],[(7,[]),(0,[]),(1,[])]]=lM by decide +kernel] at this
 exact this
theorem aTs{R:List (List Cel)}(h:R.length≤100000)(h2:∀ r∈R,r.length≤100000){base:Nat}:FV Tp 24 [.p (.agg [aB 0,bZ R]),.p (.agg [aB 0,bZ R])] base (.p (blP true)) []:=by
 have:=bUj 0 R 0 R h h2 (base:=base);rw [decide_eq_true ⟨rfl,rfl⟩] at this
 exact this
theorem aLt{base:Nat}:FV Tp 24 [.p (.agg [aB 0,bZ lM]),.p (.agg [aB 0,bZ lM])] base (.p (blP true)) []:=aTs (by decide) (by decide)
theorem bKv{base:Nat}:FV Tp 24 [.p (.agg [aB 0,bZ oS]),.p (.agg [aB 0,bZ oS])] base (.p (blP true)) []:=aTs (by decide) (by decide)
theorem aHu:fZ 0 lM:=⟨by decide,by decide,by decide +kernel,by decide +kernel⟩
theorem aTt:fZ 0 oS:=⟨by decide,by decide,by decide +kernel,by decide +kernel⟩
theorem bQb:fZ 0 aHt:=⟨by decide,by decide,by decide +kernel,by decide +kernel⟩
theorem aTu:dZ 0 oS=0:=by decide +kernel
theorem bQc:dZ 0 aHt=0:=by decide +kernel
def aCl:List Chg:=[([(7,[]),(0,[]),(1,[])],[(7,[]),(10,[]),(1,[])]),([],[(9,[]),(200,[]),(0,[])]),([(12,[]),(305,[]),(0,[])],[])]
def cBu:List Chg:=[([(7,[]),(0,[]),(1,[])],[(7,[]),(0,[]),(2,[])])]
theorem vH:dfM 0 lM oS=aCl:=by decide +kernel
theorem yI:dfM 0 lM aHt=cBu:=by decide +kernel
theorem cBv{base:Nat}:FV Tp 56 [.p (.agg [aB 0,bZ lM]),.p (.agg [aB 0,bZ oS])] base (.tup [.p (.sl 3 ((aCl.map chE).flatten)),.p (aB 0)]) []:=by
 have:=cAm yK aTu aHu aTt (by decide +kernel) (by decide +kernel) (base:=base)
 rw [vH] at this
 exact this
theorem cDx:bOy 0 aCl:=⟨by decide +kernel,by decide,by decide +kernel,by decide +kernel,by decide +kernel,by unfold ckL;decide +kernel,by decide +kernel,by decide +kernel⟩
theorem cBw{base:Nat}:FV Tp 59 [.p (.agg [aB 0,bZ lM]),.p (.sl 3 ((aCl.map chE).flatten))] base (.tup [.p (.agg [aB 0,bZ oS]),.p (aB 0)]) []:=by
 have:=cAa (k:=0) (R:=lM) (l:=aCl) (m1:=((aCl.foldlM (apF 0) (lM.map fun r=>(r,r))).getD [])) yK aHu cDx (by decide +kernel) (by decide +kernel) (by decide +kernel) (by decide +kernel) (by decide +kernel) (by decide +kernel) (base:=base)
 rw [show isG (bS 0) (apL 0 ((aCl.foldlM (apF 0) (lM.map fun r=>(r,r))).getD []) lM aCl)=oS by decide +kernel] at this
 exact this
theorem cBx:aTd 0 aCl:=⟨by decide,by decide +kernel,by decide +kernel,by decide +kernel,by decide⟩
theorem cBy:aTd 0 cBu:=⟨by decide,by decide +kernel,by decide +kernel,by decide +kernel,by decide⟩
theorem cBz{base:Nat}:FV Tp 20 [.p (.agg [aB 0,bZ lM]),.p (.agg [aB 0,bZ oS]),.p (.agg [aB 0,bZ aHt])] base (.tup [.p (.agg [aB 0,bK]),.p (.sl 1 [bD [7]]),.p (aB 0)]) []:=by
 have:=bZx yK aTu bQc aHu aTt bQb (by decide +kernel) (by decide +kernel) (by decide +kernel) (by decide +kernel) (by rw [vH];exact cBx) (by rw [yI];exact cBy) (by rw [vH,yI];decide +kernel) (by rw [vH,yI];decide +kernel)
 rw [vH,yI,show cBu.filterMap (G2 aCl)=[[7]] by decide +kernel] at this
 exact FV.frz this (by rfl)
theorem cDy{base:Nat}:FV Tp 23 [.p (.sl 1 [bD [7]]),.p (.sl 1 [bD [7]])] base (.p (blP true)) []:=by
 have:=bZl [[7]] [[7]] (by decide) (by decide) (base:=base)
 rw [decide_eq_true rfl] at this
 exact this
end KV
end Go.Proofs
end
namespace Go.Proofs
namespace KV
open Tryz
section

theorem xQ:((0:Int) != 0)=false:=by first | decide | simp
theorem bSf:((0:Int) == 0)=true:=by first | decide | simp
theorem cDu:((2:Int) != 2)=false:=by first | decide | simp
theorem bSg:((3:Int) == 3)=true:=by first | decide | simp
theorem cDv:((3:Int) != 3)=false:=by first | decide | simp
theorem cDw:((3105:Int) != 3105)=false:=by first | decide | simp
theorem cBn{base:Nat}:FV Tp 32 [.p (aD aLy),.p (aD [107,108,105,115,116,101,114,32,115,116,97,114,116,115,32,50,10,55,32,48,58,48,48,46,48,32,49,10,49,50,32,48,58,51,48,46,53,32,48,10,115,117,109,32])] base (pB true) []:=by
 have:=bSh aLy [107,108,105,115,116,101,114,32,115,116,97,114,116,115,32,50,10,55,32,48,58,48,48,46,48,32,49,10,49,50,32,48,58,51,48,46,53,32,48,10,115,117,109,32] (base:=base);rw [show Lib.hasPrefix aLy [107,108,105,115,116,101,114,32,115,116,97,114,116,115,32,50,10,55,32,48,58,48,48,46,48,32,49,10,49,50,32,48,58,51,48,46,53,32,48,10,115,117,109,32]=true by decide +kernel] at this
 exact this
theorem cBo{base:Nat}:FV Tp 14 [] base (pB true) []:=by
 have k1:=fk 0 cBr rfl;have k2:=fk 0 (vZ) rfl;have k3:=fk 0 bKt rfl;have k4:=fk 0 bKu rfl;have k5:=fk 1 (vZ) rfl;have k6:=fk 1 cBs rfl;have k7:=fk 1 bQa rfl;have k8:=fk 1 (vZ) rfl;have k9:=fk 1 (rK 7 10 1) rfl;have Kk:=fk 1 (rK 9 200 0) rfl;have G8:=fk 2 (vZ) rfl;have Io:=fk 10 cBv rfl;have Hy:=fk 2 (vZ) rfl;have E6:=fk 2 cBw rfl;have O5:=fk 2 (rK 7 0 2) rfl;have O6:=fk 2 (rK 12 305 0) rfl;have O7:=fk 3 (vZ) rfl;have O8:=fk 11 cBz rfl;exact FV.fi func14 ([k1.o,k2.o,k3.o,k4.o]++rF 17++[k5.o,bF,.c (pB true) [],bF,bF,bF,bF,.c (pB true) [],bF,bF,bF,k6.o,k7.o]++rF 11++[k8.o,bF,.c (pB true) [],bF,bF,bF,k9.o,Kk.o,.g 1 ⟨[],[0,2],[1],[]⟩,G8.o,Io.o,Hy.o,E6.o,O5.o,O6.o,.g 1 ⟨[],[0,1,3],[2],[]⟩,O7.o,O8.o]++rT 13++[.c (pB true) []]++rT 5++[.c (pB true) [],bT]) (gt (true=true) rfl (gt (FC Tp 23 [(.p (.sl 1 [(bD [7])])),(.own 21)] [(21,(.row 68 1 [(PV.sl 1 [(aB 7)])]))] 22 (pB true) []) (fv cDy) (gt (true=true) rfl (gt (true=true) rfl (gt (true=true) rfl (gt (true=true) rfl (gc bSg (gc (fk 20 bKv rfl) (A2 bSg (I2 bSf (A4 bSf (gc O8 (gc O7 (gc O6 (gc O5 (gc E6 (gc Hy (gc Io (gc G8 (gc Kk (gc k9 (gf (A4 xQ (gc (fk 9 aLt rfl) (gc xQ (gc k8 (A4 xQ (G3 cDu (A2 cDv (gc k7 (gc k6 (gf (gf (gf (gc (fk 17 cBn rfl) (gf (gf (A4 xQ (gc (fk 9 aLt rfl) (gc xQ (gc k5 (Cg xQ (A2 cDw (I2 xQ (gc xQ (gc k4 (gc k3 (gc k2 (gc k1 gn)))))))))))))))))))))))))))))))))))))))))))))))))
end
end KV
end Go.Proofs
