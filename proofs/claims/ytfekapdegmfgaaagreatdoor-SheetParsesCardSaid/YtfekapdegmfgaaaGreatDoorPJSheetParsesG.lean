/- Parts of the proof of JSheetParses: laws of walks, contracts of functions, plain models. No condition. -/
import Derived.Test.YtfekapdegmfgaaaGreatDoorPJSheetParsesF
set_option linter.unusedVariables false
set_option linter.unusedSimpArgs false
set_option linter.unnecessarySimpa false
set_option maxRecDepth 100000
section
namespace Go.Proofs
open Go.RowKit Go.Maps
namespace KV
open Tryz
set_option maxRecDepth 1000000
theorem FMM.wkp{P:Program}{f:Nat}{args:List AV}{M M':Mem}{x:PV}(h:FMM P f args M (.p x) M'):FMM P f args M (.p (wkP x)) M':=fun C w us hus hM n=>by
 refine (h C w us hus hM n).mono ?_;rintro e w' ⟨u,rfl,C',hF,Ep,hr⟩;exact ⟨u,rfl,C',hF,Ep,aGx hr⟩
theorem cX.wk{C:Cx}{M:Mem}{w:World}:∀ {args:List AV} {us:List Value},cX C M w args us→cX C M w (args.map Ks) us
 | [],_,h=>by cases h;exact .nil
 | x::l,_,h=>by
  cases h with
  | cons _ _ u us h1 h2=>exact .cons _ _ _ _ (aGx h1) h2.wk
theorem FV.argwk{P:Program}{f base:Nat}{args Aw:List AV}{y:AV}{L:Upd}(h:FV P f Aw base y L)(e:args.map Ks=Aw):FV P f args base y L:=by
 obtain ⟨r,M1,h1,h2⟩:=h;refine ⟨r,M1,fun C w us hus hM n => ?_,h2⟩
 subst e;exact h1 C w us hus.wk hM n
theorem aE.count{P:Program}{k:Nat}{b:Code}{e:Ex}{R:St}(N:Nat)(S:Nat→St)(hs:∀ i,i<N→aA P k b (S i) .normal (S (i+1)))(hx:aA P k b (S N) e R)(he:e ≠ .normal):aE P k b (S 0) e R:=by
 have key:∀ d i,i+d=N→aE P k b (S i) e R:=by
  intro d
  induction d with
  | zero =>
   intro i hi;obtain rfl:i=N:=by omega
   exact .exit hx he
  | succ d ih=>intro i hi;exact .step (hs i (by omega)) (ih (i+1) (by omega))
 exact key N 0 (by omega)

theorem qX(r:List Cel)(h:r.length≤1000000){base:Nat}:FV Tp 150 [.p (aP r)] base (.p (aP r)) []:=by
 refine FV.frz ?_ rfl
 by_cases h0:r.length=0
 ·have:r=[]:=tB h0
  subst this;exact FMM.wkp (cDv (r:=[]) (by simp))
 ·exact cDw (by omega) (by omega) ⟨cAi r,rfl⟩
def A8(k:Int)(r:List Cel):List Int:=[aM k r 0,aM k r 1,aM k r 2]
def lB(k:Int)(r:List Cel):Prop:=∀ x∈A8 k r,-1000000000≤x∧x≤1000000000
instance (k:Int) (r:List Cel):Decidable (lB k r):=by unfold lB;infer_instance
theorem lK{k:Int}{r:List Cel}(h:lB k r):∃ l,keyOf Tp 186 (iZ k r)=some l :=
 cEa (Jq (h _ (by simp [A8]))) (Jq (h _ (by simp [A8]))) (Jq (h _ (by simp [A8])))
theorem aHl{k:Int}{r t:List Cel}(h:A8 k r=A8 k t):iZ k r=iZ k t:=by
 unfold A8 at h
 simp only [List.cons.injEq,and_true] at h
 unfold iZ;rw [h.1,h.2.1,h.2.2]
theorem vD{k:Int}{L:List (List Cel)}{r:List Cel}(hL:∀ x∈L,lB k x)(hr:lB k r)(hn:(L.map (A8 k)).Nodup):eO Tp 186 (bQ k L) (iZ k r):=by
 refine ⟨Eg,fun e he => ?_,lK hr,fun e he h => ?_,?_⟩
 ·obtain ⟨x,hx,rfl⟩:=uN.1 he
  exact lK (hL x hx)
 ·obtain ⟨x,hx,rfl⟩:=uN.1 he
  exact aHl h
 ·unfold bQ
  rw [aCa];exact hn
theorem nU(k:Int)(L:List (List Cel))(r:List Cel):iE (bQ k L) (iZ k r)=L.any fun x=>decide (A8 k x=A8 k r):=by
 unfold iE bQ;rw [List.any_map];rfl
def lC(k:Int)(L:List (List Cel))(r:List Cel):Option (List Cel):=L.find? fun x=>decide (A8 k x=A8 k r)
theorem rS(k:Int)(L:List (List Cel))(r:List Cel):iA (bQ k L) (iZ k r)=(lC k L r).map aP:=by
 unfold iA bQ lC;rw [List.find?_map];have e:((fun e:Value × PV=>decide (kL e.1=kL (iZ k r))) ∘ fun r=>(iZ k r,aP r))=fun x=>decide (A8 k x=A8 k r):=rfl
 rw [e];cases List.find? (fun x=>decide (A8 k x=A8 k r)) L <;> rfl
theorem nV{k:Int}{L:List (List Cel)}{r:List Cel}:(L.any fun x=>decide (A8 k x=A8 k r))=(lC k L r).isSome:=by
 unfold lC;rw [Bool.eq_iff_iff,List.find?_isSome,List.any_eq_true]
theorem aEy(k:Int)(L:List (List Cel))(r:List Cel):bQ k (L++[r])=bQ k L++[(iZ k r,aP r)]:=by
 unfold bQ;rw [vT];rfl
structure gF (k:Int) (R:List (List Cel)):Prop where
 n:R.length≤1000
 len:∀ x∈R,aN k≤(x.length:Int)∧x.length≤1000
 ky:∀ x∈R,lB k x
 nd:(R.map (A8 k)).Nodup
theorem aQr{k:Int}{R:List (List Cel)}(h:gF k R):FMM Tp 149 [.p (.agg [aB k,bW R])] [] (.mp 0) [some (.mp (bQ k R) R.length)]:=by
 have hn:=h.n;have L:=aE.count (P:=Tp) (k:=0) (b:=(sub (cd Tryz.f149) bt)) (e := .exit 0) (R:=qY k R R.length (bQ k R) R.length) R.length (fun i=>qY k R i (bQ k (R.take i)) (R.take i).length)
  (fun i hi=>by
   have hx:R[i]? = some R[i]:=Ch hi;have et:R.take (i+1)=R.take i++[R[i]]:=by rw [List.take_add_one,hx];rfl
   have hm:=iF hi;have hnt:((R.take i).map (A8 k)).Nodup:=by rw [List.map_take];exact h.nd.sublist (List.take_sublist i _)
   have hno:((R.take i).any fun x=>decide (A8 k x=A8 k R[i]))=false:=by
    rw [List.any_eq_false];intro y hy hd;obtain ⟨j,hj,e⟩:=List.mem_iff_getElem.1 hy;rw [uM] at hj
    rw [List.getElem_take] at e
    have hd:=of_decide_eq_true hd;rw [← e] at hd
    have:=List.pairwise_iff_getElem.1 h.nd j i (by rw [pE];omega) (by rw [pE];omega) (by omega)
    rw [iR,iR] at this
    exact this hd
   exact bDw (m:=R.take i) (m':=R.take (i+1)) (by omega) hx (h.len _ hm).1 (vD (fun x hx=>h.ky x (List.mem_of_mem_take hx)) (h.ky _ hm) hnt) (by rw [nU];exact hno) (aL (by omega)) rfl (by rw [et];exact aEy k (R.take i) R[i]) (by simp;omega))
  (by rw [List.take_length];exact bDx (by omega)) (by simp)
 exact cDz L
end KV
end Go.Proofs
end
namespace Go.Proofs
namespace KV
open Tryz
section
variable {j k j' r0 Hj:Int}{i i' Av:Nat}

noncomputable abbrev xN:Code:=sub (cd Tryz.f242) [1,0,0,1,0,0,1,0,0]
noncomputable abbrev aEx:Code:=sub (cd Tryz.f242) [1,0,0]
noncomputable abbrev aTz:Code:=sub (cd Tryz.f266) [1,0,0,1,0,0,1,0,0]
theorem bKp:inR (1:Int):=by unfold inR;omega
section
variable{r t:List Cel}(h0:aN k≤(r.length:Int))(h1:aN k≤(t.length:Int))(Ao:r0=(bV k r t))
include h0 h1 Ao
theorem cFz{R:List (List Cel)}:FMM Tp 151 [(.p (.sl r.length ((r.map cE).flatten))),(.p (.sl t.length ((t.map cE).flatten))),(.ptr 0 0)] [some (.box 26 [(pI k),(.p (.sl R.length (R.map aP)))])] (pI r0) [some (.box 26 [(pI k),(.p (.sl R.length (R.map aP)))])]:=by
 subst Ao;have k1:=fk 1 (mQ k r t h0 h1) rfl;exact FMM.fi 1 gE func151 [k1.o] (gc k1 gn)
theorem cGa:FMM Tp 168 [(.p (.sl r.length ((r.map cE).flatten))),(.p (.sl t.length ((t.map cE).flatten))),(.ptr 0 0)] [some (.box 23 [(pI k)])] (pI r0) [some (.box 23 [(pI k)])]:=by
 subst Ao;have k1:=fk 1 (mQ k r t h0 h1) rfl;exact FMM.fi 1 gE func168 [k1.o] (gc k1 gn)
end
theorem bSp(r t:List Cel)(k:Int)(R:List (List Cel))(h1:aN k≤(r.length:Int))(h2:aN k≤(t.length:Int)):FMM Tp 151 [.p (.sl r.length ((r.map cE).flatten)),.p (.sl t.length ((t.map cE).flatten)),.ptr 0 0] [some (.box 26 [(pI k),(.p (.sl R.length (R.map aP)))])] (pI (bV k r t)) [some (.box 26 [(pI k),(.p (.sl R.length (R.map aP)))])]:=cFz h1 h2 rfl
theorem bSq(r t:List Cel)(k:Int)(h1:aN k≤(r.length:Int))(h2:aN k≤(t.length:Int)):FMM Tp 168 [.p (.sl r.length ((r.map cE).flatten)),.p (.sl t.length ((t.map cE).flatten)),.ptr 0 0] [some (.box 23 [(pI k)])] (pI (bV k r t)) [some (.box 23 [(pI k)])]:=cGa h1 h2 rfl
abbrev Chg:=List Cel × List Cel
def chE(c:Chg):List PV:=[aP c.1,aP c.2]
def crM(c:Chg):List Cel:=if 0<c.1.length then c.1 else c.2
theorem mY(r t:List Cel){base:Nat}:FV Tp 106 [.p (.agg [.sl r.length ((r.map cE).flatten),.sl t.length ((t.map cE).flatten)])] base (.p (.sl (crM (r,t)).length (((crM (r,t)).map cE).flatten))) []:=by
 unfold crM
 by_cases h:0<r.length
 ·rw [if_pos h];exact cDx (by omega)
 ·rw [if_neg h];exact cDy (by omega)
theorem cGb{b a d c:List Cel}(h0:aN k≤((crM (b,a)).length:Int))(h1:aN k≤((crM (d,c)).length:Int))(Ao:r0=(bV k (crM (b,a)) (crM (d,c)))):FMM Tp 185 [(.p (.agg [(.sl b.length ((b.map cE).flatten)),(.sl a.length ((a.map cE).flatten))])),(.p (.agg [(.sl d.length ((d.map cE).flatten)),(.sl c.length ((c.map cE).flatten))])),(.ptr 0 0)] [some (.box 23 [(pI k)])] (pI r0) [some (.box 23 [(pI k)])]:=by
 subst Ao;have k1:=fk 3 (mY b a) rfl;have k2:=fk 11 (mY d c) rfl;have k3:=fk 19 (mQ k (crM (b,a)) (crM (d,c)) h0 h1) rfl;exact FMM.fi 1 gE func185 [k1.o,k2.o,k3.o] (gc k3 (gc k2 (gc k1 gn)))
theorem bSr(x y:Chg)(k:Int)(h1:aN k≤((crM x).length:Int))(h2:aN k≤((crM y).length:Int)):FMM Tp 185 [.p (.agg [aP x.1,aP x.2]),.p (.agg [aP y.1,aP y.2]),.ptr 0 0] [some (.box 23 [(pI k)])] (pI (bV k (crM x) (crM y))) [some (.box 23 [(pI k)])]:=cGb h1 h2 rfl
def xO(D:List (List Cel))(k:Int)(R:List (List Cel))(i En:Nat)(Ec:List PV):St:=⟨fr 53 [(0,(.own 0)),(1,(pI 0)),(2,(pI (D.length:Int))),(3,(.fn 151 [] [(.ptr 1 0)])),(8,(pI (i:Int)))],[some (.row 78 En Ec),some (.box 26 [(pI k),(.p (.sl R.length (R.map aP)))])]⟩
theorem cGc{D R E'1:List (List Cel)}(A2:aE Tp 2 aEx (xO D k R 1 D.length ((D.map rwE).flatten)) (.exit 0) (xO D k R Av E'1.length ((E'1.map rwE).flatten))):FMM Tp 242 [(.own 0),(pI 0),(pI (D.length:Int)),(.fn 151 [] [(.ptr 1 0)])] [some (.row 78 D.length ((D.map rwE).flatten)),some (.box 26 [(pI k),(.p (.sl R.length (R.map aP)))])] (.tup []) [some (.row 78 E'1.length ((E'1.map rwE).flatten)),some (.box 26 [(pI k),(.p (.sl R.length (R.map aP)))])]:=FMM.fi 2 gE func242 [A2.k 3 (gZ cj)] (gc A2.code (gc bKp gn))
def sH(D:List (List Cel))(k:Int)(R:List (List Cel))(i:Nat)(j:Int)(Gn:Nat)(Gc:List PV):St:=⟨fr 53 [(0,(.own 0)),(1,(pI 0)),(2,(pI (D.length:Int))),(3,(.fn 151 [] [(.ptr 1 0)])),(8,(pI (i:Int))),(9,(pI j)),(12,(pI (i:Int))),(13,(pI (D.length:Int))),(14,(pB (decide ((i:Int)<(D.length:Int))))),(17,(pI (i:Int)))],[some (.row 78 Gn Gc),some (.box 26 [(pI k),(.p (.sl R.length (R.map aP)))])]⟩
theorem bKq{D R E G'101 E':List (List Cel)}(h0:(i:Int)<(D.length:Int))(Ak:aE Tp 2 xN (sH D k R i (i:Int) E.length ((E.map rwE).flatten)) (.exit 2) (sH D k R i Hj G'101.length ((G'101.map rwE).flatten)))(h2:cq i)(Ai:i'=(i+1))(Eh:E'.length=G'101.length)(Ei:(E'.map rwE).flatten=((G'101.map rwE).flatten)):aA Tp 2 aEx (xO D k R i E.length ((E.map rwE).flatten)) .normal (xO D k R i' E'.length ((E'.map rwE).flatten)):=by
 subst Ai;rw [Eh,Ei];exact aA.fi (gZ cj) [bT,Ak.k 5 (gZ bj)] (gc h2 (gc Ak.code (g0 h0)))
theorem bKr{D R E:List (List Cel)}(h0:(D.length:Int)≤(i:Int)):aA Tp 2 aEx (xO D k R i E.length ((E.map rwE).flatten)) (.exit 0) (xO D k R i E.length ((E.map rwE).flatten)):=aA.fi (gZ cj) [bF] (gc (aJ h0) gn)
section
variable{G:List (List Cel)}{A4 A9:List Cel}(h0:(0:Int)<j)(h1:0≤j∧j<(G.length:Int))(h2:G[j.toNat]? = some (A4))(h3:inR (j-1))(h4:0≤(j-1)∧(j-1)<(G.length:Int))(h5:G[(j-1).toNat]? = some (A9))(Hk:aN k≤(A4.length:Int))(Hl:aN k≤(A9.length:Int))
include h0 h1 h2 h3 h4 h5 Hk Hl
theorem bKs{D R G':List (List Cel)}(h8:(bV k A4 A9)<0)(h9:(j.toNat*1)<((G.map rwE).flatten).length)(Ba:((j-1).toNat*1)<(((G.map rwE).flatten).set (j.toNat*1) (.sl A9.length ((A9.map cE).flatten))).length)(Cy:j'=(j-1))(Hm:G'.length=G.length)(Hn:(G'.map rwE).flatten=((((G.map rwE).flatten).set (j.toNat*1) (.sl A9.length ((A9.map cE).flatten))).set ((j-1).toNat*1) (.sl A4.length ((A4.map cE).flatten)))):aA Tp 2 xN (sH D k R i j G.length ((G.map rwE).flatten)) .normal (sH D k R i j' G'.length ((G'.map rwE).flatten)):=by
 subst Cy;have k1:=mq [1] 2 (bSp A4 A9 k R Hk Hl);rw [Hm,Hn];exact aA.fi (gZ bj) (rT 5++[.x (.sl A4.length ((A4.map cE).flatten))]++rT 5++[.x (.sl A9.length ((A9.map cE).flatten)),bT,k1.o,bT,bT,bT,.x (.sl A9.length ((A9.map cE).flatten)),.x (.sl A4.length ((A4.map cE).flatten))]) (gc h3 (gc Ba (gc h4 (gc h9 (gc h1 (gt (((G.map rwE).flatten)[(j.toNat*1)]? = some (.sl A4.length ((A4.map cE).flatten))) (aQ (E:=rwE) (i:=j.toNat) (f:=0) (k:=1) (fun _=>rfl) h2 rfl) (gc h1 (gt (((G.map rwE).flatten)[((j-1).toNat*1)]? = some (.sl A9.length ((A9.map cE).flatten))) (aQ (E:=rwE) (i:=(j-1).toNat) (f:=0) (k:=1) (fun _=>rfl) h5 rfl) (gc h4 (Au h3 (gc (bJ h8) (Au (bJ h0) (gc k1 (gc (bJ h0) (gt (((G.map rwE).flatten)[((j-1).toNat*1)]? = some (.sl A9.length ((A9.map cE).flatten))) (aQ (E:=rwE) (i:=(j-1).toNat) (f:=0) (k:=1) (fun _=>rfl) h5 rfl) (gc (bJ h0) (gc h4 (gc (bJ h0) (gc h3 (Ap (bJ h0) (gt (((G.map rwE).flatten)[(j.toNat*1)]? = some (.sl A4.length ((A4.map cE).flatten))) (aQ (E:=rwE) (i:=j.toNat) (f:=0) (k:=1) (fun _=>rfl) h2 rfl) (gc (bJ h0) (gc h1 (Ap (bJ h0) (g0 h0)))))))))))))))))))))))))
theorem bKt{D R:List (List Cel)}(h8:(0:Int)≤(bV k A4 A9)):aA Tp 2 xN (sH D k R i j G.length ((G.map rwE).flatten)) (.exit 2) (sH D k R i j G.length ((G.map rwE).flatten)):=have k1:=mq [1] 2 (bSp A4 A9 k R Hk Hl);aA.fi (gZ bj) (rT 5++[.x (.sl A4.length ((A4.map cE).flatten))]++rT 5++[.x (.sl A9.length ((A9.map cE).flatten)),bT,k1.o,bT,bT,bF]) (gc (aJ h8) (Au (bJ h0) (gc k1 (gc (bJ h0) (gt (((G.map rwE).flatten)[((j-1).toNat*1)]? = some (.sl A9.length ((A9.map cE).flatten))) (aQ (E:=rwE) (i:=(j-1).toNat) (f:=0) (k:=1) (fun _=>rfl) h5 rfl) (gc (bJ h0) (gc h4 (gc (bJ h0) (gc h3 (Ap (bJ h0) (gt (((G.map rwE).flatten)[(j.toNat*1)]? = some (.sl A4.length ((A4.map cE).flatten))) (aQ (E:=rwE) (i:=j.toNat) (f:=0) (k:=1) (fun _=>rfl) h2 rfl) (gc (bJ h0) (gc h1 (Ap (bJ h0) (g0 h0)))))))))))))))
end
theorem bKu{D R G:List (List Cel)}(h0:j≤0):aA Tp 2 xN (sH D k R i j G.length ((G.map rwE).flatten)) (.exit 2) (sH D k R i j G.length ((G.map rwE).flatten)):=aA.fi (gZ bj) (rF 13) (Ig (aJ h0) (B5 (aJ h0) gn))
def xP(D:List (List Cel))(k:Int)(i En:Nat)(Ec:List PV):St:=⟨fr 53 [(0,(.own 0)),(1,(pI 0)),(2,(pI (D.length:Int))),(3,(.fn 168 [] [(.ptr 1 0)])),(8,(pI (i:Int)))],[some (.row 78 En Ec),some (.box 23 [(pI k)])]⟩
theorem cGd{D E'1:List (List Cel)}(A2:aE Tp 2 aEx (xP D k 1 D.length ((D.map rwE).flatten)) (.exit 0) (xP D k Av E'1.length ((E'1.map rwE).flatten))):FMM Tp 242 [(.own 0),(pI 0),(pI (D.length:Int)),(.fn 168 [] [(.ptr 1 0)])] [some (.row 78 D.length ((D.map rwE).flatten)),some (.box 23 [(pI k)])] (.tup []) [some (.row 78 E'1.length ((E'1.map rwE).flatten)),some (.box 23 [(pI k)])]:=FMM.fi 2 gE func242 [A2.k 3 (gZ cj)] (gc A2.code (gc bKp gn))
def sI(D:List (List Cel))(k:Int)(i:Nat)(j:Int)(Gn:Nat)(Gc:List PV):St:=⟨fr 53 [(0,(.own 0)),(1,(pI 0)),(2,(pI (D.length:Int))),(3,(.fn 168 [] [(.ptr 1 0)])),(8,(pI (i:Int))),(9,(pI j)),(12,(pI (i:Int))),(13,(pI (D.length:Int))),(14,(pB (decide ((i:Int)<(D.length:Int))))),(17,(pI (i:Int)))],[some (.row 78 Gn Gc),some (.box 23 [(pI k)])]⟩
theorem bKv{D E G'101 E':List (List Cel)}(h0:(i:Int)<(D.length:Int))(Ak:aE Tp 2 xN (sI D k i (i:Int) E.length ((E.map rwE).flatten)) (.exit 2) (sI D k i Hj G'101.length ((G'101.map rwE).flatten)))(h2:cq i)(Ai:i'=(i+1))(Eh:E'.length=G'101.length)(Ei:(E'.map rwE).flatten=((G'101.map rwE).flatten)):aA Tp 2 aEx (xP D k i E.length ((E.map rwE).flatten)) .normal (xP D k i' E'.length ((E'.map rwE).flatten)):=by
 subst Ai;rw [Eh,Ei];exact aA.fi (gZ cj) [bT,Ak.k 5 (gZ bj)] (gc h2 (gc Ak.code (g0 h0)))
theorem bKw{D E:List (List Cel)}(h0:(D.length:Int)≤(i:Int)):aA Tp 2 aEx (xP D k i E.length ((E.map rwE).flatten)) (.exit 0) (xP D k i E.length ((E.map rwE).flatten)):=aA.fi (gZ cj) [bF] (gc (aJ h0) gn)
section
variable{G:List (List Cel)}{A4 A9:List Cel}(h0:(0:Int)<j)(h1:0≤j∧j<(G.length:Int))(h2:G[j.toNat]? = some (A4))(h3:inR (j-1))(h4:0≤(j-1)∧(j-1)<(G.length:Int))(h5:G[(j-1).toNat]? = some (A9))(Hk:aN k≤(A4.length:Int))(Hl:aN k≤(A9.length:Int))
include h0 h1 h2 h3 h4 h5 Hk Hl
theorem bKx{D G':List (List Cel)}(h8:(bV k A4 A9)<0)(h9:(j.toNat*1)<((G.map rwE).flatten).length)(Ba:((j-1).toNat*1)<(((G.map rwE).flatten).set (j.toNat*1) (.sl A9.length ((A9.map cE).flatten))).length)(Cy:j'=(j-1))(Hm:G'.length=G.length)(Hn:(G'.map rwE).flatten=((((G.map rwE).flatten).set (j.toNat*1) (.sl A9.length ((A9.map cE).flatten))).set ((j-1).toNat*1) (.sl A4.length ((A4.map cE).flatten)))):aA Tp 2 xN (sI D k i j G.length ((G.map rwE).flatten)) .normal (sI D k i j' G'.length ((G'.map rwE).flatten)):=by
 subst Cy;have k1:=mq [1] 2 (bSq A4 A9 k Hk Hl);rw [Hm,Hn];exact aA.fi (gZ bj) (rT 5++[.x (.sl A4.length ((A4.map cE).flatten))]++rT 5++[.x (.sl A9.length ((A9.map cE).flatten)),bT,k1.o,bT,bT,bT,.x (.sl A9.length ((A9.map cE).flatten)),.x (.sl A4.length ((A4.map cE).flatten))]) (gc h3 (gc Ba (gc h4 (gc h9 (gc h1 (gt (((G.map rwE).flatten)[(j.toNat*1)]? = some (.sl A4.length ((A4.map cE).flatten))) (aQ (E:=rwE) (i:=j.toNat) (f:=0) (k:=1) (fun _=>rfl) h2 rfl) (gc h1 (gt (((G.map rwE).flatten)[((j-1).toNat*1)]? = some (.sl A9.length ((A9.map cE).flatten))) (aQ (E:=rwE) (i:=(j-1).toNat) (f:=0) (k:=1) (fun _=>rfl) h5 rfl) (gc h4 (Au h3 (gc (bJ h8) (Au (bJ h0) (gc k1 (gc (bJ h0) (gt (((G.map rwE).flatten)[((j-1).toNat*1)]? = some (.sl A9.length ((A9.map cE).flatten))) (aQ (E:=rwE) (i:=(j-1).toNat) (f:=0) (k:=1) (fun _=>rfl) h5 rfl) (gc (bJ h0) (gc h4 (gc (bJ h0) (gc h3 (Ap (bJ h0) (gt (((G.map rwE).flatten)[(j.toNat*1)]? = some (.sl A4.length ((A4.map cE).flatten))) (aQ (E:=rwE) (i:=j.toNat) (f:=0) (k:=1) (fun _=>rfl) h2 rfl) (gc (bJ h0) (gc h1 (Ap (bJ h0) (g0 h0)))))))))))))))))))))))))
theorem bKy{D:List (List Cel)}(h8:(0:Int)≤(bV k A4 A9)):aA Tp 2 xN (sI D k i j G.length ((G.map rwE).flatten)) (.exit 2) (sI D k i j G.length ((G.map rwE).flatten)):=have k1:=mq [1] 2 (bSq A4 A9 k Hk Hl);aA.fi (gZ bj) (rT 5++[.x (.sl A4.length ((A4.map cE).flatten))]++rT 5++[.x (.sl A9.length ((A9.map cE).flatten)),bT,k1.o,bT,bT,bF]) (gc (aJ h8) (Au (bJ h0) (gc k1 (gc (bJ h0) (gt (((G.map rwE).flatten)[((j-1).toNat*1)]? = some (.sl A9.length ((A9.map cE).flatten))) (aQ (E:=rwE) (i:=(j-1).toNat) (f:=0) (k:=1) (fun _=>rfl) h5 rfl) (gc (bJ h0) (gc h4 (gc (bJ h0) (gc h3 (Ap (bJ h0) (gt (((G.map rwE).flatten)[(j.toNat*1)]? = some (.sl A4.length ((A4.map cE).flatten))) (aQ (E:=rwE) (i:=j.toNat) (f:=0) (k:=1) (fun _=>rfl) h2 rfl) (gc (bJ h0) (gc h1 (Ap (bJ h0) (g0 h0)))))))))))))))
end
theorem bKz{D G:List (List Cel)}(h0:j≤0):aA Tp 2 xN (sI D k i j G.length ((G.map rwE).flatten)) (.exit 2) (sI D k i j G.length ((G.map rwE).flatten)):=aA.fi (gZ bj) (rF 13) (Ig (aJ h0) (B5 (aJ h0) gn))
def xQ(D:List (List Cel × List Cel))(k:Int)(i En:Nat)(Ec:List PV):St:=⟨fr 53 [(0,(.own 0)),(1,(pI 0)),(2,(pI (D.length:Int))),(3,(.fn 185 [] [(.ptr 1 0)])),(8,(pI (i:Int)))],[some (.row 112 En Ec),some (.box 23 [(pI k)])]⟩
theorem cGe{D E'1:List (List Cel × List Cel)}(A2:aE Tp 2 (sub (cd Tryz.f266) [1,0,0]) (xQ D k 1 D.length ((D.map chE).flatten)) (.exit 0) (xQ D k Av E'1.length ((E'1.map chE).flatten))):FMM Tp 266 [(.own 0),(pI 0),(pI (D.length:Int)),(.fn 185 [] [(.ptr 1 0)])] [some (.row 112 D.length ((D.map chE).flatten)),some (.box 23 [(pI k)])] (.tup []) [some (.row 112 E'1.length ((E'1.map chE).flatten)),some (.box 23 [(pI k)])]:=FMM.fi 2 gE func266 [A2.k 3 (gZ cj)] (gc A2.code (gc bKp gn))
def sJ(D:List (List Cel × List Cel))(k:Int)(i:Nat)(j:Int)(Gn:Nat)(Gc:List PV):St:=⟨fr 53 [(0,(.own 0)),(1,(pI 0)),(2,(pI (D.length:Int))),(3,(.fn 185 [] [(.ptr 1 0)])),(8,(pI (i:Int))),(9,(pI j)),(12,(pI (i:Int))),(13,(pI (D.length:Int))),(14,(pB (decide ((i:Int)<(D.length:Int))))),(17,(pI (i:Int)))],[some (.row 112 Gn Gc),some (.box 23 [(pI k)])]⟩
theorem bLa{D E G'101 E':List (List Cel × List Cel)}(h0:(i:Int)<(D.length:Int))(Ak:aE Tp 2 aTz (sJ D k i (i:Int) E.length ((E.map chE).flatten)) (.exit 2) (sJ D k i Hj G'101.length ((G'101.map chE).flatten)))(h2:cq i)(Ai:i'=(i+1))(Eh:E'.length=G'101.length)(Ei:(E'.map chE).flatten=((G'101.map chE).flatten)):aA Tp 2 (sub (cd Tryz.f266) [1,0,0]) (xQ D k i E.length ((E.map chE).flatten)) .normal (xQ D k i' E'.length ((E'.map chE).flatten)):=by
 subst Ai;rw [Eh,Ei];exact aA.fi (gZ cj) [bT,Ak.k 5 (gZ bj)] (gc h2 (gc Ak.code (g0 h0)))
theorem bLb{D E:List (List Cel × List Cel)}(h0:(D.length:Int)≤(i:Int)):aA Tp 2 (sub (cd Tryz.f266) [1,0,0]) (xQ D k i E.length ((E.map chE).flatten)) (.exit 0) (xQ D k i E.length ((E.map chE).flatten)):=aA.fi (gZ cj) [bF] (gc (aJ h0) gn)
section
variable{G:List (List Cel × List Cel)}{Bb Bc Bq Br:List Cel}(h0:(0:Int)<j)(h1:0≤j∧j<(G.length:Int))(h2:G[j.toNat]? = some (Bb,Bc))(h3:inR (j-1))(h4:0≤(j-1)∧(j-1)<(G.length:Int))(h5:G[(j-1).toNat]? = some (Bq,Br))(Hk:aN k≤((crM (Bb,Bc)).length:Int))(Hl:aN k≤((crM (Bq,Br)).length:Int))
include h0 h1 h2 h3 h4 h5 Hk Hl
theorem bLc{D G':List (List Cel × List Cel)}(h8:(bV k (crM (Bb,Bc)) (crM (Bq,Br)))<0)(h9:[(PV.sl Bq.length ((Bq.map cE).flatten)),(.sl Br.length ((Br.map cE).flatten))].length=2∧(j.toNat*2)+2≤((G.map chE).flatten).length)(Ba:[(PV.sl Bb.length ((Bb.map cE).flatten)),(.sl Bc.length ((Bc.map cE).flatten))].length=2∧((j-1).toNat*2)+2≤(((G.map chE).flatten).take (j.toNat*2)++[(PV.sl Bq.length ((Bq.map cE).flatten)),(.sl Br.length ((Br.map cE).flatten))]++((G.map chE).flatten).drop ((j.toNat*2)+2)).length)(Cy:j'=(j-1))(Hm:G'.length=G.length)(Hn:(G'.map chE).flatten=((((G.map chE).flatten).take (j.toNat*2)++[(PV.sl Bq.length ((Bq.map cE).flatten)),(.sl Br.length ((Br.map cE).flatten))]++((G.map chE).flatten).drop ((j.toNat*2)+2)).take ((j-1).toNat*2)++[(PV.sl Bb.length ((Bb.map cE).flatten)),(.sl Bc.length ((Bc.map cE).flatten))]++(((G.map chE).flatten).take (j.toNat*2)++[(PV.sl Bq.length ((Bq.map cE).flatten)),(.sl Br.length ((Br.map cE).flatten))]++((G.map chE).flatten).drop ((j.toNat*2)+2)).drop (((j-1).toNat*2)+2))):aA Tp 2 aTz (sJ D k i j G.length ((G.map chE).flatten)) .normal (sJ D k i j' G'.length ((G'.map chE).flatten)):=by
 subst Cy;have k1:=mq [1] 2 (bSr (Bb,Bc) (Bq,Br) k Hk Hl);rw [Hm,Hn];exact aA.fi (gZ bj) (rT 5++[.x (.agg [(.sl Bb.length ((Bb.map cE).flatten)),(.sl Bc.length ((Bc.map cE).flatten))])]++rT 5++[.x (.agg [(.sl Bq.length ((Bq.map cE).flatten)),(.sl Br.length ((Br.map cE).flatten))]),bT,k1.o,bT,bT,bT,.x (.agg [(.sl Bq.length ((Bq.map cE).flatten)),(.sl Br.length ((Br.map cE).flatten))]),.x (.agg [(.sl Bb.length ((Bb.map cE).flatten)),(.sl Bc.length ((Bc.map cE).flatten))])]) (gc h3 (gc Ba (gc h4 (gc h9 (gc h1 (gc (bH (E:=chE) (i:=j.toNat) (k:=2) (fun _=>rfl) h2 rfl) (gc (bZ (E:=chE) (i:=j.toNat) (k:=2) (fun _=>rfl) h2) (gc h1 (gc (bH (E:=chE) (i:=(j-1).toNat) (k:=2) (fun _=>rfl) h5 rfl) (gc (bZ (E:=chE) (i:=(j-1).toNat) (k:=2) (fun _=>rfl) h5) (gc h4 (Au h3 (gc (bJ h8) (Au (bJ h0) (gc k1 (gc (bJ h0) (gc (bH (E:=chE) (i:=(j-1).toNat) (k:=2) (fun _=>rfl) h5 rfl) (gc (bZ (E:=chE) (i:=(j-1).toNat) (k:=2) (fun _=>rfl) h5) (gc (bJ h0) (gc h4 (gc (bJ h0) (gc h3 (Ap (bJ h0) (gc (bH (E:=chE) (i:=j.toNat) (k:=2) (fun _=>rfl) h2 rfl) (gc (bZ (E:=chE) (i:=j.toNat) (k:=2) (fun _=>rfl) h2) (gc (bJ h0) (gc h1 (Ap (bJ h0) (g0 h0)))))))))))))))))))))))))))))
theorem bLd{D:List (List Cel × List Cel)}(h8:(0:Int)≤(bV k (crM (Bb,Bc)) (crM (Bq,Br)))):aA Tp 2 aTz (sJ D k i j G.length ((G.map chE).flatten)) (.exit 2) (sJ D k i j G.length ((G.map chE).flatten)):=have k1:=mq [1] 2 (bSr (Bb,Bc) (Bq,Br) k Hk Hl);aA.fi (gZ bj) (rT 5++[.x (.agg [(.sl Bb.length ((Bb.map cE).flatten)),(.sl Bc.length ((Bc.map cE).flatten))])]++rT 5++[.x (.agg [(.sl Bq.length ((Bq.map cE).flatten)),(.sl Br.length ((Br.map cE).flatten))]),bT,k1.o,bT,bT,bF]) (gc (aJ h8) (Au (bJ h0) (gc k1 (gc (bJ h0) (gc (bH (E:=chE) (i:=(j-1).toNat) (k:=2) (fun _=>rfl) h5 rfl) (gc (bZ (E:=chE) (i:=(j-1).toNat) (k:=2) (fun _=>rfl) h5) (gc (bJ h0) (gc h4 (gc (bJ h0) (gc h3 (Ap (bJ h0) (gc (bH (E:=chE) (i:=j.toNat) (k:=2) (fun _=>rfl) h2 rfl) (gc (bZ (E:=chE) (i:=j.toNat) (k:=2) (fun _=>rfl) h2) (gc (bJ h0) (gc h1 (Ap (bJ h0) (g0 h0)))))))))))))))))
end
theorem bLe{D G:List (List Cel × List Cel)}(h0:j≤0):aA Tp 2 aTz (sJ D k i j G.length ((G.map chE).flatten)) (.exit 2) (sJ D k i j G.length ((G.map chE).flatten)):=aA.fi (gZ bj) (rF 13) (Ig (aJ h0) (B5 (aJ h0) gn))
end
section

def gT{α:Type}(c:α→α→Int):Nat→List α→List α
 | 0,D=>D
 | j+1,D=>match D[j+1]?,D[j]? with
  | some x,some y=>if c x y<0 then gT c j ((D.set (j+1) y).set j x) else D
  | _,_=>D
def aBo{α:Type}(c:α→α→Int):Nat→Nat→List α→List α
 | 0,_,D=>D
 | n+1,i,D=>aBo c n (i+1) (gT c i D)
def isG{α:Type}(c:α→α→Int)(D:List α):List α:=aBo c (D.length-1) 1 D
theorem rQ{α:Type}(c:α→α→Int):∀ (j:Nat) (D:List α),(gT c j D).length=D.length
 | 0,D=>rfl
 | j+1,D=>by
  unfold gT
  split
  ·split
   ·rw [rQ c j];simp
   ·rfl
  ·rfl
theorem rR{α:Type}(c:α→α→Int){z:α}:∀ (j:Nat) (D:List α),z∈gT c j D→z∈D
 | 0,D,h=>h
 | j+1,D,h=>by
  unfold gT at h
  split at h
  ·rename_i x y hx hy
   split at h
   ·have h1:=rR c j _ h
    rcases List.mem_or_eq_of_mem_set h1 with h2 | rfl
    ·rcases List.mem_or_eq_of_mem_set h2 with h3 | rfl
     ·exact h3
     ·exact Ci hy
    ·exact Ci hx
   ·exact h
  ·exact h
theorem bQn{α:Type}{E:α→List PV}{k:Nat}(hE:∀ a,(E a).length=k){l:List α}{i:Nat}(hi:i<l.length)(e:α):((l.set i e).map E).flatten=((l.map E).flatten).take (i*k)++E e++((l.map E).flatten).drop (i*k+k):=by
 have h1:l.set i e=l.take i++e::l.drop (i+1):=by rw [List.set_eq_take_append_cons_drop,if_pos hi]
 have h2:l=l.take i++l[i]::l.drop (i+1):=by rw [← bGb hi,aNr]
 have hlen:((l.take i).map E).flatten.length=i*k:=by rw [rL hE,uM];congr 1;omega
 have h3:(l.map E).flatten=((l.take i).map E).flatten++(E l[i]++((l.drop (i+1)).map E).flatten):=by
  have e2:=congrArg (fun l=>(l.map E).flatten) h2
  simp only [vT,kN,bMk,vS] at e2
  exact e2
 rw [h1,h3,← hlen,List.take_left,vT,kN,bMk,vS];have hd:(((l.take i).map E).flatten++(E l[i]++((l.drop (i+1)).map E).flatten)).drop (((l.take i).map E).flatten.length+k)=((l.drop (i+1)).map E).flatten:=by
  rw [← hE l[i],← gR,← List.append_assoc,List.drop_left]
 rw [hd,List.append_assoc]
def iH(k:Int)(x y:Chg):Int:=bV k (crM x) (crM y)
theorem bSm{D:List (List Cel)}{k:Int}{R:List (List Cel)}{i:Nat}:∀ (j:Nat) (G:List (List Cel)),j<G.length→G.length≤12→(∀ x∈G,aN k≤(x.length:Int))→∃ j',aE Tp 2 (sub (cd Tryz.f242) bg) (sH D k R i (j:Int) G.length ((G.map rwE).flatten)) (.exit 2) (sH D k R i j' (gT (bV k) j G).length (((gT (bV k) j G).map rwE).flatten))
 | 0,G,hj,hg,hk=>⟨_,.exit (bKu (by omega)) (by simp)⟩
 | j+1,G,hj,hg,hk=>by
  have hx:G[j+1]? = some G[j+1]:=Ch hj;have hy:G[j]? = some (G[j]'(by omega)):=Ch (by omega)
  have kx:=hk _ (iF hj);have ky:=hk _ (iF (show j<G.length by omega))
  have z1:(0:Int)<((j+1:Nat):Int):=by omega
  have z2:0≤((j+1:Nat):Int)∧((j+1:Nat):Int)<(G.length:Int):=by omega
  have z3:inR (((j+1:Nat):Int)-(1:Int)):=by unfold inR;omega
  have z4:0≤(((j+1:Nat):Int)-(1:Int))∧(((j+1:Nat):Int)-(1:Int))<(G.length:Int):=by omega
  have e1:((j+1:Nat):Int).toNat=j+1:=by omega
  have e2:(((j+1:Nat):Int)-(1:Int)).toNat=j:=by omega
  have e3:(((j+1:Nat):Int)-(1:Int))=(j:Int):=by omega
  generalize G[j+1]=x at hx kx
  generalize G[j]'(by omega)=y at hy ky
  unfold gT;rw [hx,hy];dsimp only
  by_cases hc:bV k x y<0
  ·rw [if_pos hc]
   obtain ⟨j',L⟩:=bSm (D:=D) (k:=k) (R:=R) (i:=i) j ((G.set (j+1) y).set j x) (by simp;omega) (by simp;omega) (fun z hz=>by
    rcases List.mem_or_eq_of_mem_set hz with h2 | rfl
    ·rcases List.mem_or_eq_of_mem_set h2 with h3 | rfl
     ·exact hk z h3
     ·exact ky
    ·exact kx)
   refine ⟨j',.step (bKs z1 z2 (by rw [e1];exact hx) z3 z4 (by rw [e2];exact hy) kx ky hc (by rw [e1,eU];simp;omega) (by rw [e1,e2,eU];simp;omega) e3.symm (by simp) ?_) L⟩
   rw [e1,e2];rw [eU,eU,List.map_set,List.map_set,Nat.mul_one,Nat.mul_one];rfl
  ·rw [if_neg hc]
   exact ⟨_,.exit (bKt z1 z2 (by rw [e1];exact hx) z3 z4 (by rw [e2];exact hy) kx ky (Int.not_lt.1 hc)) (by simp)⟩
theorem bKl{D:List (List Cel)}{k:Int}{R:List (List Cel)}(Be:D.length≤12):∀ (n i:Nat) (E:List (List Cel)),i+n=D.length→E.length=D.length→(∀ x∈E,aN k≤(x.length:Int))→aE Tp 2 (sub (cd Tryz.f242) [1,0,0]) (xO D k R i E.length ((E.map rwE).flatten)) (.exit 0) (xO D k R D.length (aBo (bV k) n i E).length (((aBo (bV k) n i E).map rwE).flatten))
 | 0,i,E,hi,hl,hk=>by
  have:i=D.length:=by omega
  subst this;exact .exit (bKr (by omega)) (by simp)
 | n+1,i,E,hi,hl,hk=>by
  obtain ⟨j',L⟩:=bSm (D:=D) (k:=k) (R:=R) (i:=i) i E (by omega) (by omega) hk
  have h1:=rQ (bV k) i E;unfold aBo;exact .step (bKq (G'101:=gT (bV k) i E) (E':=gT (bV k) i E) (by omega) L (aL (by omega)) rfl rfl rfl) (bKl Be n (i+1) _ (by omega) (by omega) (fun x hx=>hk x (rR _ _ _ hx)))
theorem cFw{D:List (List Cel)}{k:Int}{R:List (List Cel)}(Be:D.length≤12)(h1:1≤D.length)(hk:∀ x∈D,aN k≤(x.length:Int)):FMM Tp 242 [.own 0,.p (aB 0),.p (aB (D.length:Nat)),.fn 151 [] [.ptr 1 0]] [some (.row 78 D.length ((D.map rwE).flatten)),some (.box 26 [(.p (aB k)),(.p (.sl R.length (R.map aP)))])] (.tup []) [some (.row 78 ((isG (bV k) D).length) (((isG (bV k) D).map rwE).flatten)),some (.box 26 [(.p (aB k)),(.p (.sl R.length (R.map aP)))])]:=by
 exact cGc (E'1:=isG (bV k) D) (bKl (k:=k) (R:=R) Be (D.length-1) 1 D (by omega) rfl hk)
theorem bSn{D:List (List Cel)}{k:Int}{i:Nat}:∀ (j:Nat) (G:List (List Cel)),j<G.length→G.length≤12→(∀ x∈G,aN k≤(x.length:Int))→∃ j',aE Tp 2 (sub (cd Tryz.f242) bg) (sI D k i (j:Int) G.length ((G.map rwE).flatten)) (.exit 2) (sI D k i j' (gT (bV k) j G).length (((gT (bV k) j G).map rwE).flatten))
 | 0,G,hj,hg,hk=>⟨_,.exit (bKz (by omega)) (by simp)⟩
 | j+1,G,hj,hg,hk=>by
  have hx:G[j+1]? = some G[j+1]:=Ch hj;have hy:G[j]? = some (G[j]'(by omega)):=Ch (by omega)
  have kx:=hk _ (iF hj);have ky:=hk _ (iF (show j<G.length by omega))
  have z1:(0:Int)<((j+1:Nat):Int):=by omega
  have z2:0≤((j+1:Nat):Int)∧((j+1:Nat):Int)<(G.length:Int):=by omega
  have z3:inR (((j+1:Nat):Int)-(1:Int)):=by unfold inR;omega
  have z4:0≤(((j+1:Nat):Int)-(1:Int))∧(((j+1:Nat):Int)-(1:Int))<(G.length:Int):=by omega
  have e1:((j+1:Nat):Int).toNat=j+1:=by omega
  have e2:(((j+1:Nat):Int)-(1:Int)).toNat=j:=by omega
  have e3:(((j+1:Nat):Int)-(1:Int))=(j:Int):=by omega
  generalize G[j+1]=x at hx kx
  generalize G[j]'(by omega)=y at hy ky
  unfold gT;rw [hx,hy];dsimp only
  by_cases hc:bV k x y<0
  ·rw [if_pos hc]
   obtain ⟨j',L⟩:=bSn (D:=D) (k:=k) (i:=i) j ((G.set (j+1) y).set j x) (by simp;omega) (by simp;omega) (fun z hz=>by
    rcases List.mem_or_eq_of_mem_set hz with h2 | rfl
    ·rcases List.mem_or_eq_of_mem_set h2 with h3 | rfl
     ·exact hk z h3
     ·exact ky
    ·exact kx)
   refine ⟨j',.step (bKx z1 z2 (by rw [e1];exact hx) z3 z4 (by rw [e2];exact hy) kx ky hc (by rw [e1,eU];simp;omega) (by rw [e1,e2,eU];simp;omega) e3.symm (by simp) ?_) L⟩
   rw [e1,e2];rw [eU,eU,List.map_set,List.map_set,Nat.mul_one,Nat.mul_one];rfl
  ·rw [if_neg hc]
   exact ⟨_,.exit (bKy z1 z2 (by rw [e1];exact hx) z3 z4 (by rw [e2];exact hy) kx ky (Int.not_lt.1 hc)) (by simp)⟩
theorem bKm{D:List (List Cel)}{k:Int}(Be:D.length≤12):∀ (n i:Nat) (E:List (List Cel)),i+n=D.length→E.length=D.length→(∀ x∈E,aN k≤(x.length:Int))→aE Tp 2 (sub (cd Tryz.f242) [1,0,0]) (xP D k i E.length ((E.map rwE).flatten)) (.exit 0) (xP D k D.length (aBo (bV k) n i E).length (((aBo (bV k) n i E).map rwE).flatten))
 | 0,i,E,hi,hl,hk=>by
  have:i=D.length:=by omega
  subst this;exact .exit (bKw (by omega)) (by simp)
 | n+1,i,E,hi,hl,hk=>by
  obtain ⟨j',L⟩:=bSn (D:=D) (k:=k) (i:=i) i E (by omega) (by omega) hk
  have h1:=rQ (bV k) i E;unfold aBo;exact .step (bKv (G'101:=gT (bV k) i E) (E':=gT (bV k) i E) (by omega) L (aL (by omega)) rfl rfl rfl) (bKm Be n (i+1) _ (by omega) (by omega) (fun x hx=>hk x (rR _ _ _ hx)))
theorem cFx{D:List (List Cel)}{k:Int}(Be:D.length≤12)(h1:1≤D.length)(hk:∀ x∈D,aN k≤(x.length:Int)):FMM Tp 242 [.own 0,.p (aB 0),.p (aB (D.length:Nat)),.fn 168 [] [.ptr 1 0]] [some (.row 78 D.length ((D.map rwE).flatten)),some (.box 23 [(.p (aB k))])] (.tup []) [some (.row 78 ((isG (bV k) D).length) (((isG (bV k) D).map rwE).flatten)),some (.box 23 [(.p (aB k))])]:=by
 exact cGd (E'1:=isG (bV k) D) (bKm (k:=k) Be (D.length-1) 1 D (by omega) rfl hk)
theorem aHk{G:List Chg}{j:Nat}(y:Chg)(hj:j<G.length):((G.set j y).map chE).flatten=(G.map chE).flatten.take (j*2)++[aP y.1,aP y.2]++(G.map chE).flatten.drop (j*2+2):=bQn (E:=chE) (k:=2) (fun _=>rfl) hj y
theorem cDu{G:List Chg}{j:Nat}{y:Chg}(hj:j+1<G.length):j*2+2≤((G.map chE).flatten.take ((j+1)*2)++[aP y.1,aP y.2]++(G.map chE).flatten.drop ((j+1)*2+2)).length:=by
 rw [← aHk y hj,rL (E:=chE) (k:=2) (fun _=>rfl),aNs];omega
theorem bKn{G:List Chg}{j:Nat}{x y:Chg}(hj:j+1<G.length):(((G.set (j+1) y).set j x).map chE).flatten=((G.map chE).flatten.take ((j+1)*2)++[aP y.1,aP y.2]++(G.map chE).flatten.drop ((j+1)*2+2)).take (j*2)++[aP x.1,aP x.2]++((G.map chE).flatten.take ((j+1)*2)++[aP y.1,aP y.2]++(G.map chE).flatten.drop ((j+1)*2+2)).drop (j*2+2):=by
 rw [← aHk y hj,aHk x (by simp;omega)]
theorem bSo{D:List Chg}{k:Int}{i:Nat}:∀ (j:Nat) (G:List Chg),j<G.length→G.length≤12→(∀ x∈G,aN k≤((crM x).length:Int))→∃ j',aE Tp 2 (sub (cd Tryz.f266) bg) (sJ D k i (j:Int) G.length ((G.map chE).flatten)) (.exit 2) (sJ D k i j' (gT (iH k) j G).length (((gT (iH k) j G).map chE).flatten))
 | 0,G,hj,hg,hk=>⟨_,.exit (bLe (by omega)) (by simp)⟩
 | j+1,G,hj,hg,hk=>by
  have hx:G[j+1]? = some G[j+1]:=Ch hj;have hy:G[j]? = some (G[j]'(by omega)):=Ch (by omega)
  have kx:=hk _ (iF hj);have ky:=hk _ (iF (show j<G.length by omega))
  have z1:(0:Int)<((j+1:Nat):Int):=by omega
  have z2:0≤((j+1:Nat):Int)∧((j+1:Nat):Int)<(G.length:Int):=by omega
  have z3:inR (((j+1:Nat):Int)-(1:Int)):=by unfold inR;omega
  have z4:0≤(((j+1:Nat):Int)-(1:Int))∧(((j+1:Nat):Int)-(1:Int))<(G.length:Int):=by omega
  have e1:((j+1:Nat):Int).toNat=j+1:=by omega
  have e2:(((j+1:Nat):Int)-(1:Int)).toNat=j:=by omega
  have e3:(((j+1:Nat):Int)-(1:Int))=(j:Int):=by omega
  generalize G[j+1]=x at hx kx
  generalize G[j]'(by omega)=y at hy ky
  unfold gT;rw [hx,hy];dsimp only;obtain ⟨xb,xa⟩:=x;obtain ⟨yb,ya⟩:=y
  by_cases hc:iH k (xb,xa) (yb,ya)<0
  ·rw [if_pos hc]
   obtain ⟨j',L⟩:=bSo (D:=D) (k:=k) (i:=i) j ((G.set (j+1) (yb,ya)).set j (xb,xa)) (by simp;omega) (by simp;omega) (fun z hz=>by
    rcases List.mem_or_eq_of_mem_set hz with h2 | rfl
    ·rcases List.mem_or_eq_of_mem_set h2 with h3 | rfl
     ·exact hk z h3
     ·exact ky
    ·exact kx)
   refine ⟨j',.step (bLc z1 z2 (by rw [e1];exact hx) z3 z4 (by rw [e2];exact hy) kx ky hc ⟨rfl,by rw [e1,rL (E:=chE) (k:=2) (fun _=>rfl)];omega⟩ ⟨rfl,by rw [e1,e2];exact cDu (y:=(yb,ya)) hj⟩ e3.symm (by simp) ?_) L⟩
   rw [e1,e2];exact bKn (x:=(xb,xa)) (y:=(yb,ya)) hj
  ·rw [if_neg hc]
   exact ⟨_,.exit (bLd z1 z2 (by rw [e1];exact hx) z3 z4 (by rw [e2];exact hy) kx ky (Int.not_lt.1 hc)) (by simp)⟩
theorem bKo{D:List Chg}{k:Int}(Be:D.length≤12):∀ (n i:Nat) (E:List Chg),i+n=D.length→E.length=D.length→(∀ x∈E,aN k≤((crM x).length:Int))→aE Tp 2 (sub (cd Tryz.f266) [1,0,0]) (xQ D k i E.length ((E.map chE).flatten)) (.exit 0) (xQ D k D.length (aBo (iH k) n i E).length (((aBo (iH k) n i E).map chE).flatten))
 | 0,i,E,hi,hl,hk=>by
  have:i=D.length:=by omega
  subst this;exact .exit (bLb (by omega)) (by simp)
 | n+1,i,E,hi,hl,hk=>by
  obtain ⟨j',L⟩:=bSo (D:=D) (k:=k) (i:=i) i E (by omega) (by omega) hk
  have h1:=rQ (iH k) i E;unfold aBo;exact .step (bLa (G'101:=gT (iH k) i E) (E':=gT (iH k) i E) (by omega) L (aL (by omega)) rfl rfl rfl) (bKo Be n (i+1) _ (by omega) (by omega) (fun x hx=>hk x (rR _ _ _ hx)))
theorem cFy{D:List Chg}{k:Int}(Be:D.length≤12)(h1:1≤D.length)(hk:∀ x∈D,aN k≤((crM x).length:Int)):FMM Tp 266 [.own 0,.p (aB 0),.p (aB (D.length:Nat)),.fn 185 [] [.ptr 1 0]] [some (.row 112 D.length ((D.map chE).flatten)),some (.box 23 [(.p (aB k))])] (.tup []) [some (.row 112 ((isG (iH k) D).length) (((isG (iH k) D).map chE).flatten)),some (.box 23 [(.p (aB k))])]:=by
 exact cGe (E'1:=isG (iH k) D) (bKo (k:=k) Be (D.length-1) 1 D (by omega) rfl hk)
end
section
variable {k l:Int}

noncomputable abbrev aTy:Code:=sub (cd Tryz.f200) [1,1,0,0]
theorem cDf{D:List (List Cel)}{k:Int}{R:List (List Cel)}{n:Int}(hn:n=(D.length:Int))(Be:D.length≤12)(h1:1≤D.length)(hk:∀ x∈D,aN k≤(x.length:Int)):FMM Tp 242 [.own 0,.p (aB 0),.p (aB n),.fn 151 [] [.ptr 1 0]] [some (.row 78 D.length ((D.map rwE).flatten)),some (.box 26 [(pI k),(.p (.sl R.length (R.map aP)))])] (.tup []) [some (.row 78 ((isG (bV k) D).length) (((isG (bV k) D).map rwE).flatten)),some (.box 26 [(pI k),(.p (.sl R.length (R.map aP)))])]:=by
 subst hn;exact cFw Be h1 hk
theorem cDg{D:List (List Cel)}{k n:Int}(hn:n=(D.length:Int))(Be:D.length≤12)(h1:1≤D.length)(hk:∀ x∈D,aN k≤(x.length:Int)):FMM Tp 242 [.own 0,.p (aB 0),.p (aB n),.fn 168 [] [.ptr 1 0]] [some (.row 78 D.length ((D.map rwE).flatten)),some (.box 23 [(pI k)])] (.tup []) [some (.row 78 ((isG (bV k) D).length) (((isG (bV k) D).map rwE).flatten)),some (.box 23 [(pI k)])]:=by
 subst hn;exact cFx Be h1 hk
theorem cDh{D:List (List Cel × List Cel)}{k n:Int}(hn:n=(D.length:Int))(Be:D.length≤12)(h1:1≤D.length)(hk:∀ x∈D,aN k≤((crM x).length:Int)):FMM Tp 266 [.own 0,.p (aB 0),.p (aB n),.fn 185 [] [.ptr 1 0]] [some (.row 112 D.length ((D.map chE).flatten)),some (.box 23 [(pI k)])] (.tup []) [some (.row 112 ((isG (iH k) D).length) (((isG (iH k) D).map chE).flatten)),some (.box 23 [(pI k)])]:=by
 subst hn;exact cFy Be h1 hk
theorem aHg(x:Int)(h:0≤x∧x≤12){base:Nat}:FV Tp 201 [.p (.v (.int .u64 x))] base (pI ((Lib.bitLen x.toNat:Nat):Int)) []:=FV.ofc rfl fun C w us hus hM=>by
 obtain rfl:=Iw rfl hus;refine (Tryz.bits_Len x w h.1 (by omega)).mono ?_
 rintro e w' ⟨rfl,rfl⟩;exact ⟨_,rfl,⟨rfl,rfl,rfl,Bo _,fun _ _=>rfl⟩,.p _ _ (.v _)⟩
theorem Gd{n:Nat}(h:n≤12):0≤IntKind.wrap .u64 (n:Int)∧IntKind.wrap .u64 (n:Int)≤12:=by
 have:IntKind.u64.wrap (n:Int)=n:=by simp [IntKind.wrap,IntKind.bits,IntKind.signed];omega
 rw [this];omega
def aHh(D:List (List Cel))(k:Int)(R:List (List Cel))(l:Int)(En:Nat)(Ec:List PV):St:=⟨fr 148 [(0,(.own 0)),(1,(pI 0)),(2,(pI (D.length:Int))),(3,(pI l)),(4,(.fn 151 [] [(.ptr 1 0)]))],[some (.row 78 En Ec),some (.box 26 [(pI k),(.p (.sl R.length (R.map aP)))])]⟩
theorem cDi{D R E'0:List (List Cel)}(A2:aE Tp 2 aTy (aHh D k R l D.length ((D.map rwE).flatten)) .ret (aHh D k R l E'0.length ((E'0.map rwE).flatten))):FMM Tp 200 [(.own 0),(pI 0),(pI (D.length:Int)),(pI l),(.fn 151 [] [(.ptr 1 0)])] [some (.row 78 D.length ((D.map rwE).flatten)),some (.box 26 [(pI k),(.p (.sl R.length (R.map aP)))])] (.tup []) [some (.row 78 E'0.length ((E'0.map rwE).flatten)),some (.box 26 [(pI k),(.p (.sl R.length (R.map aP)))])]:=FMM.fi 2 gE func200 [A2.k 5 (gZ [5,143])] (gc A2.code gn)
theorem bDt{D R E E':List (List Cel)}(h0:inR ((D.length:Int)-0))(h1:((D.length:Int)-0)≤12)(Du:E.length≤12)(Fw:1≤E.length)(Jh:∀ x∈E,aN k≤(x.length:Int))(H1:(D.length:Int)=(E.length:Int))(Eh:E'.length=(isG (bV k) E).length)(Ei:(E'.map rwE).flatten=(((isG (bV k) E).map rwE).flatten)):aA Tp 2 aTy (aHh D k R l E.length ((E.map rwE).flatten)) .ret (aHh D k R l E'.length ((E'.map rwE).flatten)):=by
 have k1:=mq [0,1] 2 (cDf (D:=E) (k:=k) (R:=R) H1 Du Fw Jh);rw [Eh,Ei];exact aA.fi (gZ [5,143]) [bT,k1.o] (gc k1 (gc (gO h1) (gc h0 gn)))
def aHi(D:List (List Cel))(k l:Int)(En:Nat)(Ec:List PV):St:=⟨fr 148 [(0,(.own 0)),(1,(pI 0)),(2,(pI (D.length:Int))),(3,(pI l)),(4,(.fn 168 [] [(.ptr 1 0)]))],[some (.row 78 En Ec),some (.box 23 [(pI k)])]⟩
theorem cDj{D E'0:List (List Cel)}(A2:aE Tp 2 aTy (aHi D k l D.length ((D.map rwE).flatten)) .ret (aHi D k l E'0.length ((E'0.map rwE).flatten))):FMM Tp 200 [(.own 0),(pI 0),(pI (D.length:Int)),(pI l),(.fn 168 [] [(.ptr 1 0)])] [some (.row 78 D.length ((D.map rwE).flatten)),some (.box 23 [(pI k)])] (.tup []) [some (.row 78 E'0.length ((E'0.map rwE).flatten)),some (.box 23 [(pI k)])]:=FMM.fi 2 gE func200 [A2.k 5 (gZ [5,143])] (gc A2.code gn)
theorem bDu{D E E':List (List Cel)}(h0:inR ((D.length:Int)-0))(h1:((D.length:Int)-0)≤12)(Du:E.length≤12)(Fw:1≤E.length)(Jh:∀ x∈E,aN k≤(x.length:Int))(H1:(D.length:Int)=(E.length:Int))(Eh:E'.length=(isG (bV k) E).length)(Ei:(E'.map rwE).flatten=(((isG (bV k) E).map rwE).flatten)):aA Tp 2 aTy (aHi D k l E.length ((E.map rwE).flatten)) .ret (aHi D k l E'.length ((E'.map rwE).flatten)):=by
 have k1:=mq [0,1] 2 (cDg (D:=E) (k:=k) H1 Du Fw Jh);rw [Eh,Ei];exact aA.fi (gZ [5,143]) [bT,k1.o] (gc k1 (gc (gO h1) (gc h0 gn)))
def aHj(D:List (List Cel × List Cel))(k l:Int)(En:Nat)(Ec:List PV):St:=⟨fr 148 [(0,(.own 0)),(1,(pI 0)),(2,(pI (D.length:Int))),(3,(pI l)),(4,(.fn 185 [] [(.ptr 1 0)]))],[some (.row 112 En Ec),some (.box 23 [(pI k)])]⟩
theorem cDk{D E'0:List (List Cel × List Cel)}(A2:aE Tp 2 (sub (cd Tryz.f222) [1,1,0,0]) (aHj D k l D.length ((D.map chE).flatten)) .ret (aHj D k l E'0.length ((E'0.map chE).flatten))):FMM Tp 222 [(.own 0),(pI 0),(pI (D.length:Int)),(pI l),(.fn 185 [] [(.ptr 1 0)])] [some (.row 112 D.length ((D.map chE).flatten)),some (.box 23 [(pI k)])] (.tup []) [some (.row 112 E'0.length ((E'0.map chE).flatten)),some (.box 23 [(pI k)])]:=FMM.fi 2 gE func222 [A2.k 5 (gZ [5,143])] (gc A2.code gn)
theorem bDv{D E E':List (List Cel × List Cel)}(h0:inR ((D.length:Int)-0))(h1:((D.length:Int)-0)≤12)(Du:E.length≤12)(Fw:1≤E.length)(Jh:∀ x∈E,aN k≤((crM x).length:Int))(H1:(D.length:Int)=(E.length:Int))(Eh:E'.length=(isG (iH k) E).length)(Ei:(E'.map chE).flatten=(((isG (iH k) E).map chE).flatten)):aA Tp 2 (sub (cd Tryz.f222) [1,1,0,0]) (aHj D k l E.length ((E.map chE).flatten)) .ret (aHj D k l E'.length ((E'.map chE).flatten)):=by
 have k1:=mq [0,1] 2 (cDh (D:=E) (k:=k) H1 Du Fw Jh);rw [Eh,Ei];exact aA.fi (gZ [5,143]) [bT,k1.o] (gc k1 (gc (gO h1) (gc h0 gn)))
theorem cDl{D:List (List Cel)}{k:Int}{R:List (List Cel)}(l:Int)(Be:D.length≤12)(h1:1≤D.length)(hk:∀ x∈D,aN k≤(x.length:Int)):FMM Tp 200 [.own 0,.p (aB 0),.p (aB (D.length:Int)),.p (aB l),.fn 151 [] [.ptr 1 0]] [some (.row 78 D.length ((D.map rwE).flatten)),some (.box 26 [(pI k),(.p (.sl R.length (R.map aP)))])] (.tup []) [some (.row 78 ((isG (bV k) D).length) (((isG (bV k) D).map rwE).flatten)),some (.box 26 [(pI k),(.p (.sl R.length (R.map aP)))])] :=
 cDi (E'0:=isG (bV k) D) (.exit (bDt (E':=isG (bV k) D) (by show _∧_;omega) (by omega) Be h1 hk rfl rfl rfl) (by simp))
abbrev bQm(D:List (List Cel)):=IntKind.wrap .u64 (D.length:Int)
theorem cDm{D R:List (List Cel)}(Gr:0≤(IntKind.wrap .u64 (D.length:Int))∧(IntKind.wrap .u64 (D.length:Int))≤12)(Dn:D.length≤12)(Du:1≤D.length)(Fw:∀ x∈D,aN k≤(x.length:Int)):FMM Tp 137 [(.own 0),(.fn 151 [] [(.ptr 1 0)])] [some (.row 78 D.length ((D.map rwE).flatten)),some (.box 26 [(pI k),(.p (.sl R.length (R.map aP)))])] (.tup []) [some (.row 78 ((isG (bV k) D).length) (((isG (bV k) D).map rwE).flatten)),some (.box 26 [(pI k),(.p (.sl R.length (R.map aP)))])]:=have k1:=fk 2 (aHg (bQm D) Gr) rfl;have k2:=mq [0,1] 2 (cDl (D:=D) (k:=k) (R:=R) ((Lib.bitLen (bQm D).toNat:Nat):Int) Dn Du Fw);FMM.fi 2 gE func137 [k1.o,k2.o] (gc k2 (gc k1 gn))
theorem cDn{D:List (List Cel)}{k:Int}{R:List (List Cel)}(Be:D.length≤12)(h1:1≤D.length)(hk:∀ x∈D,aN k≤(x.length:Int)):FMM Tp 137 [.own 0,.fn 151 [] [.ptr 1 0]] [some (.row 78 D.length ((D.map rwE).flatten)),some (.box 26 [(pI k),(.p (.sl R.length (R.map aP)))])] (.tup []) [some (.row 78 ((isG (bV k) D).length) (((isG (bV k) D).map rwE).flatten)),some (.box 26 [(pI k),(.p (.sl R.length (R.map aP)))])]:=cDm (Gd Be) Be h1 hk
theorem cDo{D:List (List Cel)}{k:Int}(l:Int)(Be:D.length≤12)(h1:1≤D.length)(hk:∀ x∈D,aN k≤(x.length:Int)):FMM Tp 200 [.own 0,.p (aB 0),.p (aB (D.length:Int)),.p (aB l),.fn 168 [] [.ptr 1 0]] [some (.row 78 D.length ((D.map rwE).flatten)),some (.box 23 [(pI k)])] (.tup []) [some (.row 78 ((isG (bV k) D).length) (((isG (bV k) D).map rwE).flatten)),some (.box 23 [(pI k)])] :=
 cDj (E'0:=isG (bV k) D) (.exit (bDu (E':=isG (bV k) D) (by show _∧_;omega) (by omega) Be h1 hk rfl rfl rfl) (by simp))
theorem cDp{D:List (List Cel)}(Gr:0≤(IntKind.wrap .u64 (D.length:Int))∧(IntKind.wrap .u64 (D.length:Int))≤12)(Dn:D.length≤12)(Du:1≤D.length)(Fw:∀ x∈D,aN k≤(x.length:Int)):FMM Tp 137 [(.own 0),(.fn 168 [] [(.ptr 1 0)])] [some (.row 78 D.length ((D.map rwE).flatten)),some (.box 23 [(pI k)])] (.tup []) [some (.row 78 ((isG (bV k) D).length) (((isG (bV k) D).map rwE).flatten)),some (.box 23 [(pI k)])]:=have k1:=fk 2 (aHg (bQm D) Gr) rfl;have k2:=mq [0,1] 2 (cDo (D:=D) (k:=k) ((Lib.bitLen (bQm D).toNat:Nat):Int) Dn Du Fw);FMM.fi 2 gE func137 [k1.o,k2.o] (gc k2 (gc k1 gn))
theorem cDq{D:List (List Cel)}{k:Int}(Be:D.length≤12)(h1:1≤D.length)(hk:∀ x∈D,aN k≤(x.length:Int)):FMM Tp 137 [.own 0,.fn 168 [] [.ptr 1 0]] [some (.row 78 D.length ((D.map rwE).flatten)),some (.box 23 [(pI k)])] (.tup []) [some (.row 78 ((isG (bV k) D).length) (((isG (bV k) D).map rwE).flatten)),some (.box 23 [(pI k)])]:=cDp (Gd Be) Be h1 hk
theorem cDr{D:List (List Cel × List Cel)}{k:Int}(l:Int)(Be:D.length≤12)(h1:1≤D.length)(hk:∀ x∈D,aN k≤((crM x).length:Int)):FMM Tp 222 [.own 0,.p (aB 0),.p (aB (D.length:Int)),.p (aB l),.fn 185 [] [.ptr 1 0]] [some (.row 112 D.length ((D.map chE).flatten)),some (.box 23 [(pI k)])] (.tup []) [some (.row 112 ((isG (iH k) D).length) (((isG (iH k) D).map chE).flatten)),some (.box 23 [(pI k)])] :=
 cDk (E'0:=isG (iH k) D) (.exit (bDv (E':=isG (iH k) D) (by show _∧_;omega) (by omega) Be h1 hk rfl rfl rfl) (by simp))
theorem cDs{D:List (List Cel × List Cel)}(Gr:0≤(IntKind.wrap .u64 (D.length:Int))∧(IntKind.wrap .u64 (D.length:Int))≤12)(Dn:D.length≤12)(Du:1≤D.length)(Fw:∀ x∈D,aN k≤((crM x).length:Int)):FMM Tp 184 [(.own 0),(.fn 185 [] [(.ptr 1 0)])] [some (.row 112 D.length ((D.map chE).flatten)),some (.box 23 [(pI k)])] (.tup []) [some (.row 112 ((isG (iH k) D).length) (((isG (iH k) D).map chE).flatten)),some (.box 23 [(pI k)])]:=have k1:=fk 2 (aHg (IntKind.wrap .u64 (D.length:Int)) Gr) rfl;have k2:=mq [0,1] 2 (cDr (D:=D) (k:=k) ((Lib.bitLen (IntKind.wrap .u64 (D.length:Int)).toNat:Nat):Int) Dn Du Fw);FMM.fi 2 gE func184 [k1.o,k2.o] (gc k2 (gc k1 gn))
theorem cDt{D:List (List Cel × List Cel)}{k:Int}(Be:D.length≤12)(h1:1≤D.length)(hk:∀ x∈D,aN k≤((crM x).length:Int)):FMM Tp 184 [.own 0,.fn 185 [] [.ptr 1 0]] [some (.row 112 D.length ((D.map chE).flatten)),some (.box 23 [(pI k)])] (.tup []) [some (.row 112 ((isG (iH k) D).length) (((isG (iH k) D).map chE).flatten)),some (.box 23 [(pI k)])]:=cDs (Gd Be) Be h1 hk
end
end KV
end Go.Proofs
section
namespace Go.Proofs
open Go.RowKit
namespace KV
open Tryz
variable {P:Program} {C:Cx} {w:World} {ty n:Nat} {cs Bs:List PV}
theorem eY{o:AO}{id:Nat}{x:AO}(h:([some x]:Mem)[id]? = some (some o)):id=0∧o=x:=by
 cases id with
 | zero=>simp at h;exact ⟨rfl,h.symm⟩
 | succ i=>simp at h
theorem bDy{x:AV}{u:Value}(h:Rep C [some (.row ty n cs)] w x u):Rep C [some (.row ty n Bs)] w x u:=by
 have ex:∀ {id:Nat},(∃ o:AO,([some (.row ty n cs)]:Mem)[id]? = some (some o))→∃ o:AO,([some (.row ty n Bs)]:Mem)[id]? = some (some o):=fun ⟨o,h⟩=>by
  obtain ⟨rfl,_⟩:=eY h;exact ⟨_,rfl⟩
 induction h with
 | p x u h=>exact .p x u h
 | any u=>exact .any u
 | kb b=>exact .kb b
 | yld l=>exact .yld l
 | own id u h0 ha h =>
  refine .own id u h0 (ex ha) fun Dh n' c hm => ?_
  obtain ⟨rfl,e⟩:=eY hm;cases e;exact h _ _ cs rfl
 | arr id off n u h0 ha h =>
  refine .arr id off n u h0 (ex ha) fun o hm hl => ?_
  obtain ⟨rfl,e⟩:=eY hm;exact h _ rfl rfl
 | ptr id off u h0 ha h hp =>
  refine .ptr id off u h0 (ex ha) (fun o hm hl => ?_) hp
  obtain ⟨rfl,e⟩:=eY hm;exact h _ rfl rfl
 | mp id u h0 ha h =>
  refine .mp id u h0 (ex ha) fun o hm hl => ?_
  obtain ⟨rfl,e⟩:=eY hm;exact h _ rfl rfl
 | pa id q u h0 ha h =>
  refine .pa id q u h0 (ex ha) fun o hm hl => ?_
  obtain ⟨rfl,e⟩:=eY hm;exact h _ rfl rfl
 | rp cs off b o us h1 h2 h3=>exact .rp cs off b o us h1 h2 h3
 | agg cs vs h0 h1 _ ih=>exact .agg cs vs h0 h1 ih
 | tup cs vs h1 _ ih=>exact .tup cs vs h1 ih
 | fn f cs ds us vs h1 h2 _ _ Gs Gu=>exact .fn f cs ds us vs h1 h2 Gs Gu
theorem aBp:∀ {args:List AV} {us:List Value},cX C [some (.row ty n cs)] w args us→cX C [some (.row ty n Bs)] w args us
 | [],_,h=>by cases h;exact .nil
 | x::l,_,h=>by
  cases h with
  | cons _ _ u us h1 h2=>exact .cons _ _ _ _ (bDy h1) (aBp h2)
theorem bDz(hM:aX P C [some (.row ty n cs)] w):aX P C [some (.row ty n (cs.map wkP))] w:=by
 refine ⟨fun id t' n' c hm => ?_,fun id t' c hm => ?_,fun id e c hm => ?_,fun i i' o o' b h1 l1 h2 l2 e1 e2 => ?_,fun id o b h l e => ?_,hM.Fs,fun id o b h l e => ?_,hM.lib⟩
 ·obtain ⟨rfl,e⟩:=eY hm
  cases e
  rcases hM.row 0 _ _ _ rfl with ⟨h1,h2,h3⟩ | ⟨b,arr,i,q1,q2,q3,q4,q5,q6,q7,q8,q9⟩
  ·exact .inl ⟨h1,h2,by rw [h3];rfl⟩
  ·refine .inr ⟨b,arr,i,q1,q2,q3,q4,by rw [pE];exact q5,q6,q7,fun j hj => ?_,fun j hj=>q9 j (by simpa using hj)⟩
   rw [iR];exact aTa (q8 j (by simpa using hj))
 ·obtain ⟨_,e⟩:=eY hm;cases e
 ·obtain ⟨_,e⟩:=eY hm;cases e
 ·obtain ⟨rfl,_⟩:=eY h1
  obtain ⟨rfl,_⟩:=eY h2;rfl
 ·obtain ⟨rfl,_⟩:=eY h
  exact hM.nF 0 _ b rfl rfl e
 ·obtain ⟨rfl,_⟩:=eY h
  exact hM.lt 0 _ b rfl rfl e
theorem bLg{C':Cx}{M':Mem}{w':World}(f:Fr C [some (.row ty n Bs)] w C' M' w'):Fr C [some (.row ty n cs)] w C' M' w':=by
 refine ⟨f.os,f.tape,f.out,f.size,fun b hb hn=>f.keep b hb fun id o h l e => ?_,fun id o h => ?_,fun id o h t' n' c hm => ?_,fun id o h o' hm hl => ?_,fun id o b h l e => ?_,f.F1,fun b h => ?_⟩
 ·obtain ⟨rfl,_⟩:=eY h
  exact hn 0 _ rfl rfl e
 ·obtain ⟨rfl,_⟩:=eY h
  exact f.ids 0 _ rfl
 ·obtain ⟨rfl,_⟩:=eY h
  obtain ⟨_,e⟩:=f.row 0 _ rfl _ _ _ hm;cases e;exact ⟨cs,rfl⟩
 ·obtain ⟨rfl,rfl⟩:=eY h
  rfl
 ·rcases f.new id o b h l e with h1 | ⟨Ej,o0,h1,h2,h3⟩
  ·exact .inl h1
  ·obtain ⟨rfl,_⟩:=eY h1
   exact .inr ⟨0,_,rfl,rfl,h3⟩
 ·rcases f.F2 b h with h1 | h1 | ⟨Ej,o0,h1,h2,h3⟩
  ·exact .inl h1
  ·exact .inr (.inl h1)
  ·obtain ⟨rfl,_⟩:=eY h1
   exact .inr (.inr ⟨0,_,rfl,rfl,h3⟩)
theorem FMM.rowwk{f:Nat}{args:List AV}{r:AV}{M':Mem}(h:FMM P f args [some (.row ty n (cs.map wkP))] r M'):FMM P f args [some (.row ty n cs)] r M':=fun C w us hus hM k=>by
 refine (h C w us (aBp hus) (bDz hM) k).mono ?_;rintro e w' ⟨u,rfl,C',hF,Ep,hr⟩;exact ⟨u,rfl,C',bLg hF,Ep,hr⟩
end KV
end Go.Proofs
end
namespace Go.Proofs
namespace KV
open Tryz
section
variable {e k:Int}{i j i' j' qn Lw:Nat}

noncomputable abbrev aLm:Code:=sub (cd Tryz.f104) [1,1,1,0,1,0,0]
noncomputable abbrev aLn:Code:=sub (cd Tryz.f104) [1,1,1,1,0,1,0,0]
theorem cDd{D:List (List Cel × List Cel)}(Ho:D.length≤12)(Dn:1≤D.length)(Du:∀ x∈D,aN k≤((crM x).length:Int)):FMM Tp 109 [(pI k),(.own 0)] [some (.row 112 D.length ((D.map chE).flatten))] (.own 0) [some (.row 112 ((isG (iH k) D).length) (((isG (iH k) D).map chE).flatten))]:=have k1:=mq [0,1] 2 (cDt (D:=D) (k:=k) Ho Dn Du);FMM.fi 1 gE func109 [k1.o] (gc k1 gn)
theorem cFv{k:Int}{n:Nat}{cs:List PV}{D:List Chg}(hn:n=D.length)(hc:cs.map wkP=(D.map chE).flatten)(Be:D.length≤12)(h1:1≤D.length)(hk:∀ x∈D,aN k≤((crM x).length:Int)):FMM Tp 109 [.p (aB k),.own 0] [some (.row 112 n cs)] (.own 0) [some (.row 112 (isG (iH k) D).length (((isG (iH k) D).map chE).flatten))]:=by
 subst hn;refine FMM.rowwk ?_;rw [hc];exact cDd Be h1 hk
def kW(k:Int)(A:List (List Cel))(e:Int)(B:List (List Cel))(i on:Nat)(oc:List PV):St:=⟨fr 69 [(2,(.ptr 0 0)),(3,(.ptr 1 0)),(4,(.p bM)),(5,(.mp 2)),(6,(.mp 3)),(7,(.own 4)),(18,(.p (.sl A.length (A.map aP)))),(19,(pI (A.length:Int))),(20,(pI (i:Int)))],[some (.box 26 [(pI k),(.p (.sl A.length (A.map aP)))]),some (.box 26 [(pI e),(.p (.sl B.length (B.map aP)))]),some (.mp (bQ k A) A.length),some (.mp (bQ e B) B.length),some (.row 112 on oc)]⟩
def kX(k:Int)(A B:List (List Cel))(j qn:Nat)(qc:List PV):St:=⟨fr 69 [(2,(.ptr 0 0)),(4,(.p bM)),(5,(.mp 1)),(7,(.own 2)),(44,(.p (.sl B.length (B.map aP)))),(45,(pI (B.length:Int))),(46,(pI (j:Int)))],[some (.box 26 [(pI k),(.p (.sl A.length (A.map aP)))]),some (.mp (bQ k A) A.length),some (.row 112 qn qc)]⟩
theorem cDe{A B:List (List Cel)}{Av:Nat}{Aj:List (List Cel × List Cel)}{Kx K0:Nat}{K1:List PV}{D4:List (List Cel × List Cel)}(Qs:gF k A)(Lu:gF e B)(Bi:aE Tp 0 aLm (kW k A e B 0 0 []) (.exit 0) (kW k A e B Av Aj.length ((Aj.map chE).flatten)))(Cl:aE Tp 0 aLn (kX k A B 0 Aj.length ((Aj.map chE).flatten)) (.exit 2) (kX k A B Kx K0 K1))(Ka:K0=D4.length)(Qt:K1.map wkP=(D4.map chE).flatten)(Nq:D4.length≤12)(Ny:1≤D4.length)(Nz:∀ x∈D4,aN k≤((crM x).length:Int)):FMM Tp 104 [(.p (.agg [(aB k),(.sl A.length (A.map aP))])),(.p (.agg [(aB e),(.sl B.length (B.map aP))]))] [] (.p (.sl ((isG (iH k) D4).length) (((isG (iH k) D4).map chE).flatten))) []:=have k1:=mq [2] 3 (cFv (k:=k) (D:=D4) Ka Qt Nq Ny Nz);FMM.fi 0 ⟨[],[],[2],[]⟩ func104 [.c (.mp 2) [(2,(.mp (bQ k A) A.length))],.c (.mp 10) [(10,(.mp (bQ e B) B.length))],Bi.k 6 (gN b9 [0,1,2,10,11] [(7,112)]),Cl.k 4 (gI av [0,2,4]),k1.o] (gc k1 (gc Cl.code (gc Bi.code (gt (FC Tp 149 [(.p (.agg [(aB e),(.sl B.length (B.map aP))]))] [] 10 (.mp 10) [(10,(.mp (bQ e B) B.length))]) (FMM.fcN (k:=1) rfl (ids:=[]) (aQr Lu) (by kernel_rfl)) (gt (FC Tp 149 [(.p (.agg [(aB k),(.sl A.length (A.map aP))]))] [] 2 (.mp 2) [(2,(.mp (bQ k A) A.length))]) (FMM.fcN (k:=1) rfl (ids:=[]) (aQr Qs) (by kernel_rfl)) gn)))))
section
variable{A B:List (List Cel)}{Ab Cp:List Cel}(h0:(i:Int)<(A.length:Int))(h1:A[i]? = some Ab)(h2:aN k≤(Ab.length:Int))(h3:eO Tp 186 (bQ e B) (k3V (aM k Ab 0) (aM k Ab 1) (aM k Ab 2)))(h4:(iE (bQ e B) (k3V (aM k Ab 0) (aM k Ab 1) (aM k Ab 2)))=true)(h5:iA (bQ e B) (k3V (aM k Ab 0) (aM k Ab 1) (aM k Ab 2))=some (.sl Cp.length ((Cp.map cE).flatten)))(H8:Ab.length≤100000)
include h0 h1 h2 h3 h4 h5 H8
theorem bDl{o o':List (List Cel × List Cel)}(h7:(decide (Ab=Cp))=false)(N3:Ab.length≤1000000)(Qu:Cp.length≤1000000)(Ba:[(PV.sl Ab.length ((Ab.map cE).flatten)),(.sl Cp.length ((Cp.map cE).flatten))].length=1*2∧o.length+1≤1000000)(Bt:cq i)(Ai:i'=(i+1))(Ca:o'.length=(o.length+1))(Cb:(o'.map chE).flatten=(((o.map chE).flatten)++[(PV.sl Ab.length ((Ab.map cE).flatten)),(.sl Cp.length ((Cp.map cE).flatten))])):aA Tp 0 aLm (kW k A e B i o.length ((o.map chE).flatten)) .normal (kW k A e B i' o'.length ((o'.map chE).flatten)):=by
 subst Ai;have k1:=fk 5 (eK k Ab h2) rfl;have k2:=fk 5 (qG Ab Cp H8) rfl;have k3:=fk 5 (qX Ab N3) rfl;have k4:=fk 5 (qX Cp Qu) rfl;rw [Ca,Cb];exact aA.fi (gI b9 [0,1,2,3,6]) [bT,.x (.sl Ab.length ((Ab.map cE).flatten)),k1.o,bT,.x (.sl Cp.length ((Cp.map cE).flatten)),k2.o,bT,k3.o,k4.o] (gc Bt (gc Ba (gt ([(PV.sl Ab.length ((Ab.map cE).flatten)),(.sl Cp.length ((Cp.map cE).flatten))].length=2) (by first | decide | simp) (gc k4 (gc k3 (gc (cN h7) (gc k2 (gc h5 (gc h4 (gc h3 (gc k1 (gc (atm aP h1) (gc (ixn aP h1) (g0 h0))))))))))))))
theorem bDm{o:List (List Cel × List Cel)}(h7:(decide (Ab=Cp))=true)(h8:cq i)(Ai:i'=(i+1)):aA Tp 0 aLm (kW k A e B i o.length ((o.map chE).flatten)) .normal (kW k A e B i' o.length ((o.map chE).flatten)):=by
 subst Ai;have k1:=fk 5 (eK k Ab h2) rfl;have k2:=fk 5 (qG Ab Cp H8) rfl;exact aA.fi (gI b9 c8) [bT,.x (.sl Ab.length ((Ab.map cE).flatten)),k1.o,bT,.x (.sl Cp.length ((Cp.map cE).flatten)),k2.o,bF] (gc h8 (gc (aO h7) (gc k2 (gc h5 (gc h4 (gc h3 (gc k1 (gc (atm aP h1) (gc (ixn aP h1) (g0 h0))))))))))
end
theorem bDn{A B:List (List Cel)}{o:List (List Cel × List Cel)}{Ab:List Cel}{o':List (List Cel × List Cel)}(h0:(i:Int)<(A.length:Int))(h1:A[i]? = some Ab)(h2:aN k≤(Ab.length:Int))(h3:eO Tp 186 (bQ e B) (k3V (aM k Ab 0) (aM k Ab 1) (aM k Ab 2)))(h4:(iE (bQ e B) (k3V (aM k Ab 0) (aM k Ab 1) (aM k Ab 2)))=false)(Jn:Ab.length≤100000)(h6:(decide (Ab=([]:List Cel)))=false)(Ky:Ab.length≤1000000)(N3:([]:List Cel).length≤1000000)(h9:[(PV.sl Ab.length ((Ab.map cE).flatten)),(.sl 0 [])].length=1*2∧o.length+1≤1000000)(Ba:cq i)(Ai:i'=(i+1))(Ca:o'.length=(o.length+1))(Cb:(o'.map chE).flatten=(((o.map chE).flatten)++[(PV.sl Ab.length ((Ab.map cE).flatten)),(.sl 0 [])])):aA Tp 0 aLm (kW k A e B i o.length ((o.map chE).flatten)) .normal (kW k A e B i' o'.length ((o'.map chE).flatten)):=by
 subst Ai;have k1:=fk 5 (eK k Ab h2) rfl;have k2:=fk 5 (qX Ab Ky) rfl;rw [Ca,Cb];exact aA.fi (gI b9 [0,1,2,3,6]) [bT,.x (.sl Ab.length ((Ab.map cE).flatten)),k1.o,bF,.c (pB (decide (Ab=([]:List Cel)))) [],bT,k2.o,.c (.p (.sl 0 [])) []] (gc Ba (gc h9 (gt ([(PV.sl Ab.length ((Ab.map cE).flatten)),(.sl 0 [])].length=2) (by first | decide | simp) (gt (FC Tp 150 [(.p bM)] [] 5 (.p (.sl 0 [])) []) (FV.fc (FV.argwk (qX ([]:List Cel) N3) rfl) rfl) (gc k2 (gc (cN h6) (gt (FC Tp 107 [(.p (.sl Ab.length ((Ab.map cE).flatten))),(.p bM)] [] 5 (pB (decide (Ab=([]:List Cel)))) []) (FV.fc (FV.argwk (qG Ab ([]:List Cel) Jn) rfl) rfl) (gc h4 (gc h3 (gc k1 (gc (atm aP h1) (gc (ixn aP h1) (g0 h0)))))))))))))
theorem bDo{A B:List (List Cel)}{o:List (List Cel × List Cel)}(h0:(A.length:Int)≤(i:Int)):aA Tp 0 aLm (kW k A e B i o.length ((o.map chE).flatten)) (.exit 0) (kW k A e B i o.length ((o.map chE).flatten)):=aA.fi (gI b9 c8) [bF] (gc (aJ h0) gn)
section
variable{A B:List (List Cel)}{Ad B0:List Cel}(h0:(j:Int)<(B.length:Int))(h1:B[j]? = some Ad)(h2:aN k≤(Ad.length:Int))(h3:eO Tp 186 (bQ k A) (k3V (aM k Ad 0) (aM k Ad 1) (aM k Ad 2)))(h4:(iE (bQ k A) (k3V (aM k Ad 0) (aM k Ad 1) (aM k Ad 2)))=true)(h5:iA (bQ k A) (k3V (aM k Ad 0) (aM k Ad 1) (aM k Ad 2))=some (.sl B0.length ((B0.map cE).flatten)))
include h0 h1 h2 h3 h4 h5
theorem bDp{qc K4:List PV}(h6:(B0.length:Int)=0)(Ky:Ad.length≤1000000)(h8:[bM,(.sl Ad.length ((Ad.map cE).flatten))].length=1*2∧qn+1≤1000000)(h9:cq j)(Cy:j'=(j+1))(Jo:Lw=(qn+1))(Jp:K4=(qc++[bM,(.sl Ad.length ((Ad.map cE).flatten))])):aA Tp 0 aLn (kX k A B j qn qc) .normal (kX k A B j' Lw K4):=by
 subst Cy Jo Jp;have k1:=fk 3 (eK k Ad h2) rfl;have k2:=fk 3 (qX Ad Ky) rfl;exact aA.fi (gI av [0,1,4]) [bT,.x (.sl Ad.length ((Ad.map cE).flatten)),k1.o,bT,.x (.sl B0.length ((B0.map cE).flatten)),bT,k2.o] (gc h9 (gc h8 (gt ([bM,(.sl Ad.length ((Ad.map cE).flatten))].length=2) (by first | decide | simp) (gc k2 (gc (cP h6) (gc h5 (gc h4 (gc h3 (gc k1 (gc (atm aP h1) (gc (ixn aP h1) (g0 h0))))))))))))
theorem bDq{qc:List PV}(h6:(B0.length:Int)≠0)(h7:cq j)(Cy:j'=(j+1)):aA Tp 0 aLn (kX k A B j qn qc) .normal (kX k A B j' qn qc):=by
 subst Cy;have k1:=fk 3 (eK k Ad h2) rfl;exact aA.fi (gI av [0,1,2]) [bT,.x (.sl Ad.length ((Ad.map cE).flatten)),k1.o,bT,.x (.sl B0.length ((B0.map cE).flatten)),bF] (gc h7 (gc (bA h6) (gc h5 (gc h4 (gc h3 (gc k1 (gc (atm aP h1) (gc (ixn aP h1) (g0 h0)))))))))
end
theorem bDr{A B:List (List Cel)}{qc:List PV}{Ad:List Cel}{K4:List PV}(h0:(j:Int)<(B.length:Int))(h1:B[j]? = some Ad)(h2:aN k≤(Ad.length:Int))(h3:eO Tp 186 (bQ k A) (k3V (aM k Ad 0) (aM k Ad 1) (aM k Ad 2)))(h4:(iE (bQ k A) (k3V (aM k Ad 0) (aM k Ad 1) (aM k Ad 2)))=false)(Jn:Ad.length≤1000000)(h6:[bM,(.sl Ad.length ((Ad.map cE).flatten))].length=1*2∧qn+1≤1000000)(h7:cq j)(Cy:j'=(j+1))(Jo:Lw=(qn+1))(Jp:K4=(qc++[bM,(.sl Ad.length ((Ad.map cE).flatten))])):aA Tp 0 aLn (kX k A B j qn qc) .normal (kX k A B j' Lw K4):=by
 subst Cy Jo Jp;have k1:=fk 3 (eK k Ad h2) rfl;have k2:=fk 3 (qX Ad Jn) rfl;exact aA.fi (gI av [0,1,4]) [bT,.x (.sl Ad.length ((Ad.map cE).flatten)),k1.o,bF,bT,k2.o] (gc h7 (gc h6 (gt ([bM,(.sl Ad.length ((Ad.map cE).flatten))].length=2) (by first | decide | simp) (gc k2 (gt (((0:Int) == 0)=true) (by first | decide | simp) (gc h4 (gc h3 (gc k1 (gc (atm aP h1) (gc (ixn aP h1) (g0 h0)))))))))))
theorem bDs{A B:List (List Cel)}{qc:List PV}(h0:(B.length:Int)≤(j:Int)):aA Tp 0 aLn (kX k A B j qn qc) (.exit 2) (kX k A B j qn qc):=aA.fi (gI av [0,1,2]) [bF] (gc (aJ h0) gn)
end
end KV
end Go.Proofs
section
namespace Go.Proofs
open Go.RowKit
namespace KV
open Tryz
set_option maxRecDepth 1000000
def nT(k:Int)(B:List (List Cel))(r:List Cel):Option Chg:=if r=(lC k B r).getD [] then none else some (r,(lC k B r).getD [])
def tH(k:Int)(A:List (List Cel))(r:List Cel):Option Chg:=if ((lC k A r).getD []).length=0 then some ([],r) else none
def dfL(k:Int)(A B:List (List Cel)):List Chg:=A.filterMap (nT k B)++B.filterMap (tH k A)
def dfM(k:Int)(A B:List (List Cel)):List Chg:=isG (iH k) (dfL k A B)
theorem aEw(k:Int):1≤aN k:=by
 unfold aN
 repeat' split
 all_goals decide
theorem bQk{k:Int}{L:List (List Cel)}{r y:List Cel}(h:lC k L r=some y):y∈L:=bMj h
theorem bKj{k:Int}{A B:List (List Cel)}(hA:gF k A)(hB:gF k B):∀ x∈dfL k A B,aN k≤((crM x).length:Int):=by
 have hp:=aEw k;intro x hx
 rcases aAg.1 hx with hx | hx
 ·obtain ⟨r,hr,he⟩:=List.mem_filterMap.1 hx
  unfold nT at he
  split at he
  ·cases he
  ·cases he
   have:=(hA.len r hr).1;unfold crM;rw [if_pos (by show 0<r.length;omega)];exact this
 ·obtain ⟨r,hr,he⟩:=List.mem_filterMap.1 hx
  unfold tH at he
  split at he
  ·cases he
   have:=(hB.len r hr).1;unfold crM;rw [if_neg (by simp)];exact this
  ·cases he
theorem cDc(c:Chg):(chE c).map wkP=chE c:=rfl
theorem bQl(L:List Chg):((L.map chE).flatten).map wkP=(L.map chE).flatten:=by
 induction L with
 | nil=>rfl
 | cons c L ih=>rw [kN,vS,vT,ih,cDc]
def nlE(c:Chg):List PV:=[bM,aP c.2]
theorem cFu{k:Int}{A:List (List Cel)}:∀ B:List (List Cel),(((B.filterMap (tH k A)).map nlE).flatten).map wkP=((B.filterMap (tH k A)).map chE).flatten:=fun B=>by
 have:∀ L:List Chg,(∀ c∈L,c.1=[])→((L.map nlE).flatten).map wkP=(L.map chE).flatten:=fun L hL=>by
  induction L with
  | nil=>rfl
  | cons c L ih =>
   rw [kN,kN,vS,vS,vT,ih (fun x hx=>hL x (by simp [hx]))]
   congr 1
   have h:=hL c (by simp)
   obtain ⟨a,b⟩:=c;dsimp only at h
   subst h;rfl
 refine this _ fun c hc => ?_
 obtain ⟨r,_,he⟩:=List.mem_filterMap.1 hc;unfold tH at he
 split at he
 ·cases he;rfl
 ·cases he
theorem aLl(L:List Chg)(c:Chg):((L++[c]).map chE).flatten=(L.map chE).flatten++chE c:=by simp
theorem bKk(L:List Chg)(c:Chg):((L++[c]).map nlE).flatten=(L.map nlE).flatten++nlE c:=by simp
theorem vC{α β:Type}(f:α→Option β){l:List α}{i:Nat}{x:α}(h:l[i]? = some x):(l.take (i+1)).filterMap f=(l.take i).filterMap f++(f x).toList:=by
 rw [List.take_add_one,h];rw [List.filterMap_append];cases hf:f x <;> simp [hf]
theorem aBn{α β:Type}(f:α→Option β)(l:List α)(i:Nat):((l.take i).filterMap f).length≤l.length:=iG (List.length_filterMap_le _ _) (by simp;omega)
theorem aQq{k:Int}{A B:List (List Cel)}(hA:gF k A)(hB:gF k B)(Be:(dfL k A B).length≤12)(h1:1≤(dfL k A B).length) :
  FMM Tp 104 [.p (.agg [aB k,bW A]),.p (.agg [aB k,bW B])] [] (.p (.sl (dfM k A B).length ((dfM k A B).map chE).flatten)) []:=by
 have hAn:=hA.n;have hBn:=hB.n;have L1:=aE.count (P:=Tp) (k:=0) (b:=(sub (cd Tryz.f104) bl)) (e := .exit 0) (R:=kW k A k B A.length (A.filterMap (nT k B)).length (((A.filterMap (nT k B)).map chE).flatten)) A.length
  (fun i=>kW k A k B i ((A.take i).filterMap (nT k B)).length ((((A.take i).filterMap (nT k B)).map chE).flatten))
  (fun i hi=>by
   have hx:A[i]? = some A[i]:=Ch hi;have hm:=iF hi;have hl:=hA.len _ hm;have hK:eO Tp 186 (bQ k B) (iZ k A[i]):=vD hB.ky (hA.ky _ hm) hB.nd;have hfl:=aBn (nT k B) A i;rw [vC (nT k B) hx];generalize A[i]=x at hx hm hl hK
   have hhit:=nU k B x;have hlook:=rS k B x;rw [nV] at hhit
   have hf:nT k B x=if x=(lC k B x).getD [] then none else some (x,(lC k B x).getD []):=rfl
   rw [hf];generalize (A.take i).filterMap (nT k B)=o at hfl
   cases hlk:lC k B x with
   | some y =>
    rw [hlk] at hhit hlook
    have hy:=hB.len y (bQk hlk)
    by_cases he:x=y
    ·rw [Option.getD_some,if_pos he,Option.toList_none,List.append_nil]
     exact bDm (by omega) hx hl.1 hK hhit hlook (by omega) (by simp [he]) (aL (by omega)) rfl
    ·rw [Option.getD_some,if_neg he]
     exact bDl (o':=o++[(x,y)]) (by omega) hx hl.1 hK hhit hlook (by omega) (by simp [he]) (by omega) (by omega) ⟨rfl,by omega⟩ (aL (by omega)) rfl (by simp) (aLl o (x,y))
   | none =>
    rw [hlk] at hhit hlook
    have hp:=aEw k;have he:¬ x=[]:=fun e=>by rw [e] at hl;simp at hl;omega
    rw [Option.getD_none,if_neg he];exact bDn (o':=o++[(x,[])]) (by omega) hx hl.1 hK hhit (by omega) (by simp [he]) (by omega) (by simp) ⟨rfl,by omega⟩ (aL (by omega)) rfl (by simp) (aLl o (x,[])))
  (by rw [List.take_length];exact bDo (by omega)) (by simp)
 have L2:=aE.count (P:=Tp) (k:=0) (b:=(sub (cd Tryz.f104) bh)) (e := .exit 2) (R:=kX k A B B.length (dfL k A B).length (((A.filterMap (nT k B)).map chE).flatten++((B.filterMap (tH k A)).map nlE).flatten)) B.length
  (fun j=>kX k A B j ((A.filterMap (nT k B)).length+((B.take j).filterMap (tH k A)).length) (((A.filterMap (nT k B)).map chE).flatten++(((B.take j).filterMap (tH k A)).map nlE).flatten))
  (fun j hj=>by
   have hx:B[j]? = some B[j]:=Ch hj;have hm:=iF hj;have hl:=hB.len _ hm;have hK:eO Tp 186 (bQ k A) (iZ k B[j]):=vD hA.ky (hB.ky _ hm) hA.nd;have hfl:=aBn (tH k A) B j;have hfa:(A.filterMap (nT k B)).length≤A.length:=List.length_filterMap_le _ _;rw [vC (tH k A) hx];generalize B[j]=x at hx hm hl hK
   have hhit:=nU k A x;have hlook:=rS k A x;rw [nV] at hhit
   have hf:tH k A x=if ((lC k A x).getD []).length=0 then some ([],x) else none:=rfl
   rw [hf];generalize (B.take j).filterMap (tH k A)=q at hfl
   generalize A.filterMap (nT k B)=o at hfa
   have hap:((o.map chE).flatten++(q.map nlE).flatten)++[bM,aP x]=(o.map chE).flatten++((q++[([],x)]).map nlE).flatten:=by rw [bKk,List.append_assoc];rfl
   cases hlk:lC k A x with
   | some y =>
    rw [hlk] at hhit hlook
    by_cases he:y.length=0
    ·rw [Option.getD_some,if_pos he]
     refine bDp (by omega) hx hl.1 hK hhit hlook (by omega) (by omega) ⟨rfl,by omega⟩ (aL (by omega)) rfl ?_ hap.symm
     show o.length+(q++[(([]:List Cel),x)]).length=_;rw [gR,List.length_singleton];omega
    ·rw [Option.getD_some,if_neg he,Option.toList_none,List.append_nil]
     exact bDq (by omega) hx hl.1 hK hhit hlook (by omega) (aL (by omega)) rfl
   | none =>
    rw [hlk] at hhit hlook
    rw [Option.getD_none,if_pos (by simp)]
    refine bDr (by omega) hx hl.1 hK hhit (by omega) ⟨rfl,by omega⟩ (aL (by omega)) rfl ?_ hap.symm
    show o.length+(q++[(([]:List Cel),x)]).length=_;rw [gR,List.length_singleton];omega)
  (by
   rw [List.take_length];have:(dfL k A B).length=(A.filterMap (nT k B)).length+(B.filterMap (tH k A)).length:=by unfold dfL;rw [gR]
   rw [this];exact bDs (by omega)) (by simp)
 have e0:((A.filterMap (nT k B)).length+((B.take 0).filterMap (tH k A)).length)=(A.filterMap (nT k B)).length:=by simp
 have e1:(((A.filterMap (nT k B)).map chE).flatten++(((B.take 0).filterMap (tH k A)).map nlE).flatten)=((A.filterMap (nT k B)).map chE).flatten:=by simp
 rw [e0,e1] at L2
 refine cDe (D4:=dfL k A B) hA hB L1 L2 rfl ?_ Be h1 (bKj hA hB);unfold dfL;rw [vT,bQl,cFu,vT,bMk]
end KV
end Go.Proofs
end
namespace Go.Proofs
namespace KV
open Tryz
section
variable {k:Int}{q q':Nat}

noncomputable abbrev aTx:Code:=sub (cd Tryz.f56) [1,0,1,0,0]
def qW(k:Int)(A B:List (List Cel))(q:Nat):St:=⟨fr 29 [(2,(.ptr 0 0)),(3,(.ptr 1 0)),(11,(.p (.agg [(aB k),(.sl A.length (A.map aP)),(aB k),(.sl B.length (B.map aP))]))),(12,(pI (q:Int)))],[some (.box 26 [(pI k),(.p (.sl A.length (A.map aP)))]),some (.box 26 [(pI k),(.p (.sl B.length (B.map aP)))])]⟩
theorem cDa{A B:List (List Cel)}{Hc:Nat}(A2:aE Tp 0 aTx (qW k A B 0) (.exit 0) (qW k A B Hc))(h1:k=k)(H5:gF k A)(Qq:gF k B)(Nu:(dfL k A B).length≤12)(Qr:1≤(dfL k A B).length):FMM Tp 56 [(.p (.agg [(aB k),(.sl A.length (A.map aP))])),(.p (.agg [(aB k),(.sl B.length (B.map aP))]))] [] (.tup [(.p (.sl ((dfM k A B).length) (((dfM k A B).map chE).flatten))),(pI 0)]) []:=have k1:=fk 2 (FV.frz (aQq H5 Qq Nu Qr) rfl) rfl;FMM.fi 0 gE func56 [A2.k 6 (gI br [0,1]),bF,k1.o] (gc k1 (gc (bD h1) (gc A2.code gn)))
theorem bDi{A B:List (List Cel)}(Az:q=0)(h1:(fA k A)=0)(Er:q'=1):aA Tp 0 aTx (qW k A B q) .normal (qW k A B q'):=by
 subst Az;subst Er;exact aA.fi (gI br [0,1]) [bT,.c (pI (fA k A)) [],bF] (gt (inR 1) (by show _∧_;omega) (gc (bD h1) (gc (fk 3 (iU k A) rfl) (gt (0+2≤[(aB k),(.sl A.length (A.map aP)),(aB k),(.sl B.length (B.map aP))].length) (by first | decide | simp) (gt (0≤(0:Int)∧(0:Int)<2) (by first | decide | simp) (gt ((decide ((0:Int)<2))=true) (by first | decide | simp) gn))))))
theorem bDj{A B:List (List Cel)}(Az:q=1)(h1:(fA k B)=0)(Er:q'=2):aA Tp 0 aTx (qW k A B q) .normal (qW k A B q'):=by
 subst Az;subst Er;exact aA.fi (gI br [0,1]) [bT,.c (pI (fA k B)) [],bF] (gt (inR 2) (by show _∧_;omega) (gc (bD h1) (gc (fk 3 (iU k B) rfl) (gt (2+2≤[(aB k),(.sl A.length (A.map aP)),(aB k),(.sl B.length (B.map aP))].length) (by first | decide | simp) (gt (0≤(1:Int)∧(1:Int)<2) (by first | decide | simp) (gt ((decide ((1:Int)<2))=true) (by first | decide | simp) gn))))))
theorem bDk{A B:List (List Cel)}(Az:q=2)(Er:q'=2):aA Tp 0 aTx (qW k A B q) (.exit 0) (qW k A B q'):=by
 subst Az;subst Er;exact aA.fi (gI br [0,1]) [bF] (gt ((decide ((2:Int)<2))=false) (by first | decide | simp) gn)
theorem cDb{k:Int}{A B:List (List Cel)}(cA:fA k A=0)(cB:fA k B=0)(hA:gF k A)(hB:gF k B)(Be:(dfL k A B).length≤12)(h1:1≤(dfL k A B).length){base:Nat}:FV Tp 56 [.p (.agg [aB k,bW A]),.p (.agg [aB k,bW B])] base (.tup [.p (.sl (dfM k A B).length (((dfM k A B).map chE).flatten)),.p (aB 0)]) [] :=
 FV.frz (cDa (.step (bDi rfl cA rfl) (.step (bDj rfl cB rfl) (.exit (bDk rfl rfl) (by simp)))) rfl hA hB Be h1) rfl
end
section
variable {r0:Bool}{k:Int}{i j i' Av base:Nat}

noncomputable abbrev pC:Code:=sub (cd Tryz.f254) [1,0,1,0,0]
noncomputable abbrev bKh:Code:=sub (cd Tryz.f53) [1,1,1,0,1,0,0]
noncomputable abbrev bKi:Code:=pS (cd Tryz.f53) 6 [0,1,0,0]
theorem cCs{c:Chg}(Ao:r0=(decide (((crM c).length:Int) > 0))):FV Tp 144 [(.p (.agg [(.sl c.1.length ((c.1.map cE).flatten)),(.sl c.2.length ((c.2.map cE).flatten))]))] base (pB r0) []:=by
 subst Ao;have k1:=fk 1 (mY c.1 c.2) rfl;exact FV.fi func144 [k1.o] (gc k1 gn)
def neC(c:Chg):Bool:=decide (((crM c).length:Int) > 0)
theorem cCt(c:Chg){base:Nat}:FV Tp 144 [.p (.agg [aP c.1,aP c.2])] base (pB (neC c)) []:=cCs rfl
theorem cCu{c:Chg}(h0:(c.1.length:Int)=0):FV Tp 146 [(.p (.agg [(.sl c.1.length ((c.1.map cE).flatten)),(.sl c.2.length ((c.2.map cE).flatten))])),(.rp [(aB k)] 0)] base (pB true) []:=FV.fi func146 (rT 5) (B5 (cP h0) gn)
theorem cCv{c:Chg}(h0:(c.1.length:Int)≠0)(h1:(c.2.length:Int)=0):FV Tp 146 [(.p (.agg [(.sl c.1.length ((c.1.map cE).flatten)),(.sl c.2.length ((c.2.map cE).flatten))])),(.rp [(aB k)] 0)] base (pB true) []:=FV.fi func146 (rF 5++rT 10) (Ig (cP h1) (Au (cP h1) (B5 (bA h0) gn)))
section
variable{c:Chg}(h0:(c.1.length:Int)≠0)(h1:(c.2.length:Int)≠0)(h2:aN k≤(c.1.length:Int))(h3:aN k≤(c.2.length:Int))
include h0 h1 h2 h3
theorem cCw(h4:(bV k c.1 c.2)=0)(Jn:c.1.length≤100000)(Ao:r0=(!(decide (c.1=c.2)))):FV Tp 146 [(.p (.agg [(.sl c.1.length ((c.1.map cE).flatten)),(.sl c.2.length ((c.2.map cE).flatten))])),(.rp [(aB k)] 0)] base (pB r0) []:=by
 subst Ao;have k1:=fk 1 (mQ k c.1 c.2 h2 h3) rfl;have k2:=fk 1 (qG c.1 c.2 Jn) rfl;exact FV.fi func146 (rF 6++[.x (aB k)]++rF 5++[k1.o,bF,bF]++rT 5++[k2.o,bT,bF,bT,bF]) (gc (bA h1) (gc (cP h4) (gc (bA h1) (gc (cP h4) (gc k2 (B5 (cP h4) (Au (bA h1) (gc k1 (B5 (bA h1) (gr (aB k) (gc (bA h1) (B5 (bA h0) gn))))))))))))
theorem cCx(h4:(bV k c.1 c.2)≠0):FV Tp 146 [(.p (.agg [(.sl c.1.length ((c.1.map cE).flatten)),(.sl c.2.length ((c.2.map cE).flatten))])),(.rp [(aB k)] 0)] base (pB false) []:=have k1:=fk 1 (mQ k c.1 c.2 h2 h3) rfl;FV.fi func146 (rF 6++[.x (aB k)]++rF 5++[k1.o]++rF 11) (gc (bA h1) (gc (bA h4) (gc (bA h1) (Fb (bA h4) (Au (bA h1) (gc k1 (B5 (bA h1) (gr (aB k) (gc (bA h1) (B5 (bA h0) gn))))))))))
end
theorem bPt{x:Chg}(Ao:r0=(!(neC x))):FMM Tp 205 [(.p (.agg [(.sl x.1.length ((x.1.map cE).flatten)),(.sl x.2.length ((x.2.map cE).flatten))])),(.ptr 0 0)] [some (.box 243 [(.fn 144 [] [])])] (pB r0) [some (.box 243 [(.fn 144 [] [])])]:=by
 subst Ao;exact FMM.fi 1 gE func205 [.c (pB (neC x)) []] (gc (fk 2 (cCt x) rfl) gn)
theorem aTv(x:Chg)  : FMM Tp 205 [.p (.agg [aP x.1,aP x.2]),.ptr 0 0] [some (.box 243 [(.fn 144 [] [])])] (pB (!(neC x))) [some (.box 243 [(.fn 144 [] [])])]:=bPt rfl
def gC(l:List (List Cel × List Cel))(i:Nat):St:=⟨fr 19 [(0,(.p (.sl l.length ((l.map chE).flatten)))),(1,(.fn 205 [] [(.ptr 0 0)])),(7,(pI (l.length:Int))),(8,(pI (i:Int)))],[some (.box 243 [(.fn 144 [] [])])]⟩
theorem bPu{l:List (List Cel × List Cel)}(A2:aE Tp 1 pC (gC l 0) (.exit 0) (gC l Av)):FMM Tp 254 [(.p (.sl l.length ((l.map chE).flatten))),(.fn 205 [] [(.ptr 0 0)])] [some (.box 243 [(.fn 144 [] [])])] (pI (-1)) [some (.box 243 [(.fn 144 [] [])])]:=FMM.fi 1 gE func254 [A2.k 6 (gZ ca)] (gc A2.code gn)
theorem bPv{l:List (List Cel × List Cel)}(A2:aE Tp 1 pC (gC l 0) .ret (bS (gC l Av) [(4,(pI (Av:Int)))])):FMM Tp 254 [(.p (.sl l.length ((l.map chE).flatten))),(.fn 205 [] [(.ptr 0 0)])] [some (.box 243 [(.fn 144 [] [])])] (pI (Av:Int)) [some (.box 243 [(.fn 144 [] [])])]:=FMM.fi 1 gE func254 [A2.k 6 (gZ ca)] (gc A2.code gn)
section
variable{l:List (List Cel × List Cel)}{Al Am:List Cel}(h0:(i:Int)<(l.length:Int))(h1:l[i]? = some (Al,Am))
include h0 h1
theorem aQk(h2:(neC (Al,Am))=false):aA Tp 1 pC (gC l i) .ret (bS (gC l i) [(4,(pI (i:Int)))]):=have k1:=mq [0] 1 (aTv (Al,Am));aA.fi (gZ bp) [bT,.x (.agg [(.sl Al.length ((Al.map cE).flatten)),(.sl Am.length ((Am.map cE).flatten))]),k1.o,bT] (gc (cN h2) (gc k1 (gc (bH (E:=chE) (i:=i) (k:=2) (fun _=>rfl) h1 rfl) (gc (bZ (E:=chE) (i:=i) (k:=2) (fun _=>rfl) h1) (gc (bC (E:=chE) (k:=2) (i:=(i:Int)) (fun _=>rfl) (by decide) (Bf _) h1) (g0 h0))))))
theorem aQl(h2:(neC (Al,Am))=true)(h3:cq i)(Ai:i'=(i+1)):aA Tp 1 pC (gC l i) .normal (gC l i'):=by
 subst Ai;have k1:=mq [0] 1 (aTv (Al,Am));exact aA.fi (gZ ca) [bT,.x (.agg [(.sl Al.length ((Al.map cE).flatten)),(.sl Am.length ((Am.map cE).flatten))]),k1.o,bF] (gc h3 (gc (aO h2) (gc k1 (gc (bH (E:=chE) (i:=i) (k:=2) (fun _=>rfl) h1 rfl) (gc (bZ (E:=chE) (i:=i) (k:=2) (fun _=>rfl) h1) (gc (bC (E:=chE) (k:=2) (i:=(i:Int)) (fun _=>rfl) (by decide) (Bf _) h1) (g0 h0)))))))
end
theorem aQm{l:List (List Cel × List Cel)}(h0:(l.length:Int)≤(i:Int)):aA Tp 1 pC (gC l i) (.exit 0) (gC l i):=aA.fi (gZ ca) [bF] (gc (aJ h0) gn)
theorem bPw(l:List Chg)(hl:l.length≤100000):FMM Tp 254 [.p (.sl l.length ((l.map chE).flatten)),(.fn 205 [] [(.ptr 0 0)])] [some (.box 243 [(.fn 144 [] [])])] (pI (nN (fun x => !(neC x)) l)) [some (.box 243 [(.fn 144 [] [])])]:=by
 rcases aE.find (P:=Tp) (k:=1) (b:=pC) (fun i=>gC l i) (fun i _=>bS (gC l i) [(4,.p (aB (i:Int)))]) (gC l l.length) .ret (.exit 0) (by simp) (by simp) (fun x => !(neC x)) l
  (fun i x hx hp=>aQl (by have:=bG hx;omega) hx (by simpa using hp) (aL (by have:=bG hx;omega)) rfl)
  (fun i x hx hp=>aQk (by have:=bG hx;omega) hx (by simpa using hp))
  (aQm (l:=l) (i:=l.length) (by omega)) with ⟨i,x,h1,h2,h3,h4⟩ | ⟨h1,h2,h3⟩
 ·rw [jK h2];exact bPv h4
 ·rw [jL h1];exact bPu h3
theorem bPx{l:List (List Cel × List Cel)}(h0:l.length≤100000)(Ao:r0=(decide ((nN (fun x => !(neC x)) l) ≥ 0))):FMM Tp 204 [(.p (.sl l.length ((l.map chE).flatten))),(.fn 205 [] [(.ptr 0 0)])] [some (.box 243 [(.fn 144 [] [])])] (pB r0) [some (.box 243 [(.fn 144 [] [])])]:=by
 subst Ao;have k1:=mq [0] 1 (bPw l h0);exact FMM.fi 1 gE func204 [k1.o] (gc k1 gn)
theorem bPy(l:List Chg)(hl:l.length≤100000):FMM Tp 204 [.p (.sl l.length ((l.map chE).flatten)),(.fn 205 [] [(.ptr 0 0)])] [some (.box 243 [(.fn 144 [] [])])] (pB (l.any (fun x => !(neC x)))) [some (.box 243 [(.fn 144 [] [])])]:=bPx hl (lQ _ _).symm
theorem bPz{l:List (List Cel × List Cel)}(h0:l.length≤100000)(Ao:r0=(!(l.any (fun x => !(neC x))))):FV Tp 143 [(.p (.sl l.length ((l.map chE).flatten))),(.fn 144 [] [])] base (pB r0) []:=by
 subst Ao;have k1:=mq [0] 1 (bPy l h0);exact FV.fi func143 [k1.o] (gc k1 gn)
theorem bQa(l:List Chg)(hl:l.length≤100000){base:Nat}:FV Tp 143 [.p (.sl l.length ((l.map chE).flatten)),(.fn 144 [] [])] base (pB (l.all (neC))) []:=bPz hl (by rw [List.all_eq_not_any_not])
def ckL(k:Int)(c:Chg):Prop:=(c.1.length=0∨aN k≤(c.1.length:Int))∧(c.2.length=0∨aN k≤(c.2.length:Int))∧c.1.length≤100000
def qT(k:Int)(c:Chg):Bool:=decide (c.1.length=0) || (decide (c.2.length=0) || (decide (bV k c.1 c.2=0) && !(decide (c.1=c.2))))
theorem cCy(c:Chg)(k:Int)(h:ckL k c){base:Nat}:FV Tp 146 [.p (.agg [aP c.1,aP c.2]),.rp [aB k] 0] base (pB (qT k c)) []:=by
 obtain ⟨h1,h2,h3⟩:=h;unfold qT
 by_cases q1:c.1.length=0
 ·rw [decide_eq_true q1,Bool.true_or];exact cCu (by omega)
 ·rw [decide_eq_false q1,Bool.false_or]
  by_cases q2:c.2.length=0
  ·rw [decide_eq_true q2,Bool.true_or];exact cCv (by omega) (by omega)
  ·rw [decide_eq_false q2,Bool.false_or]
   have k1:=h1.resolve_left q1;have k2:=h2.resolve_left q2
   by_cases q3:bV k c.1 c.2=0
   ·rw [decide_eq_true q3,aJr];exact cCw (by omega) (by omega) k1 k2 q3 h3 rfl
   ·rw [decide_eq_false q3,Bool.false_and];exact cCx (by omega) (by omega) k1 k2 q3
theorem bQb{x:Chg}(Oj:ckL k x)(Ao:r0=(!(qT k x))):FMM Tp 205 [(.p (.agg [(.sl x.1.length ((x.1.map cE).flatten)),(.sl x.2.length ((x.2.map cE).flatten))])),(.ptr 0 0)] [some (.box 243 [(.fn 146 [] [(.rp [(aB k)] 0)])])] (pB r0) [some (.box 243 [(.fn 146 [] [(.rp [(aB k)] 0)])])]:=by
 subst Ao;exact FMM.fi 1 gE func205 [.c (pB (qT k x)) []] (gc (fk 2 (cCy x k Oj) rfl) gn)
theorem aTw(x:Chg)(k:Int)(hx:ckL k x):FMM Tp 205 [.p (.agg [aP x.1,aP x.2]),.ptr 0 0] [some (.box 243 [(.fn 146 [] [(.rp [(aB k)] 0)])])] (pB (!(qT k x))) [some (.box 243 [(.fn 146 [] [(.rp [(aB k)] 0)])])]:=bQb hx rfl
def gD(l:List (List Cel × List Cel))(k:Int)(i:Nat):St:=⟨fr 19 [(0,(.p (.sl l.length ((l.map chE).flatten)))),(1,(.fn 205 [] [(.ptr 0 0)])),(7,(pI (l.length:Int))),(8,(pI (i:Int)))],[some (.box 243 [(.fn 146 [] [(.rp [(aB k)] 0)])])]⟩
theorem bQc{l:List (List Cel × List Cel)}(A2:aE Tp 1 pC (gD l k 0) (.exit 0) (gD l k Av)):FMM Tp 254 [(.p (.sl l.length ((l.map chE).flatten))),(.fn 205 [] [(.ptr 0 0)])] [some (.box 243 [(.fn 146 [] [(.rp [(aB k)] 0)])])] (pI (-1)) [some (.box 243 [(.fn 146 [] [(.rp [(aB k)] 0)])])]:=FMM.fi 1 gE func254 [A2.k 6 (gZ ca)] (gc A2.code gn)
theorem bQd{l:List (List Cel × List Cel)}(A2:aE Tp 1 pC (gD l k 0) .ret (bS (gD l k Av) [(4,(pI (Av:Int)))])):FMM Tp 254 [(.p (.sl l.length ((l.map chE).flatten))),(.fn 205 [] [(.ptr 0 0)])] [some (.box 243 [(.fn 146 [] [(.rp [(aB k)] 0)])])] (pI (Av:Int)) [some (.box 243 [(.fn 146 [] [(.rp [(aB k)] 0)])])]:=FMM.fi 1 gE func254 [A2.k 6 (gZ ca)] (gc A2.code gn)
section
variable{l:List (List Cel × List Cel)}{Al Am:List Cel}(h0:(i:Int)<(l.length:Int))(h1:l[i]? = some (Al,Am))(Fg:ckL k (Al,Am))
include h0 h1 Fg
theorem aQn(h3:(qT k (Al,Am))=false):aA Tp 1 pC (gD l k i) .ret (bS (gD l k i) [(4,(pI (i:Int)))]):=have k1:=mq [0] 1 (aTw (Al,Am) k Fg);aA.fi (gZ bp) [bT,.x (.agg [(.sl Al.length ((Al.map cE).flatten)),(.sl Am.length ((Am.map cE).flatten))]),k1.o,bT] (gc (cN h3) (gc k1 (gc (bH (E:=chE) (i:=i) (k:=2) (fun _=>rfl) h1 rfl) (gc (bZ (E:=chE) (i:=i) (k:=2) (fun _=>rfl) h1) (gc (bC (E:=chE) (k:=2) (i:=(i:Int)) (fun _=>rfl) (by decide) (Bf _) h1) (g0 h0))))))
theorem aQo(h3:(qT k (Al,Am))=true)(h4:cq i)(Ai:i'=(i+1)):aA Tp 1 pC (gD l k i) .normal (gD l k i'):=by
 subst Ai;have k1:=mq [0] 1 (aTw (Al,Am) k Fg);exact aA.fi (gZ ca) [bT,.x (.agg [(.sl Al.length ((Al.map cE).flatten)),(.sl Am.length ((Am.map cE).flatten))]),k1.o,bF] (gc h4 (gc (aO h3) (gc k1 (gc (bH (E:=chE) (i:=i) (k:=2) (fun _=>rfl) h1 rfl) (gc (bZ (E:=chE) (i:=i) (k:=2) (fun _=>rfl) h1) (gc (bC (E:=chE) (k:=2) (i:=(i:Int)) (fun _=>rfl) (by decide) (Bf _) h1) (g0 h0)))))))
end
theorem aQp{l:List (List Cel × List Cel)}(h0:(l.length:Int)≤(i:Int)):aA Tp 1 pC (gD l k i) (.exit 0) (gD l k i):=aA.fi (gZ ca) [bF] (gc (aJ h0) gn)
theorem bQe(l:List Chg)(k:Int)(hl:l.length≤100000)(hL:∀ x∈l,ckL k x):FMM Tp 254 [.p (.sl l.length ((l.map chE).flatten)),(.fn 205 [] [(.ptr 0 0)])] [some (.box 243 [(.fn 146 [] [(.rp [(aB k)] 0)])])] (pI (nN (fun x => !(qT k x)) l)) [some (.box 243 [(.fn 146 [] [(.rp [(aB k)] 0)])])]:=by
 rcases aE.find (P:=Tp) (k:=1) (b:=pC) (fun i=>gD l k i) (fun i _=>bS (gD l k i) [(4,.p (aB (i:Int)))]) (gD l k l.length) .ret (.exit 0) (by simp) (by simp) (fun x => !(qT k x)) l
  (fun i x hx hp=>aQo (by have:=bG hx;omega) hx (hL _ (Ci hx)) (by simpa using hp) (aL (by have:=bG hx;omega)) rfl)
  (fun i x hx hp=>aQn (by have:=bG hx;omega) hx (hL _ (Ci hx)) (by simpa using hp))
  (aQp (l:=l) (i:=l.length) (by omega)) with ⟨i,x,h1,h2,h3,h4⟩ | ⟨h1,h2,h3⟩
 ·rw [jK h2];exact bQd h4
 ·rw [jL h1];exact bQc h3
theorem bQf{l:List (List Cel × List Cel)}(h0:l.length≤100000)(Fx:∀ x∈l,ckL k x)(Ao:r0=(decide ((nN (fun x => !(qT k x)) l) ≥ 0))):FMM Tp 204 [(.p (.sl l.length ((l.map chE).flatten))),(.fn 205 [] [(.ptr 0 0)])] [some (.box 243 [(.fn 146 [] [(.rp [(aB k)] 0)])])] (pB r0) [some (.box 243 [(.fn 146 [] [(.rp [(aB k)] 0)])])]:=by
 subst Ao;have k1:=mq [0] 1 (bQe l k h0 Fx);exact FMM.fi 1 gE func204 [k1.o] (gc k1 gn)
theorem bQg(l:List Chg)(k:Int)(hl:l.length≤100000)(hL:∀ x∈l,ckL k x):FMM Tp 204 [.p (.sl l.length ((l.map chE).flatten)),(.fn 205 [] [(.ptr 0 0)])] [some (.box 243 [(.fn 146 [] [(.rp [(aB k)] 0)])])] (pB (l.any (fun x => !(qT k x)))) [some (.box 243 [(.fn 146 [] [(.rp [(aB k)] 0)])])]:=bQf hl hL (lQ _ _).symm
theorem bQh{l:List (List Cel × List Cel)}(h0:l.length≤100000)(Fx:∀ x∈l,ckL k x)(Ao:r0=(!(l.any (fun x => !(qT k x))))):FV Tp 143 [(.p (.sl l.length ((l.map chE).flatten))),(.fn 146 [] [(.rp [(aB k)] 0)])] base (pB r0) []:=by
 subst Ao;have k1:=mq [0] 1 (bQg l k h0 Fx);exact FV.fi func143 [k1.o] (gc k1 gn)
theorem bQi(l:List Chg)(k:Int)(hl:l.length≤100000)(hL:∀ x∈l,ckL k x){base:Nat}:FV Tp 143 [.p (.sl l.length ((l.map chE).flatten)),(.fn 146 [] [(.rp [(aB k)] 0)])] base (pB (l.all (qT k))) []:=bQh hl hL (by rw [List.all_eq_not_any_not])
theorem bQj(k:Int)(R:List (List Cel))(h:R.length≤100000){base:Nat}:FV Tp 145 [.p (aB k),.p (.sl R.length ((R.map rwE).flatten))] base (pI (mR k R)) []:=by rw [eU];exact aGq k R h
def qU(k:Int)(l:List (List Cel × List Cel))(i rn:Nat)(rc:List PV):St:=⟨fr 67 [(1,(.p (.sl l.length ((l.map chE).flatten)))),(2,(.ptr 0 0)),(4,(pI 0)),(5,(.own 1)),(23,(.p (.sl l.length ((l.map chE).flatten)))),(24,(pI (l.length:Int))),(25,(pI (i:Int)))],[some (.box 23 [(pI k)]),some (.row 78 rn rc)]⟩
def qV(k:Int)(l:List (List Cel × List Cel))(j:Nat):St:=⟨fr 67 [(1,(.p (.sl l.length ((l.map chE).flatten)))),(2,(.ptr 0 0)),(9,(pI (j:Int)))],[some (.box 23 [(pI k)])]⟩
theorem cCz{l:List (List Cel × List Cel)}{Ia:List (List Cel)}{Kx:Nat}(h0:(within k 0 4)=true)(h1:(l.length:Int)≤400)(h2:l.length≤100000)(h3:(l.all (neC))=true)(Fo:aE Tp 0 bKh (qU k l 0 0 []) (.exit 1) (qU k l Av Ia.length ((Ia.map rwE).flatten)))(h5:Ia.length≤100000)(h6:(mR k Ia)=0)(Qp:∀ x∈l,ckL k x)(h8:(l.all (qT k))=true)(Kw:aE Tp 0 bKi (qV k l 1) (.exit 3) (qV k l Kx)):FV Tp 53 [(pI k),(.p (.sl l.length ((l.map chE).flatten)))] base (pI 0) []:=have k1:=fk 1 (qC k) rfl;have k2:=fk 1 (bQa l h2) rfl;FV.fi func53 [k1.o,bF,bF,bF,k2.o,bF,bF,bF,Fo.k 6 (gN ao [0,1] [(5,78)]),.c (pI (mR k Ia)) [],bF,.c (pB (l.all (qT k))) [],bF,Kw.k 4 (gI [0,1,3,6,10,57] [0])] (gc Kw.code (gc (aO h8) (gt (FC Tp 143 [(.p (.sl l.length ((l.map chE).flatten))),(.fn 146 [] [(.ptr 0 0)])] [(0,(.box 23 [(pI k)]))] 2 (pB (l.all (qT k))) []) (fv (bQi l k h2 Qp)) (gc (bD h6) (gt (FC Tp 145 [(pI k),(.own 1)] [(1,(.row 78 Ia.length ((Ia.map rwE).flatten)))] 2 (pI (mR k Ia)) []) (fv (bQj k Ia h5)) (gc Fo.code (gc (aO h3) (Au (aJ h1) (gc k2 (Au (aJ h1) (gc (aO h0) (gc k1 gn))))))))))))
theorem bDe{l:List (List Cel × List Cel)}{r:List (List Cel)}{Al Am:List Cel}{r':List (List Cel)}(h0:(i:Int)<(l.length:Int))(h1:l[i]? = some (Al,Am))(h2:[(PV.sl Al.length ((Al.map cE).flatten)),(.sl Am.length ((Am.map cE).flatten))].length=2*1∧r.length+2≤1000000)(h3:cq i)(Ai:i'=(i+1))(Jk:r'.length=(r.length+2))(Jl:(r'.map rwE).flatten=(((r.map rwE).flatten)++[(PV.sl Al.length ((Al.map cE).flatten)),(.sl Am.length ((Am.map cE).flatten))])):aA Tp 0 bKh (qU k l i r.length ((r.map rwE).flatten)) .normal (qU k l i' r'.length ((r'.map rwE).flatten)):=by
 subst Ai;rw [Jk,Jl];exact aA.fi (gI ao [0,4]) [bT,.x (.agg [(.sl Al.length ((Al.map cE).flatten)),(.sl Am.length ((Am.map cE).flatten))])] (gc h3 (gc h2 (gc (bH (E:=chE) (i:=i) (k:=2) (fun _=>rfl) h1 rfl) (gc (bZ (E:=chE) (i:=i) (k:=2) (fun _=>rfl) h1) (gc (bC (E:=chE) (k:=2) (i:=(i:Int)) (fun _=>rfl) (by decide) (Bf _) h1) (g0 h0))))))
theorem bDf{l:List (List Cel × List Cel)}{r:List (List Cel)}(h0:(l.length:Int)≤(i:Int)):aA Tp 0 bKh (qU k l i r.length ((r.map rwE).flatten)) (.exit 1) (qU k l i r.length ((r.map rwE).flatten)):=aA.fi (gI ao [0,1]) [bF] (gc (aJ h0) gn)
theorem bDg{l:List (List Cel × List Cel)}{Bb Bc Bq Br:List Cel}{j':Nat}(h0:(j:Int)<(l.length:Int))(h1:inR ((j:Int)-1))(h2:l[((j:Int)-1).toNat]? = some (Bb,Bc))(h3:0≤((j:Int)-1))(h4:l[j]? = some (Bq,Br))(h5:aN k≤((crM (Bb,Bc)).length:Int))(h6:aN k≤((crM (Bq,Br)).length:Int))(h7:(bV k (crM (Bb,Bc)) (crM (Bq,Br)))<0)(h8:cq j)(Cy:j'=(j+1)):aA Tp 0 bKi (qV k l j) .normal (qV k l j'):=by
 subst Cy;have k1:=fk 1 (mY (Bb,Bc).1 (Bb,Bc).2) rfl;have k2:=fk 9 (mY (Bq,Br).1 (Bq,Br).2) rfl;have k3:=fk 17 (mQ k (crM (Bb,Bc)) (crM (Bq,Br)) h5 h6) rfl;exact aA.fi (gI [0,1,3,6,10,57] [0]) [bT,.x (.agg [(.sl Bb.length ((Bb.map cE).flatten)),(.sl Bc.length ((Bc.map cE).flatten))]),k1.o,.x (.agg [(.sl Bq.length ((Bq.map cE).flatten)),(.sl Br.length ((Br.map cE).flatten))]),k2.o,k3.o,bF] (gc h8 (gc (eQ h7) (gc k3 (gc k2 (gc (bH (E:=chE) (i:=j) (k:=2) (fun _=>rfl) h4 rfl) (gc (bZ (E:=chE) (i:=j) (k:=2) (fun _=>rfl) h4) (gc (bC (E:=chE) (k:=2) (i:=(j:Int)) (fun _=>rfl) (by decide) (Bf _) h4) (gc k1 (gc (bH (E:=chE) (i:=((j:Int)-1).toNat) (k:=2) (fun _=>rfl) h2 rfl) (gc (bZ (E:=chE) (i:=((j:Int)-1).toNat) (k:=2) (fun _=>rfl) h2) (gc (bC (E:=chE) (k:=2) (i:=((j:Int)-1)) (fun _=>rfl) (by decide) h3 h2) (gc h1 (g0 h0)))))))))))))
theorem bDh{l:List (List Cel × List Cel)}(h0:(l.length:Int)≤(j:Int)):aA Tp 0 bKi (qV k l j) (.exit 3) (qV k l j):=aA.fi (gI [0,1,3,6,10,57] [0]) [bF] (gc (aJ h0) gn)
end
end KV
end Go.Proofs
section
namespace Go.Proofs
open Go.RowKit
namespace KV
open Tryz
set_option maxRecDepth 1000000
def pA(l:List Chg):List (List Cel):=l.flatMap fun c=>[c.1,c.2]
def cGj(k:Int)(l:List Chg):Bool:=(l.zip l.tail).all fun p=>decide (bV k (crM p.1) (crM p.2)<0)
structure bPs (k:Int) (l:List Chg):Prop where
 w:within k 0 4=true
 n:l.length≤400
 ne:l.all neC=true
 ck:mR k (pA l)=0
 pai:l.all (qT k)=true
 L:∀ x∈l,ckL k x
 kk:∀ x∈l,aN k≤((crM x).length:Int)
 ord:cGj k l=true
theorem aBm(l:List Chg)(c:Chg):pA (l++[c])=pA l++[c.1,c.2]:=by simp [pA]
theorem wM:∀ l:List Chg,(pA l).length=2*l.length
 | []=>rfl
 | c::l=>by
  have:=wM l;show ([c.1,c.2]++pA l).length=2*(l.length+1);rw [gR,this];show 2+_=_;omega
theorem cCr{k:Int}{l:List Chg}(h:bPs k l){base:Nat}:FV Tp 53 [.p (aB k),.p (.sl l.length ((l.map chE).flatten))] base (.p (aB 0)) []:=by
 have hn:=h.n;have L1:=aE.count (P:=Tp) (k:=0) (b:=(sub (cd Tryz.f53) bl)) (e := .exit 1) (R:=qU k l l.length (pA l).length (((pA l).map rwE).flatten)) l.length
  (fun i=>qU k l i (pA (l.take i)).length (((pA (l.take i)).map rwE).flatten))
  (fun i hi=>by
   have hx:l[i]? = some l[i]:=Ch hi;have et:l.take (i+1)=l.take i++[l[i]]:=by rw [List.take_add_one,hx];rfl
   have hl:=wM (l.take i);rw [uM] at hl
   generalize l[i]=x at hx et
   obtain ⟨b,a⟩:=x;exact bDe (r:=pA (l.take i)) (r':=pA (l.take (i+1))) (by omega) hx ⟨rfl,by omega⟩ (aL (by omega)) rfl (by rw [et,aBm];simp) (by rw [et,aBm];simp [rwE,aP]))
  (by rw [List.take_length];exact bDf (by omega)) (by simp)
 have L2:∀ d j,1≤j→j+d=max 1 l.length→aE Tp 0 (sub (cd Tryz.f53) b5) (qV k l j) (.exit 3) (qV k l (max 1 l.length)):=by
  intro d
  induction d with
  | zero =>
   intro j hj hd;obtain rfl:j=max 1 l.length:=by omega
   exact .exit (bDh (by omega)) (by simp)
  | succ d ih =>
   intro j hj hd;have hlt:j<l.length:=by omega
   have hx:l[j]? = some l[j]:=Ch hlt;have hy:l[j-1]? = some (l[j-1]'(by omega)):=Ch (by omega)
   have ho:bV k (crM (l[j-1]'(by omega))) (crM l[j])<0:=by
    have:=jI.1 h.ord (l[j-1]'(by omega),l[j]) (by
     refine Ci (i:=j-1) ?_;rw [List.getElem?_zip_eq_some];refine ⟨hy,?_⟩;rw [List.getElem?_tail,show j-1+1=j by omega]
     exact hx)
    exact of_decide_eq_true this
   have kx:=h.kk _ (iF hlt);have ky:=h.kk _ (iF (show j-1<l.length by omega))
   have Qo:l[((j:Int)-(1:Int)).toNat]? = some (l[j-1]'(by omega)):=by rw [show ((j:Int)-(1:Int)).toNat=j-1 by omega];exact hy
   refine .step (bDg (by omega) (by show _∧_;omega) Qo (by omega) hx ky kx ho (aL (by omega)) rfl) (ih (j+1) (by omega) (by omega))
 exact cCz h.w (by omega) (by omega) h.ne L1 (by rw [wM];omega) h.ck h.L h.pai (L2 (max 1 l.length-1) 1 (Bo _) (by omega))
end KV
end Go.Proofs
end
namespace Go.Proofs
namespace KV
open Tryz
section
variable {k:Int}{h i j h' i' j':Nat}

noncomputable abbrev aTt:Code:=sub (cd Tryz.f59) [1,1,1,1,0,1,0,0]
noncomputable abbrev aLk:Code:=pS (cd Tryz.f59) 6 [0,1,0,0]
noncomputable abbrev aTu:Code:=pS (cd Tryz.f59) 7 [0,1,0,0]
theorem bSl:((0:Int) != 0)=false:=by first | decide | simp
theorem aHf(k:Int)(R:List (List Cel))(h:fA k R=0){base:Nat}:FV Tp 102 [.p (.agg [aB k,bW R])] base (pI 0) []:=h ▸ iU k R
def eX(k:Int)(L:List (List Cel × List Cel)):List (Value × PV):=L.map fun p=>(iZ k p.1,aP p.2)
def mW(k:Int)(R:List (List Cel))(l:List (List Cel × List Cel))(i:Nat)(me:List (Value × PV))(mk:Nat):St:=⟨fr 114 [(1,(.p (.sl l.length ((l.map chE).flatten)))),(2,(.ptr 0 0)),(4,(.ptr 1 0)),(8,(.mp 2)),(34,(.p (.sl l.length ((l.map chE).flatten)))),(35,(pI (l.length:Int))),(36,(pI (i:Int)))],[some (.box 26 [(pI k),(.p (.sl R.length (R.map aP)))]),some (.box 26 [(pI 0),(.p bM)]),some (.mp me mk)]⟩
def kV(k:Int)(R:List (List Cel))(l Da:List (List Cel × List Cel))(j on:Nat)(oc:List PV):St:=⟨fr 114 [(1,(.p (.sl l.length ((l.map chE).flatten)))),(2,(.ptr 0 0)),(4,(.ptr 1 0)),(8,(.mp 2)),(12,(.ptr 3 0)),(62,(.p (.sl R.length (R.map aP)))),(63,(pI (R.length:Int))),(64,(pI (j:Int)))],[some (.box 26 [(pI k),(.p (.sl R.length (R.map aP)))]),some (.box 26 [(pI 0),(.p bM)]),some (.mp ((eX k) Da) Da.length),some (.box 26 [(pI k),(.own 4)]),some (.row 78 on oc)]⟩
def mX(k:Int)(R:List (List Cel))(l:List (List Cel × List Cel))(h un:Nat)(uc:List PV):St:=⟨fr 114 [(2,(.ptr 0 0)),(4,(.ptr 1 0)),(12,(.ptr 2 0)),(85,(.p (.sl l.length ((l.map chE).flatten)))),(86,(pI (l.length:Int))),(87,(pI (h:Int)))],[some (.box 26 [(pI k),(.p (.sl R.length (R.map aP)))]),some (.box 26 [(pI 0),(.p bM)]),some (.box 26 [(pI k),(.own 3)]),some (.row 78 un uc)]⟩
theorem cCq{R:List (List Cel)}{l:List (List Cel × List Cel)}{Av:Nat}{Da:List (List Cel × List Cel)}{Kx:Nat}{Lv:List (List Cel)}{Qm:Nat}{Hu:List (List Cel)}(Lg:fA k R=0)(J8:bPs k l)(H5:gF k R)(Cl:aE Tp 0 aTt (mW k R l 0 (bQ k R) R.length) (.exit 0) (mW k R l Av ((eX k) Da) Da.length))(Fo:aE Tp 0 aLk (kV k R l Da 0 0 []) (.exit 2) (kV k R l Da Kx Lv.length ((Lv.map rwE).flatten)))(Cc:aE Tp 0 aTu (mX k R l 0 Lv.length ((Lv.map rwE).flatten)) (.exit 4) (mX k R l Qm Hu.length ((Hu.map rwE).flatten)))(h6:(Hu.length:Int)≤200)(Ny:Hu.length≤12)(Nz:1≤Hu.length)(Qn:∀ x∈Hu,aN k≤(x.length:Int)):FMM Tp 59 [(.p (.agg [(aB k),(.sl R.length (R.map aP))])),(.p (.sl l.length ((l.map chE).flatten)))] [] (.tup [(.p (.agg [(aB k),(.sl ((isG (bV k) Hu).length) (((isG (bV k) Hu).map rwE).flatten))])),(pI 0)]) []:=have k1:=mq [3,0] 4 (cDn (D:=Hu) (k:=k) (R:=R) Ny Nz Qn);FMM.fi 0 ⟨[],[],[3],[]⟩ func59 [.c (pI 0) [],bF,.c (pI 0) [],bF,.c (.mp 2) [(2,(.mp (bQ k R) R.length))],Cl.k 4 (gI a7 [0,1,2]),Fo.k 6 (gN aa c8 [(103001,78)]),Cc.k 4 (gI am [0,1,3,4]),bF,k1.o] (gc k1 (gc (aJ h6) (gc Cc.code (gc Fo.code (gc Cl.code (gt (FC Tp 149 [(.p (.agg [(aB k),(.sl R.length (R.map aP))]))] [] 2 (.mp 2) [(2,(.mp (bQ k R) R.length))]) (FMM.fcN (k:=1) rfl (ids:=[]) (aQr H5) (by kernel_rfl)) (gc bSl (gc (fk 2 (cCr J8) rfl) (gc bSl (gc (fk 2 (aHf k R Lg) rfl) gn))))))))))
section
variable{l m:List (List Cel × List Cel)}{Al Am:List Cel}(h0:(i:Int)<(l.length:Int))(h1:l[i]? = some (Al,Am))(h2:aN k≤((crM (Al,Am)).length:Int))(h3:eO Tp 186 ((eX k) m) (k3V (aM k (crM (Al,Am)) 0) (aM k (crM (Al,Am)) 1) (aM k (crM (Al,Am)) 2)))
include h0 h1 h2 h3
theorem bCu{R:List (List Cel)}{Gb:List Cel}{m':List (List Cel × List Cel)}(h4:(iE ((eX k) m) (k3V (aM k (crM (Al,Am)) 0) (aM k (crM (Al,Am)) 1) (aM k (crM (Al,Am)) 2)))=true)(h5:iA ((eX k) m) (k3V (aM k (crM (Al,Am)) 0) (aM k (crM (Al,Am)) 1) (aM k (crM (Al,Am)) 2))=some (.sl Gb.length ((Gb.map cE).flatten)))(H8:Gb.length≤100000)(h7:(decide (Gb=Al))=true)(h8:cq i)(Ai:i'=(i+1))(E9:(eX k) m'=(aIw ((eX k) m) (k3V (aM k (crM (Al,Am)) 0) (aM k (crM (Al,Am)) 1) (aM k (crM (Al,Am)) 2)) (.sl Am.length ((Am.map cE).flatten))))(Fa:m'.length=m.length):aA Tp 0 aTt (mW k R l i ((eX k) m) m.length) .normal (mW k R l i' ((eX k) m') m'.length):=by
 subst Ai;have k1:=fk 4 (mY (Al,Am).1 (Al,Am).2) rfl;have k2:=fk 12 (eK k (crM (Al,Am)) h2) rfl;have k3:=fk 21 (qG Gb Al H8) rfl;rw [E9,Fa];exact aA.fi (gI a7 [0,1,2]) [bT,.x (.agg [(.sl Al.length ((Al.map cE).flatten)),(.sl Am.length ((Am.map cE).flatten))]),k1.o,k2.o,bT,.x (.sl Gb.length ((Gb.map cE).flatten)),k3.o,bF,bT] (gc h8 (gc h4 (gc h3 (gc (aO h7) (gc k3 (gc h5 (gc h4 (gc h3 (gc k2 (gc k1 (gc (bH (E:=chE) (i:=i) (k:=2) (fun _=>rfl) h1 rfl) (gc (bZ (E:=chE) (i:=i) (k:=2) (fun _=>rfl) h1) (gc (bC (E:=chE) (k:=2) (i:=(i:Int)) (fun _=>rfl) (by decide) (Bf _) h1) (g0 h0))))))))))))))
theorem bCv{R:List (List Cel)}{m':List (List Cel × List Cel)}(h4:(iE ((eX k) m) (k3V (aM k (crM (Al,Am)) 0) (aM k (crM (Al,Am)) 1) (aM k (crM (Al,Am)) 2)))=false)(Jn:([]:List Cel).length≤100000)(h6:(decide (([]:List Cel)=Al))=true)(h7:cq i)(Ai:i'=(i+1))(E9:(eX k) m'=(((eX k) m)++[((k3V (aM k (crM (Al,Am)) 0) (aM k (crM (Al,Am)) 1) (aM k (crM (Al,Am)) 2)),(.sl Am.length ((Am.map cE).flatten)))]))(Fa:m'.length=(m.length+1)):aA Tp 0 aTt (mW k R l i ((eX k) m) m.length) .normal (mW k R l i' ((eX k) m') m'.length):=by
 subst Ai;have k1:=fk 4 (mY (Al,Am).1 (Al,Am).2) rfl;have k2:=fk 12 (eK k (crM (Al,Am)) h2) rfl;rw [E9,Fa];exact aA.fi (gI a7 [0,1,2]) [bT,.x (.agg [(.sl Al.length ((Al.map cE).flatten)),(.sl Am.length ((Am.map cE).flatten))]),k1.o,k2.o,bF,.c (pB (decide (([]:List Cel)=Al))) [],bF,bF] (gc h7 (gc h4 (gc h3 (gc (aO h6) (gt (FC Tp 107 [(.p bM),(.p (.sl Al.length ((Al.map cE).flatten)))] [] 21 (pB (decide (([]:List Cel)=Al))) []) (FV.fc (FV.argwk (qG ([]:List Cel) Al Jn) rfl) rfl) (gc h4 (gc h3 (gc k2 (gc k1 (gc (bH (E:=chE) (i:=i) (k:=2) (fun _=>rfl) h1 rfl) (gc (bZ (E:=chE) (i:=i) (k:=2) (fun _=>rfl) h1) (gc (bC (E:=chE) (k:=2) (i:=(i:Int)) (fun _=>rfl) (by decide) (Bf _) h1) (g0 h0)))))))))))))
end
theorem bCw{R:List (List Cel)}{l m:List (List Cel × List Cel)}(h0:(l.length:Int)≤(i:Int)):aA Tp 0 aTt (mW k R l i ((eX k) m) m.length) (.exit 0) (mW k R l i ((eX k) m) m.length):=aA.fi (gI a7 [0,1,2]) [bF] (gc (aJ h0) gn)
section
variable{R:List (List Cel)}{Da:List (List Cel × List Cel)}{Ad B0:List Cel}(h0:(j:Int)<(R.length:Int))(h1:R[j]? = some Ad)(h2:aN k≤(Ad.length:Int))(h3:eO Tp 186 ((eX k) Da) (k3V (aM k Ad 0) (aM k Ad 1) (aM k Ad 2)))(h4:(iE ((eX k) Da) (k3V (aM k Ad 0) (aM k Ad 1) (aM k Ad 2)))=true)(h5:iA ((eX k) Da) (k3V (aM k Ad 0) (aM k Ad 1) (aM k Ad 2))=some (.sl B0.length ((B0.map cE).flatten)))
include h0 h1 h2 h3 h4 h5
theorem bCx{l:List (List Cel × List Cel)}{o o':List (List Cel)}(h6:(0:Int)<(B0.length:Int))(Ky:B0.length≤1000000)(h8:[(PV.sl B0.length ((B0.map cE).flatten))].length=1*1∧o.length+1≤1000000)(h9:cq j)(Cy:j'=(j+1))(Ca:o'.length=(o.length+1))(Cb:(o'.map rwE).flatten=(((o.map rwE).flatten)++[(PV.sl B0.length ((B0.map cE).flatten))])):aA Tp 0 aLk (kV k R l Da j o.length ((o.map rwE).flatten)) .normal (kV k R l Da j' o'.length ((o'.map rwE).flatten)):=by
 subst Cy;have k1:=fk 5 (eK k Ad h2) rfl;have k2:=fk 5 (qX B0 Ky) rfl;rw [Ca,Cb];exact aA.fi (gI aa [0,1,2,3,14]) [bT,.x (.sl Ad.length ((Ad.map cE).flatten)),k1.o,bT,.x (.sl B0.length ((B0.map cE).flatten)),bT,k2.o] (gc h9 (gc h8 (gc k2 (gc (bJ h6) (gc h5 (gc h4 (gc h3 (gc k1 (gc (atm aP h1) (gc (ixn aP h1) (g0 h0)))))))))))
theorem bCy{l:List (List Cel × List Cel)}{o:List (List Cel)}(h6:(B0.length:Int)≤0)(h7:cq j)(Cy:j'=(j+1)):aA Tp 0 aLk (kV k R l Da j o.length ((o.map rwE).flatten)) .normal (kV k R l Da j' o.length ((o.map rwE).flatten)):=by
 subst Cy;have k1:=fk 5 (eK k Ad h2) rfl;exact aA.fi (gI aa c8) [bT,.x (.sl Ad.length ((Ad.map cE).flatten)),k1.o,bT,.x (.sl B0.length ((B0.map cE).flatten)),bF] (gc h7 (gc (aJ h6) (gc h5 (gc h4 (gc h3 (gc k1 (gc (atm aP h1) (gc (ixn aP h1) (g0 h0)))))))))
end
theorem bCz{R:List (List Cel)}{l Da:List (List Cel × List Cel)}{o:List (List Cel)}{Ad:List Cel}(h0:(j:Int)<(R.length:Int))(h1:R[j]? = some Ad)(h2:aN k≤(Ad.length:Int))(h3:eO Tp 186 ((eX k) Da) (k3V (aM k Ad 0) (aM k Ad 1) (aM k Ad 2)))(h4:(iE ((eX k) Da) (k3V (aM k Ad 0) (aM k Ad 1) (aM k Ad 2)))=false)(h5:cq j)(Cy:j'=(j+1)):aA Tp 0 aLk (kV k R l Da j o.length ((o.map rwE).flatten)) .normal (kV k R l Da j' o.length ((o.map rwE).flatten)):=by
 subst Cy;have k1:=fk 5 (eK k Ad h2) rfl;exact aA.fi (gI aa c8) [bT,.x (.sl Ad.length ((Ad.map cE).flatten)),k1.o,bF,bF] (gc h5 (gt ((decide ((0:Int) > 0))=false) (by first | decide | simp) (gc h4 (gc h3 (gc k1 (gc (atm aP h1) (gc (ixn aP h1) (g0 h0))))))))
theorem bDa{R:List (List Cel)}{l Da:List (List Cel × List Cel)}{o:List (List Cel)}(h0:(R.length:Int)≤(j:Int)):aA Tp 0 aLk (kV k R l Da j o.length ((o.map rwE).flatten)) (.exit 2) (kV k R l Da j o.length ((o.map rwE).flatten)):=aA.fi (gI aa c8) [bF] (gc (aJ h0) gn)
section
variable{l:List (List Cel × List Cel)}{A7 A0:List Cel}(h0:(h:Int)<(l.length:Int))(h1:l[h]? = some (A7,A0))
include h0 h1
theorem bDb{R u u':List (List Cel)}(h2:(A7.length:Int)=0)(Kz:A0.length≤1000000)(h4:[(PV.sl A0.length ((A0.map cE).flatten))].length=1*1∧u.length+1≤1000000)(h5:cq h)(N0:h'=(h+1))(N1:u'.length=(u.length+1))(N2:(u'.map rwE).flatten=(((u.map rwE).flatten)++[(PV.sl A0.length ((A0.map cE).flatten))])):aA Tp 0 aTu (mX k R l h u.length ((u.map rwE).flatten)) .normal (mX k R l h' u'.length ((u'.map rwE).flatten)):=by
 subst N0;have k1:=fk 5 (qX A0 Kz) rfl;rw [N1,N2];exact aA.fi (gI am [0,1,2,14]) [bT,.x (.agg [(.sl A7.length ((A7.map cE).flatten)),(.sl A0.length ((A0.map cE).flatten))]),bT,k1.o] (gc h5 (gc h4 (gc k1 (gc (cP h2) (gc (bH (E:=chE) (i:=h) (k:=2) (fun _=>rfl) h1 rfl) (gc (bZ (E:=chE) (i:=h) (k:=2) (fun _=>rfl) h1) (gc (bC (E:=chE) (k:=2) (i:=(h:Int)) (fun _=>rfl) (by decide) (Bf _) h1) (g0 h0))))))))
theorem bDc{R u:List (List Cel)}(h2:(A7.length:Int)≠0)(h3:cq h)(N0:h'=(h+1)):aA Tp 0 aTu (mX k R l h u.length ((u.map rwE).flatten)) .normal (mX k R l h' u.length ((u.map rwE).flatten)):=by
 subst N0;exact aA.fi (gI am cp) [bT,.x (.agg [(.sl A7.length ((A7.map cE).flatten)),(.sl A0.length ((A0.map cE).flatten))]),bF] (gc h3 (gc (bA h2) (gc (bH (E:=chE) (i:=h) (k:=2) (fun _=>rfl) h1 rfl) (gc (bZ (E:=chE) (i:=h) (k:=2) (fun _=>rfl) h1) (gc (bC (E:=chE) (k:=2) (i:=(h:Int)) (fun _=>rfl) (by decide) (Bf _) h1) (g0 h0))))))
end
theorem bDd{R:List (List Cel)}{l:List (List Cel × List Cel)}{u:List (List Cel)}(h0:(l.length:Int)≤(h:Int)):aA Tp 0 aTu (mX k R l h u.length ((u.map rwE).flatten)) (.exit 4) (mX k R l h u.length ((u.map rwE).flatten)):=aA.fi (gI am cp) [bF] (gc (aJ h0) gn)
end
end KV
end Go.Proofs
section
namespace Go.Proofs
open Go.RowKit
namespace KV
open Tryz
set_option maxRecDepth 1000000
abbrev RM:=List (List Cel × List Cel)
def lA(k:Int)(m:RM)(r:List Cel):Option (List Cel):=(m.find? fun p=>decide (A8 k p.1=A8 k r)).map (·.2)
def aBj(k:Int)(c:Chg):RM→RM
 | []=>[]
 | p::r=>if A8 k p.1=A8 k (crM c) then (crM c,c.2)::r else p::aBj k c r
def aBk(k:Int)(m:RM)(c:Chg):RM:=if (lA k m (crM c)).isSome=true then aBj k c m else m++[(crM c,c.2)]
def apF(k:Int)(m:RM)(c:Chg):Option RM:=if (lA k m (crM c)).getD []=c.1 then some (aBk k m c) else none
structure aEu (k:Int) (m:RM):Prop where
 ky:∀ p∈m,lB k p.1
 nd:(m.map fun p=>A8 k p.1).Nodup
 len:∀ p∈m,p.2.length≤1000
theorem bKe(k:Int)(m:RM)(r:List Cel):iE (eX k m) (iZ k r)=(lA k m r).isSome:=by
 unfold iE eX lA;rw [List.any_map,Option.isSome_map,Bool.eq_iff_iff,List.find?_isSome,List.any_eq_true];rfl
theorem aTr(k:Int)(m:RM)(r:List Cel):iA (eX k m) (iZ k r)=(lA k m r).map aP:=by
 unfold iA eX lA;rw [List.find?_map];have e:((fun e:Value × PV=>decide (kL e.1=kL (iZ k r))) ∘ fun p:List Cel × List Cel=>(iZ k p.1,aP p.2))=fun p=>decide (A8 k p.1=A8 k r):=rfl
 rw [e];cases List.find? (fun p:List Cel × List Cel=>decide (A8 k p.1=A8 k r)) m <;> rfl
theorem bKf(k:Int)(c:Chg):∀ m:RM,aIw (eX k m) (iZ k (crM c)) (aP c.2)=eX k (aBj k c m)
 | []=>rfl
 | p::m=>by
  have ih:=bKf k c m;unfold eX at ih ⊢
  rw [kN];unfold aIw aBj;have e:kL (iZ k p.1,aP p.2).1=kL (iZ k (crM c))↔A8 k p.1=A8 k (crM c):=Iff.rfl
  by_cases h:A8 k p.1=A8 k (crM c)
  ·rw [if_pos (e.2 h),if_pos h];rfl
  ·rw [if_neg (fun h2=>h (e.1 h2)),if_neg h,ih];rfl
theorem aLi(k:Int)(c:Chg):∀ m:RM,(aBj k c m).length=m.length
 | []=>rfl
 | p::m=>by
  unfold aBj
  split
  ·rfl
  ·rw [fQ,aLi k c m,fQ]
theorem aEv(k:Int)(c:Chg):∀ m:RM,((aBj k c m).map fun p=>A8 k p.1)=m.map fun p=>A8 k p.1
 | []=>rfl
 | p::m=>by
  unfold aBj
  split
  ·rename_i h
   rw [kN,kN,h]
  ·rw [kN,kN,aEv k c m]
theorem aBl{k:Int}{c:Chg}{p:List Cel × List Cel}:∀ {m:RM},p∈aBj k c m→p∈m∨p=(crM c,c.2)
 | [],h=>by cases h
 | q::m,h=>by
  unfold aBj at h
  split at h
  ·rcases nK.1 h with rfl | h
   ·exact .inr rfl
   ·exact .inl (Df _ h)
  ·rcases nK.1 h with rfl | h
   ·exact .inl (lV ..)
   ·exact (aBl h).imp (Df _) id
theorem aTs{k:Int}{m:RM}{r:List Cel}(h:aEu k m)(hr:lB k r):eO Tp 186 (eX k m) (iZ k r):=by
 refine ⟨Eg,fun e he => ?_,lK hr,fun e he h => ?_,?_⟩
 ·obtain ⟨x,hx,rfl⟩:=uN.1 he
  exact lK (h.ky x hx)
 ·obtain ⟨x,hx,rfl⟩:=uN.1 he
  exact aHl h
 ·unfold eX
  rw [aCa];exact h.nd
theorem bCt{k:Int}{m:RM}{r:List Cel}(h:lA k m r=none):∀ p∈m,A8 k p.1≠A8 k r:=fun p hp e=>by
 unfold lA at h
 rw [Option.map_eq_none_iff,List.find?_eq_none] at h
 exact h p hp (by simp [e])
theorem bPr{k:Int}{m:RM}{c:Chg}(h:aEu k m)(hc:lB k (crM c))(hl:c.2.length≤1000):aEu k (aBk k m c):=by
 unfold aBk
 split
 ·refine ⟨fun p hp => ?_,by rw [aEv];exact h.nd,fun p hp => ?_⟩
  ·rcases aBl hp with h2 | rfl
   ·exact h.ky p h2
   ·exact hc
  ·rcases aBl hp with h2 | rfl
   ·exact h.len p h2
   ·exact hl
 ·rename_i hn
  have hn:lA k m (crM c)=none:=by simpa using hn
  refine ⟨fun p hp => ?_,?_,fun p hp => ?_⟩
  ·rcases aAg.1 hp with h2 | h2
   ·exact h.ky p h2
   ·rw [List.mem_singleton] at h2;subst h2;exact hc
  ·rw [vT,List.nodup_append]
   refine ⟨h.nd,by simp,fun a ha b hb => ?_⟩
   obtain ⟨p,hp,rfl⟩:=uN.1 ha;rw [List.map_singleton,List.mem_singleton] at hb
   subst hb;exact bCt hn p hp
  ·rcases aAg.1 hp with h2 | h2
   ·exact h.len p h2
   ·rw [List.mem_singleton] at h2;subst h2;exact hl
theorem aLj{k:Int}{m:RM}{r y:List Cel}(h:lA k m r=some y):∃ p∈m,y=p.2:=by
 unfold lA at h
 obtain ⟨p,hp,rfl⟩:=Dl.1 h;exact ⟨p,bMj hp,rfl⟩
theorem bKg{k:Int}{m:RM}{c:Chg}:(aBk k m c).length=if (lA k m (crM c)).isSome=true then m.length else m.length+1:=by
 unfold aBk
 split
 ·exact aLi k c m
 ·simp
theorem aQj{k:Int}{R:List (List Cel)}{l:List Chg}(hl:l.length≤400)(hk:∀ x∈l,aN k≤((crM x).length:Int))(hy:∀ x∈l,lB k (crM x))(h2:∀ x∈l,x.1.length≤1000∧x.2.length≤1000) :
  ∀ (q:List Chg) (i:Nat) (m m1:RM),l.drop i=q→aEu k m→i+q.length=l.length→q.foldlM (apF k) m=some m1→aEu k m1∧aE Tp 0 (sub (cd Tryz.f59) bh) (mW k R l i (eX k m) m.length) (.exit 0) (mW k R l l.length (eX k m1) m1.length)
 | [],i,m,m1,hq,hm,hi,hf=>by
  cases hf;have:i=l.length:=by simpa using hi
  subst this;exact ⟨hm,.exit (bCw (by omega)) (by simp)⟩
 | c::q,i,m,m1,hq,hm,hi,hf=>by
  have hlt:i<l.length:=by rw [fQ] at hi;omega
  have hx:l[i]? = some c:=by
   have:=congrArg (fun l:List Chg=>l[0]?) hq
   simpa using this
  have Dm:l.drop (i+1)=q:=by
   have:=congrArg List.tail hq;rw [List.tail_drop] at this;exact this
  have hc:=Ci hx;have hK:=aTs hm (hy c hc);have hhit:=bKe k m (crM c);have hlook:=aTr k m (crM c);have hul:=bKg (k:=k) (m:=m) (c:=c);have hok:=bPr hm (hy c hc) (h2 c hc).2;rw [List.foldlM_cons] at hf
  unfold apF at hf
  cases hlk:lA k m (crM c) with
  | some y =>
   rw [hlk] at hf hhit hlook hul
   obtain ⟨p,hp,rfl⟩:=aLj hlk;have hpl:=hm.len p hp
   by_cases he:p.2=c.1
   ·rw [Option.getD_some,if_pos he] at hf
    obtain ⟨h3,L⟩:=aQj hl hk hy h2 q (i+1) _ _ Dm hok (by rw [fQ] at hi;omega) hf
    have hupd:aBk k m c=aBj k c m:=by unfold aBk;rw [hlk];rfl
    refine ⟨h3,.step (bCu (Al:=c.1) (Am:=c.2) (m':=aBk k m c) (by omega) hx (hk c hc) hK hhit hlook (by omega) (by simp [he]) (aL (by omega)) rfl (by rw [hupd];exact (bKf k c m).symm) hul) L⟩
   ·rw [Option.getD_some,if_neg he] at hf
    cases hf
  | none =>
   rw [hlk] at hf hhit hlook hul
   by_cases he:([]:List Cel)=c.1
   ·rw [Option.getD_none,if_pos he] at hf
    obtain ⟨h3,L⟩:=aQj hl hk hy h2 q (i+1) _ _ Dm hok (by rw [fQ] at hi;omega) hf
    have hupd:aBk k m c=m++[(crM c,c.2)]:=by unfold aBk;rw [hlk];rfl
    refine ⟨h3,.step (bCv (Al:=c.1) (Am:=c.2) (m':=aBk k m c) (by omega) hx (hk c hc) hK hhit (by simp) (by simp [he]) (aL (by omega)) rfl (by rw [hupd];unfold eX;rw [vT];rfl) hul) L⟩
   ·rw [Option.getD_none,if_neg he] at hf
    cases hf
def Fu(k:Int)(m:RM)(r:List Cel):Option (List Cel):=match lA k m r with
 | some y=>if 0<y.length then some y else none
 | none=>none
def H9(c:Chg):Option (List Cel):=if c.1.length=0 then some c.2 else none
def apL(k:Int)(m:RM)(R:List (List Cel))(l:List Chg):List (List Cel):=R.filterMap (Fu k m)++l.filterMap H9
theorem cCp{k:Int}{R:List (List Cel)}{l:List Chg}{m1:RM}(cR:fA k R=0)(hT:gF k R)(hC:bPs k l)(hy:∀ x∈l,lB k (crM x))(h2:∀ x∈l,x.1.length≤1000∧x.2.length≤1000)
  (hf:l.foldlM (apF k) (R.map fun r=>(r,r))=some m1) (Be:(apL k m1 R l).length≤12) (h1:1≤(apL k m1 R l).length) (hkk:∀ x∈apL k m1 R l,aN k≤(x.length:Int)) {base:Nat} :
  FV Tp 59 [.p (.agg [aB k,bW R]),.p (.sl l.length ((l.map chE).flatten))] base (.tup [.p (.agg [aB k,bW (isG (bV k) (apL k m1 R l))]),.p (aB 0)]) []:=by
 have hRn:=hT.n;have hln:=hC.n;have Ql:aEu k (R.map fun r=>(r,r)):=by
  refine ⟨fun p hp => ?_,?_,fun p hp => ?_⟩
  ·obtain ⟨r,hr,rfl⟩:=uN.1 hp
   exact hT.ky r hr
  ·rw [aCa];exact hT.nd
  ·obtain ⟨r,hr,rfl⟩:=uN.1 hp
   exact (hT.len r hr).2
 obtain ⟨Oz,L0⟩:=aQj (R:=R) hln hC.kk hy h2 l 0 _ m1 rfl Ql (by omega) hf
 have e0:eX k (R.map fun r=>(r,r))=bQ k R:=by unfold eX bQ;rw [aCa];rfl
 rw [e0,pE] at L0
 have L1:=aE.count (P:=Tp) (k:=0) (b:=(sub (cd Tryz.f59) b5)) (e := .exit 2) (R:=kV k R l m1 R.length (R.filterMap (Fu k m1)).length (((R.filterMap (Fu k m1)).map rwE).flatten)) R.length
  (fun j=>kV k R l m1 j ((R.take j).filterMap (Fu k m1)).length ((((R.take j).filterMap (Fu k m1)).map rwE).flatten))
  (fun j hj=>by
   have hx:R[j]? = some R[j]:=Ch hj;have hm:=iF hj;have hl:=hT.len _ hm;have hK:=aTs Oz (hT.ky _ hm);have hfl:=aBn (Fu k m1) R j;rw [vC (Fu k m1) hx];generalize R[j]=x at hx hm hl hK
   have hhit:=bKe k m1 x;have hlook:=aTr k m1 x;have hfx:Fu k m1 x=match lA k m1 x with | some y=>if 0<y.length then some y else none | none=>none:=rfl
   rw [hfx];generalize (R.take j).filterMap (Fu k m1)=o at hfl
   cases hlk:lA k m1 x with
   | some y =>
    rw [hlk] at hhit hlook
    obtain ⟨p,hp,rfl⟩:=aLj hlk;have hpl:=Oz.len p hp;dsimp only
    by_cases he:0<p.2.length
    ·rw [if_pos he]
     exact bCx (o':=o++[p.2]) (by omega) hx hl.1 hK hhit hlook (by omega) (by omega) ⟨rfl,by omega⟩ (aL (by omega)) rfl (by simp) (nQ o p.2)
    ·rw [if_neg he,Option.toList_none,List.append_nil]
     exact bCy (by omega) hx hl.1 hK hhit hlook (by omega) (aL (by omega)) rfl
   | none =>
    rw [hlk] at hhit hlook
    dsimp only;rw [Option.toList_none,List.append_nil];exact bCz (by omega) hx hl.1 hK hhit (aL (by omega)) rfl)
  (by rw [List.take_length];exact bDa (by omega)) (by simp)
 have hfo:(R.filterMap (Fu k m1)).length≤R.length:=List.length_filterMap_le _ _;have L2:=aE.count (P:=Tp) (k:=0) (b:=(sub (cd Tryz.f59) [1,1,1,1,1,1,1,0,1,0,0])) (e := .exit 4) (R:=mX k R l l.length (apL k m1 R l).length (((apL k m1 R l).map rwE).flatten)) l.length
  (fun j=>mX k R l j (R.filterMap (Fu k m1)++(l.take j).filterMap H9).length (((R.filterMap (Fu k m1)++(l.take j).filterMap H9).map rwE).flatten))
  (fun j hj=>by
   have hx:l[j]? = some l[j]:=Ch hj;have hm:=iF hj;have hc:=h2 _ hm;have hfl:=aBn H9 l j;rw [vC H9 hx,← List.append_assoc];have hlen:(R.filterMap (Fu k m1)++(l.take j).filterMap H9).length≤R.length+l.length:=by rw [gR];omega
   generalize R.filterMap (Fu k m1)++(l.take j).filterMap H9=u at hlen
   generalize l[j]=c at hx hm hc
   have hfx:H9 c=if c.1.length=0 then some c.2 else none:=rfl
   rw [hfx]
   by_cases he:c.1.length=0
   ·rw [if_pos he]
    exact bDb (A7:=c.1) (A0:=c.2) (u':=u++[c.2]) (by omega) hx (by omega) (by omega) ⟨rfl,by omega⟩ (aL (by omega)) rfl (by simp) (nQ u c.2)
   ·rw [if_neg he,Option.toList_none,List.append_nil]
    exact bDc (A7:=c.1) (A0:=c.2) (by omega) hx (by omega) (aL (by omega)) rfl)
  (by rw [List.take_length];exact bDd (by omega)) (by simp)
 have e2:R.filterMap (Fu k m1)++(l.take 0).filterMap H9=R.filterMap (Fu k m1):=by simp
 rw [e2] at L2
 have:=cCq (Hu:=apL k m1 R l) cR hC hT L0 L1 L2 (by omega) Be h1 hkk
 rw [eU] at this
 exact FV.frz this rfl
end KV
end Go.Proofs
end
section
namespace Go.Proofs
open Go.RowKit
namespace KV
open Tryz
abbrev cFt(a b c:Int):AO := .box 186 [.p (aB a),.p (aB b),.p (aB c)]
theorem cCo(a b c:Int):FMM Tp 108 [.arr 0 0 1] [some (cFt a b c)] (.p (.sl 1 [aB a])) [some (cFt a b c)]:=fun C w us hus hM n=>by
 cases hus with
 | cons _ u _ Hz hu hr =>
 cases hr;cases hu with
 | arr _ _ _ _ h0 ha h =>
 rcases h _ rfl rfl with ⟨h1,_⟩ | ⟨g,cap,rfl,h1,h2,h3⟩
 ·cases h1
 obtain ⟨g',arr,q0,q1,q2,q3,q4⟩:=hM.box 0 _ _ rfl;rw [h3] at q0;cases q0
 have hv:arr.getD 0 undef = .int .i64 a:=by
  have:=q3 0 (by simp)
  simp only [List.getElem_cons_zero] at this
  generalize arr.getD 0 undef=z at this ⊢
  cases this with | p _ _ h=>cases h;rfl
 have hcell:w.cell? ⟨g,0,none⟩=some (.int .i64 a):=by
  have hs:0<arr.size:=by rw [q2];simp
  unfold World.cell?;rw [q1];simp only [Option.isSome_none];rw [← hv];simp [Array.getD,hs]
 refine (callsIn_wide.2 (Tryz.slices_Clone_int g 0 1 cap [a] w (by simp) (by decide) (fun j hj => ?_))).mono ?_
 ·have:j=0:=by simpa using hj
  subst this;exact hcell
 ·rintro e w' ⟨v,rfl,⟨o1,o2⟩,hne,hB⟩
  obtain ⟨f1,m1⟩:=pH (C:=C) (kb:=none) hM hB.os hB.tape hB.output hB.size (fun k hk=>hB.block k hk)
  rcases o2 with ⟨_,e⟩ | ⟨g2,Nx,cur,rfl,r1,r2,r3,r4,r5,r6⟩
  ·cases e
  refine ⟨_,rfl,_,f1,m1,.p _ _ (.sl 1 [aB a] _ Nx (fun _ => .int .i64 a) r3 r4 (fun i hi => ?_) (fun i hi => ?_) (fun i hi=>rfl))⟩
  ·have:i=0:=by simpa using hi
   subst this;have hl:g2<w'.heap.size:=(Em.1 r2).1;refine ⟨g2,0,rfl,.inr ⟨r1,hl,by simp⟩,?_⟩
   unfold World.cell?;rw [show (0+0:Nat)=0 from rfl,r2]
   simp only [Option.isSome_none];have h6:=congrArg (fun l:List Value=>l[0]?) r6
   have hc:0<cur.size:=by rw [r5];omega
   simpa [List.getElem?_take,hc] using h6
  ·have:i=0:=by simpa using hi
   subst this;exact .v _
end KV
end Go.Proofs
end
namespace Go.Proofs
namespace KV
open Tryz
section
variable {x:Lqq}{i j q j' q':Nat}

noncomputable abbrev aLh:Code:=sub (cd Tryz.f20) [1,0,1,0,0]
noncomputable abbrev aTp:Code:=pS (cd Tryz.f20) 8 [0,1,0,0]
noncomputable abbrev bKd:Code:=pS (cd Tryz.f20) 6 [0,1,0,0]
theorem aTq:((0:Int) != 0)=false:=by first | decide | simp
def ixE(l:List Int):List PV:=[bO l]
def aCe(k:Int)(L:List Chg):List (Value × PV):=L.map fun c=>(iZ k (crM c),.agg [aP c.1,aP c.2])
abbrev jC:=aCe 0
def kU(R A B:List (List Cel))(q:Nat):St:=⟨fr 132 [(3,(.ptr 0 0)),(4,(.ptr 1 0)),(5,(.ptr 2 0)),(6,(.ptr 3 0)),(30,(.p (.agg [(aB 0),(.sl R.length (R.map aP)),(aB 0),(.sl A.length (A.map aP)),(aB 0),(.sl B.length (B.map aP))]))),(31,(pI (q:Int)))],[some (.box 26 [(pI 0),(.p (.sl R.length (R.map aP)))]),some (.box 26 [(pI 0),(.p (.sl A.length (A.map aP)))]),some (.box 26 [(pI 0),(.p (.sl B.length (B.map aP)))]),some (.box 26 [(pI 0),(.p bM)])]⟩
def qR(R A B:List (List Cel))(i:Nat)(me:List (Value × PV))(mk:Nat):St:=⟨fr 132 [(3,(.ptr 0 0)),(5,(.ptr 1 0)),(6,(.ptr 2 0)),(12,(pI 0)),(14,(pI 1)),(15,(.mp 3)),(16,(.p (.sl ((dfM 0 R A).length) (((dfM 0 R A).map chE).flatten)))),(65,(.p (.sl ((dfM 0 R A).length) (((dfM 0 R A).map chE).flatten)))),(66,(pI ((dfM 0 R A).length:Int))),(67,(pI (i:Int)))],[some (.box 26 [(pI 0),(.p (.sl R.length (R.map aP)))]),some (.box 26 [(pI 0),(.p (.sl B.length (B.map aP)))]),some (.box 26 [(pI 0),(.p bM)]),some (.mp me mk)]⟩
def mV(R B:List (List Cel))(Dz:List (List Cel × List Cel))(j xn:Nat)(xc:List PV):St:=⟨fr 132 [(3,(.ptr 0 0)),(6,(.ptr 1 0)),(12,(pI 0)),(14,(pI 1)),(15,(.mp 2)),(19,(.own 3)),(80,(.p (.sl ((dfM 0 R B).length) (((dfM 0 R B).map chE).flatten)))),(81,(pI ((dfM 0 R B).length:Int))),(82,(pI (j:Int)))],[some (.box 26 [(pI 0),(.p (.sl R.length (R.map aP)))]),some (.box 26 [(pI 0),(.p bM)]),some (.mp (jC Dz) Dz.length),some (.row 68 xn xc)]⟩
theorem cCn{R A B:List (List Cel)}{Hc Lo:Nat}{Dz:List (List Cel × List Cel)}{Qh:Nat}{Kv:Lqq}(A2:aE Tp 0 aLh (kU R A B 0) (.exit 0) (kU R A B Hc))(Lu:gF 0 R)(H5:gF 0 A)(Nn:(dfL 0 R A).length≤12)(Nu:1≤(dfL 0 R A).length)(Cc:aE Tp 0 bKd (qR R A B 0 [] 0) (.exit 2) (qR R A B Lo (jC Dz) Dz.length))(Qi:gF 0 B)(Qj:(dfL 0 R B).length≤12)(Qk:1≤(dfL 0 R B).length)(Kw:aE Tp 0 aTp (mV R B Dz 0 0 []) (.exit 4) (mV R B Dz Qh Kv.length ((Kv.map ixE).flatten)))(Ba:(0:Int)<(Kv.length:Int)):FMM Tp 20 [(.p (.agg [(aB 0),(.sl R.length (R.map aP))])),(.p (.agg [(aB 0),(.sl A.length (A.map aP))])),(.p (.agg [(aB 0),(.sl B.length (B.map aP))]))] [] (.tup [(.p (.agg [(aB 0),bM])),(.p (.sl Kv.length ((Kv.map ixE).flatten))),(pI 0)]) []:=have k1:=fk 5 (FV.frz (aQq Lu H5 Nn Nu) rfl) rfl;have k2:=fk 4 (FV.frz (aQq Lu Qi Qj Qk) rfl) rfl;FMM.fi 0 ⟨[],[],[3],[]⟩ func20 ([A2.k 6 (gI al cp)]++rF 7++[.c (.tup [(.p (.sl 3 [(aB 0),(aB 1),(aB 0)])),(pI 1)]) [],k1.o,Cc.k 4 (gI ab [0,2,3,4]),k2.o,Kw.k 1 (gN ad [0,2,3,4] [(19,68)]),bT]) (gc (bJ Ba) (gc Kw.code (gc k2 (gc Cc.code (gc k1 (gt (FC Tp 103 [(pI 0)] [] 4 (.tup [(.p (.sl 3 [(aB 0),(aB 1),(aB 0)])),(pI 1)]) []) (FV.fc (bHi rfl) rfl) (N9 aTq (gc A2.code gn))))))))
theorem bCk{R A B:List (List Cel)}(Az:q=0)(Ff:fA 0 R=0)(Er:q'=1):aA Tp 0 aLh (kU R A B q) .normal (kU R A B q'):=by
 subst Az;subst Er;exact aA.fi (gI al cp) [bT,.c (pI 0) [],bF] (gt (inR 1) (by show _∧_;omega) (gc aTq (gc (fk 5 (aHf 0 R Ff) rfl) (gt (0+2≤[(aB 0),(.sl R.length (R.map aP)),(aB 0),(.sl A.length (A.map aP)),(aB 0),(.sl B.length (B.map aP))].length) (by first | decide | simp) (gt (0≤(0:Int)∧(0:Int)<3) (by first | decide | simp) (gt ((decide ((0:Int)<3))=true) (by first | decide | simp) gn))))))
theorem bCl{R A B:List (List Cel)}(Az:q=1)(Ff:fA 0 A=0)(Er:q'=2):aA Tp 0 aLh (kU R A B q) .normal (kU R A B q'):=by
 subst Az;subst Er;exact aA.fi (gI al cp) [bT,.c (pI 0) [],bF] (gt (inR 2) (by show _∧_;omega) (gc aTq (gc (fk 5 (aHf 0 A Ff) rfl) (gt (2+2≤[(aB 0),(.sl R.length (R.map aP)),(aB 0),(.sl A.length (A.map aP)),(aB 0),(.sl B.length (B.map aP))].length) (by first | decide | simp) (gt (0≤(1:Int)∧(1:Int)<3) (by first | decide | simp) (gt ((decide ((1:Int)<3))=true) (by first | decide | simp) gn))))))
theorem bCm{R A B:List (List Cel)}(Az:q=2)(Ff:fA 0 B=0)(Er:q'=3):aA Tp 0 aLh (kU R A B q) .normal (kU R A B q'):=by
 subst Az;subst Er;exact aA.fi (gI al cp) [bT,.c (pI 0) [],bF] (gt (inR 3) (by show _∧_;omega) (gc aTq (gc (fk 5 (aHf 0 B Ff) rfl) (gt (4+2≤[(aB 0),(.sl R.length (R.map aP)),(aB 0),(.sl A.length (A.map aP)),(aB 0),(.sl B.length (B.map aP))].length) (by first | decide | simp) (gt (0≤(2:Int)∧(2:Int)<3) (by first | decide | simp) (gt ((decide ((2:Int)<3))=true) (by first | decide | simp) gn))))))
theorem bCn{R A B:List (List Cel)}(Az:q=3)(Er:q'=3):aA Tp 0 aLh (kU R A B q) (.exit 0) (kU R A B q'):=by
 subst Az;subst Er;exact aA.fi (gI al cp) [bF] (gt ((decide ((3:Int)<3))=false) (by first | decide | simp) gn)
theorem bCo{R A B:List (List Cel)}{m:List (List Cel × List Cel)}{Bb Bc:List Cel}{i':Nat}{m':List (List Cel × List Cel)}(h0:(i:Int)<((dfM 0 R A).length:Int))(h1:(dfM 0 R A)[i]? = some (Bb,Bc))(h2:aN (0:Int)≤((crM (Bb,Bc)).length:Int))(h3:eO Tp 186 (jC m) (k3V (aM 0 (crM (Bb,Bc)) 0) (aM 0 (crM (Bb,Bc)) 1) (aM 0 (crM (Bb,Bc)) 2)))(h4:(iE (jC m) (k3V (aM 0 (crM (Bb,Bc)) 0) (aM 0 (crM (Bb,Bc)) 1) (aM 0 (crM (Bb,Bc)) 2)))=false)(h5:cq i)(Ai:i'=(i+1))(E9:jC m'=((jC m)++[((k3V (aM 0 (crM (Bb,Bc)) 0) (aM 0 (crM (Bb,Bc)) 1) (aM 0 (crM (Bb,Bc)) 2)),(.agg [(.sl Bb.length ((Bb.map cE).flatten)),(.sl Bc.length ((Bc.map cE).flatten))]))]))(Fa:m'.length=(m.length+1)):aA Tp 0 bKd (qR R A B i (jC m) m.length) .normal (qR R A B i' (jC m') m'.length):=by
 subst Ai;have k1:=fk 5 (mY (Bb,Bc).1 (Bb,Bc).2) rfl;have k2:=fk 13 (eK 0 (crM (Bb,Bc)) h2) rfl;rw [E9,Fa];exact aA.fi (gI ab cp) [bT,.x (.agg [(.sl Bb.length ((Bb.map cE).flatten)),(.sl Bc.length ((Bc.map cE).flatten))]),k1.o,k2.o,bF] (gc h5 (gc h4 (gc h3 (gc k2 (gc k1 (gc (bH (E:=chE) (i:=i) (k:=2) (fun _=>rfl) h1 rfl) (gc (bZ (E:=chE) (i:=i) (k:=2) (fun _=>rfl) h1) (gc (bC (E:=chE) (k:=2) (i:=(i:Int)) (fun _=>rfl) (by decide) (Bf _) h1) (g0 h0)))))))))
theorem bCp{R A B:List (List Cel)}{m:List (List Cel × List Cel)}(h0:((dfM 0 R A).length:Int)≤(i:Int)):aA Tp 0 bKd (qR R A B i (jC m) m.length) (.exit 2) (qR R A B i (jC m) m.length):=aA.fi (gI ab cp) [bF] (gc (aJ h0) gn)
section
variable{R B:List (List Cel)}{Dz:List (List Cel × List Cel)}{A7 A0:List Cel}{Cg:Chg}(h0:(j:Int)<((dfM 0 R B).length:Int))(h1:(dfM 0 R B)[j]? = some (A7,A0))(h2:aN (0:Int)≤((crM (A7,A0)).length:Int))(h3:eO Tp 186 (jC Dz) (k3V (aM 0 (crM (A7,A0)) 0) (aM 0 (crM (A7,A0)) 1) (aM 0 (crM (A7,A0)) 2)))(h4:(iE (jC Dz) (k3V (aM 0 (crM (A7,A0)) 0) (aM 0 (crM (A7,A0)) 1) (aM 0 (crM (A7,A0)) 2)))=true)(h5:iA (jC Dz) (k3V (aM 0 (crM (A7,A0)) 0) (aM 0 (crM (A7,A0)) 1) (aM 0 (crM (A7,A0)) 2))=some (.agg [(.sl Cg.1.length ((Cg.1.map cE).flatten)),(.sl Cg.2.length ((Cg.2.map cE).flatten))]))(H8:Cg.2.length≤100000)
include h0 h1 h2 h3 h4 h5 H8
theorem bCq{x':Lqq}(h7:(decide (Cg.2=A0))=false)(h8:[(PV.sl 1 [(aB (aM 0 (crM (A7,A0)) 0))])].length=1*1∧x.length+1≤1000000)(h9:cq j)(Cy:j'=(j+1))(Nv:x'.length=(x.length+1))(Nw:(x'.map ixE).flatten=(((x.map ixE).flatten)++[(PV.sl 1 [(aB (aM 0 (crM (A7,A0)) 0))])])):aA Tp 0 aTp (mV R B Dz j x.length ((x.map ixE).flatten)) .normal (mV R B Dz j' x'.length ((x'.map ixE).flatten)):=by
 subst Cy;have k1:=fk 5 (mY (A7,A0).1 (A7,A0).2) rfl;have k2:=fk 5 (eK 0 (crM (A7,A0)) h2) rfl;have k3:=fk 7 (qG Cg.2 A0 H8) rfl;have k4:=mq [5] 7 (cCo (aM 0 (crM (A7,A0)) 0) (aM 0 (crM (A7,A0)) 1) (aM 0 (crM (A7,A0)) 2));rw [Nv,Nw];exact aA.fi (gI ad [0,1,2,8]) [bT,.x (.agg [(.sl A7.length ((A7.map cE).flatten)),(.sl A0.length ((A0.map cE).flatten))]),k1.o,k2.o,bT,.x (.agg [(.sl Cg.1.length ((Cg.1.map cE).flatten)),(.sl Cg.2.length ((Cg.2.map cE).flatten))]),k3.o,bT,k4.o] (gc h9 (gc h8 (gc k4 (gt (0≤(0:Int)∧(0:Int)≤1∧(1:Int)≤3∧3≤maxLen) (by unfold maxLen;omega) (gc (cN h7) (gc k3 (gc h5 (gc h4 (gc h3 (gc k2 (gc k1 (gc (bH (E:=chE) (i:=j) (k:=2) (fun _=>rfl) h1 rfl) (gc (bZ (E:=chE) (i:=j) (k:=2) (fun _=>rfl) h1) (gc (bC (E:=chE) (k:=2) (i:=(j:Int)) (fun _=>rfl) (by decide) (Bf _) h1) (g0 h0)))))))))))))))
theorem bCr(h7:(decide (Cg.2=A0))=true)(h8:cq j)(Cy:j'=(j+1)):aA Tp 0 aTp (mV R B Dz j x.length ((x.map ixE).flatten)) .normal (mV R B Dz j' x.length ((x.map ixE).flatten)):=by
 subst Cy;have k1:=fk 5 (mY (A7,A0).1 (A7,A0).2) rfl;have k2:=fk 5 (eK 0 (crM (A7,A0)) h2) rfl;have k3:=fk 7 (qG Cg.2 A0 H8) rfl;exact aA.fi (gI ad cp) [bT,.x (.agg [(.sl A7.length ((A7.map cE).flatten)),(.sl A0.length ((A0.map cE).flatten))]),k1.o,k2.o,bT,.x (.agg [(.sl Cg.1.length ((Cg.1.map cE).flatten)),(.sl Cg.2.length ((Cg.2.map cE).flatten))]),k3.o,bF] (gc h8 (gc (aO h7) (gc k3 (gc h5 (gc h4 (gc h3 (gc k2 (gc k1 (gc (bH (E:=chE) (i:=j) (k:=2) (fun _=>rfl) h1 rfl) (gc (bZ (E:=chE) (i:=j) (k:=2) (fun _=>rfl) h1) (gc (bC (E:=chE) (k:=2) (i:=(j:Int)) (fun _=>rfl) (by decide) (Bf _) h1) (g0 h0))))))))))))
end
theorem bCs{R B:List (List Cel)}{Dz:List (List Cel × List Cel)}(h0:((dfM 0 R B).length:Int)≤(j:Int)):aA Tp 0 aTp (mV R B Dz j x.length ((x.map ixE).flatten)) (.exit 4) (mV R B Dz j x.length ((x.map ixE).flatten)):=aA.fi (gI ad cp) [bF] (gc (aJ h0) gn)
end
end KV
end Go.Proofs
section
namespace Go.Proofs
open Go.RowKit
namespace KV
open Tryz
set_option maxRecDepth 1000000
def sG(k:Int)(L:List Chg)(r:List Cel):Option Chg:=L.find? fun c=>decide (A8 k (crM c)=A8 k r)
theorem bKb(k:Int)(L:List Chg)(r:List Cel):iE (aCe k L) (iZ k r)=(sG k L r).isSome:=by
 unfold iE aCe sG;rw [List.any_map,Bool.eq_iff_iff,List.find?_isSome,List.any_eq_true];rfl
theorem bPq(k:Int)(L:List Chg)(r:List Cel):iA (aCe k L) (iZ k r)=(sG k L r).map fun c => .agg [aP c.1,aP c.2]:=by
 unfold iA aCe sG;rw [List.find?_map];have e:((fun e:Value × PV=>decide (kL e.1=kL (iZ k r))) ∘ fun c:Chg=>(iZ k (crM c),PV.agg [aP c.1,aP c.2]))=fun c=>decide (A8 k (crM c)=A8 k r):=rfl
 rw [e];cases List.find? (fun c:Chg=>decide (A8 k (crM c)=A8 k r)) L <;> rfl
structure aTn (k:Int) (L:List Chg):Prop where
 n:L.length≤400
 kk:∀ x∈L,aN k≤((crM x).length:Int)
 ky:∀ x∈L,lB k (crM x)
 nd:(L.map fun c=>A8 k (crM c)).Nodup
 len:∀ x∈L,x.2.length≤1000
theorem aTo{k:Int}{L:List Chg}{r:List Cel}(h:∀ x∈L,lB k (crM x))(hn:(L.map fun c=>A8 k (crM c)).Nodup)(hr:lB k r):eO Tp 186 (aCe k L) (iZ k r):=by
 refine ⟨Eg,fun e he => ?_,lK hr,fun e he h => ?_,?_⟩
 ·obtain ⟨x,hx,rfl⟩:=uN.1 he
  exact lK (h x hx)
 ·obtain ⟨x,hx,rfl⟩:=uN.1 he
  exact aHl h
 ·unfold aCe
  rw [aCa];exact hn
def G1(L:List Chg)(c:Chg):Option (List Int):=match sG 0 L (crM c) with
 | some o=>if o.2=c.2 then none else some [aM 0 (crM c) 0]
 | none=>none
theorem bKc(L:Lqq)(x:List Int):((L++[x]).map ixE).flatten=(L.map ixE).flatten++[bO x]:=by simp [ixE]
theorem cCm{R A B:List (List Cel)}(cR:fA 0 R=0)(cA:fA 0 A=0)(cB:fA 0 B=0)(hR:gF 0 R)(hA:gF 0 A)(hB:gF 0 B)(Qe:(dfL 0 R A).length≤12)(a1:1≤(dfL 0 R A).length)(Qg:(dfL 0 R B).length≤12)(b1:1≤(dfL 0 R B).length)
  (hF:aTn 0 (dfM 0 R A)) (hG:aTn 0 (dfM 0 R B)) (hm:∀ c∈dfM 0 R B,(sG 0 (dfM 0 R A) (crM c)).isSome=true) (h1:0<((dfM 0 R B).filterMap (G1 (dfM 0 R A))).length) :
  FMM Tp 20 [.p (.agg [aB 0,bW R]),.p (.agg [aB 0,bW A]),.p (.agg [aB 0,bW B])] [] (.tup [.p (.agg [aB 0,bM]),.p (.sl ((dfM 0 R B).filterMap (G1 (dfM 0 R A))).length ((((dfM 0 R B).filterMap (G1 (dfM 0 R A))).map ixE).flatten)),.p (aB 0)]) []:=by
 have hFn:=hF.n;have hGn:=hG.n;have L0:aE Tp 0 (sub (cd Tryz.f20) bz) (kU R A B 0) (.exit 0) (kU R A B 3) := .step (bCk rfl cR rfl) (.step (bCl rfl cA rfl) (.step (bCm rfl cB rfl) (.exit (bCn rfl rfl) (by simp))))
 have L1:=aE.count (P:=Tp) (k:=0) (b:=(sub (cd Tryz.f20) b5)) (e := .exit 2) (R:=qR R A B (dfM 0 R A).length (jC (dfM 0 R A)) (dfM 0 R A).length) (dfM 0 R A).length
  (fun i=>qR R A B i (jC ((dfM 0 R A).take i)) ((dfM 0 R A).take i).length)
  (fun i hi=>by
   have hx:(dfM 0 R A)[i]? = some (dfM 0 R A)[i]:=Ch hi;have et:(dfM 0 R A).take (i+1)=(dfM 0 R A).take i++[(dfM 0 R A)[i]]:=by rw [List.take_add_one,hx];rfl
   have hc:=iF hi;have hnt:(((dfM 0 R A).take i).map fun c=>A8 0 (crM c)).Nodup:=by rw [List.map_take];exact hF.nd.sublist (List.take_sublist i _)
   have hno:sG 0 ((dfM 0 R A).take i) (crM (dfM 0 R A)[i])=none:=by
    unfold sG;rw [List.find?_eq_none];intro y hy hd;obtain ⟨j,hj,e⟩:=List.mem_iff_getElem.1 hy;rw [uM] at hj
    rw [List.getElem_take] at e
    have hd:=of_decide_eq_true hd;rw [← e] at hd
    have:=List.pairwise_iff_getElem.1 hF.nd j i (by rw [pE];omega) (by rw [pE];omega) (by omega)
    rw [iR,iR] at this
    exact this hd
   have hK:=aTo (r:=crM (dfM 0 R A)[i]) (fun x hx=>hF.ky x (List.mem_of_mem_take hx)) hnt (hF.ky _ hc)
   have hhit:=bKb 0 ((dfM 0 R A).take i) (crM (dfM 0 R A)[i]);rw [hno] at hhit
   exact bCo (Bb:=(dfM 0 R A)[i].1) (Bc:=(dfM 0 R A)[i].2) (m:=(dfM 0 R A).take i) (m':=(dfM 0 R A).take (i+1)) (by omega) hx (hF.kk _ hc) hK hhit (aL (by omega)) rfl (by rw [et];show aCe 0 _=aCe 0 _++_;unfold aCe;rw [vT];rfl) (by simp;omega))
  (by rw [List.take_length];exact bCp (by omega)) (by simp)
 have L2:=aE.count (P:=Tp) (k:=0) (b:=(sub (cd Tryz.f20) [1,1,1,1,1,1,1,1,0,1,0,0])) (e := .exit 4) (R:=mV R B (dfM 0 R A) (dfM 0 R B).length ((dfM 0 R B).filterMap (G1 (dfM 0 R A))).length ((((dfM 0 R B).filterMap (G1 (dfM 0 R A))).map ixE).flatten)) (dfM 0 R B).length
  (fun j=>mV R B (dfM 0 R A) j (((dfM 0 R B).take j).filterMap (G1 (dfM 0 R A))).length (((((dfM 0 R B).take j).filterMap (G1 (dfM 0 R A))).map ixE).flatten))
  (fun j hj=>by
   have hx:(dfM 0 R B)[j]? = some (dfM 0 R B)[j]:=Ch hj;have hc:=iF hj;have hfl:=aBn (G1 (dfM 0 R A)) (dfM 0 R B) j;rw [vC (G1 (dfM 0 R A)) hx];have hmt:=hm _ hc;have kk:=hG.kk _ hc;have ky:=hG.ky _ hc;generalize (dfM 0 R B)[j]=c at hx hc hmt kk ky
   have hK:=aTo (r:=crM c) hF.ky hF.nd ky;have hhit:=bKb 0 (dfM 0 R A) (crM c);have hlook:=bPq 0 (dfM 0 R A) (crM c);have hfx:G1 (dfM 0 R A) c=match sG 0 (dfM 0 R A) (crM c) with | some o=>if o.2=c.2 then none else some [aM 0 (crM c) 0] | none=>none:=rfl
   rw [hfx];generalize ((dfM 0 R B).take j).filterMap (G1 (dfM 0 R A))=x at hfl
   cases hlk:sG 0 (dfM 0 R A) (crM c) with
   | none=>rw [hlk] at hmt;cases hmt
   | some o =>
    rw [hlk] at hhit hlook
    have ho:=hF.len o (bMj hlk);dsimp only
    by_cases he:o.2=c.2
    ·rw [if_pos he,Option.toList_none,List.append_nil]
     exact bCr (A7:=c.1) (A0:=c.2) (by omega) hx kk hK hhit hlook (by omega) (by simp [he]) (aL (by omega)) rfl
    ·rw [if_neg he]
     exact bCq (A7:=c.1) (A0:=c.2) (x':=x++[[aM 0 (crM c) 0]]) (by omega) hx kk hK hhit hlook (by omega) (by simp [he]) ⟨rfl,by omega⟩ (aL (by omega)) rfl (by simp) (bKc x _))
  (by rw [List.take_length];exact bCs (by omega)) (by simp)
 exact cCn L0 hR hA Qe a1 L1 hB Qg b1 L2 (by omega)
end KV
end Go.Proofs
end
namespace Go.Proofs
namespace KV
open Tryz
section
variable {z Ha:Int}{i n rn Ls Gm pos base:Nat}{g:PV}

noncomputable abbrev aTi:Code:=pS (cd Tryz.f165) 6 [0,1,0,0]
noncomputable abbrev aTj:Code:=sub (cd Tryz.f165) [1,1,1,0,1,0,0,1,1]
noncomputable abbrev bSj:Code:=sub (cd Tryz.f165) [1,1,1,0]
theorem bSk:0≤(0:Int)∧(0:Int)≤32∧(32:Int)≤1000000:=by first | decide | simp
theorem cCf{cs:List UInt8}{r:Nat}{r0:Bool}(h0:r<128)(Ao:r0=(aBh cs r)):FV Tp 164 [(.p (aC cs)),(.p (.v (.int .i32 (r:Int))))] base (pB r0) []:=by
 subst Ao;exact FV.fi func164 [.c (pB (aBh cs r)) []] (gc (fk 0 (cCi cs r h0) rfl) gn)
theorem aHd(cs:List UInt8)(r:Nat)(h:r<128){v:Bool}(hv:aBh cs r=v){base:Nat}:FV Tp 164 [.p (aC cs),.p (.v (.int .i32 (r:Int)))] base (pB v) []:=cCf (r0:=v) h hv.symm
def spE(x:Int × Int):List PV:=[aB x.1,aB x.2]
def tF(s cs:List UInt8)(pn:Nat)(pc:List PV)(z:Int):St:=⟨fr 65 [(0,(.p (aC s))),(1,(.fn 164 [(.p (aC cs))] [])),(4,(.p bM)),(5,(.own 0)),(6,(pI z))],[some (.row 302 pn pc)]⟩
def mT(s:List UInt8)(n i qn:Nat)(qc:List PV)(rn:Nat)(rc:List PV):St:=⟨fr 65 [(0,(.p (aC s))),(4,(.p bM)),(9,(.own 1)),(47,(.own 0)),(48,(pI (n:Int))),(49,(pI (i:Int)))],[some (.row 302 qn qc),some (.row 9 rn rc)]⟩
section
variable{s cs:List UInt8}{Dv:List (Int × Int)}(A2:aA Tp 0 bSj (tF s cs 0 [] (-1)) .normal (tF s cs Dv.length ((Dv.map spE).flatten) Ha))
include A2
theorem cCg{Jj:List (Int × Int)}{Hi:List (List UInt8)}(h1:(0:Int)≤Ha)(h2:[(aB Ha),(aB (s.length:Int))].length=1*2∧Dv.length+1≤1000000)(h3:0≤(((Dv.length+1):Nat):Int)∧(((Dv.length+1):Nat):Int)≤(((Dv.length+1):Nat):Int)∧(((Dv.length+1):Nat):Int)≤1000000)(Fo:aE Tp 0 aTi (mT s (Dv.length+1) 0 (Dv.length+1) (((Dv.map spE).flatten)++[(aB Ha),(aB (s.length:Int))]) (Dv.length+1) (List.replicate (Dv.length+1) (aC ([]:List UInt8)))) (.exit 2) (mT s Gm Ls Jj.length ((Jj.map spE).flatten) Hi.length ((Hi.map stE).flatten))):FV Tp 165 [(.p (aC s)),(.fn 164 [(.p (aC cs))] [])] base (.own base) [(base,(.row 9 Hi.length ((Hi.map stE).flatten)))]:=FV.fi func165 [A2.k 7 (gI [2,2,7,2,12,23] [0]),bT,Fo.k 7 (gI b6 [2,3])] (gc Fo.code (gc h3 (gc h2 (gt ([(aB Ha),(aB (s.length:Int))].length=2) (by first | decide | simp) (gc (gO h1) (gc A2 (gc bSk gn)))))))
theorem cCh{Jj:List (Int × Int)}{Hi:List (List UInt8)}(h1:Ha<(0:Int))(h2:0≤(Dv.length:Int)∧(Dv.length:Int)≤(Dv.length:Int)∧(Dv.length:Int)≤1000000)(Cl:aE Tp 0 aTi (mT s Dv.length 0 Dv.length ((Dv.map spE).flatten) Dv.length (List.replicate Dv.length (aC ([]:List UInt8)))) (.exit 2) (mT s Gm Ls Jj.length ((Jj.map spE).flatten) Hi.length ((Hi.map stE).flatten))):FV Tp 165 [(.p (aC s)),(.fn 164 [(.p (aC cs))] [])] base (.own base) [(base,(.row 9 Hi.length ((Hi.map stE).flatten)))]:=FV.fi func165 [A2.k 7 (gI [2,2,7,2,12,23] [0]),bF,Cl.k 6 (gI b6 [0,1])] (gc Cl.code (gc h2 (gc (eQ h1) (gc A2 (gc bSk gn)))))
end
theorem bCb{s:List UInt8}{q:List (Int × Int)}{r:List (List UInt8)}{B2 Bw:Int}{i':Nat}{r':List (List UInt8)}(h0:(i:Int)<(n:Int))(h1:0≤(i:Int)∧(i:Int)<(q.length:Int))(h2:q[i]? = some (B2,Bw))(h3:0≤B2∧B2≤Bw∧Bw≤(s.length:Int))(h4:0≤(i:Int)∧(i:Int)<(r.length:Int))(h5:(i*1)<((r.map stE).flatten).length)(h6:cq i)(Ai:i'=(i+1))(Jk:r'.length=r.length)(Jl:(r'.map stE).flatten=(((r.map stE).flatten).set (i*1) (aC ((s.drop B2.toNat).take (Bw.toNat-B2.toNat))))):aA Tp 0 aTi (mT s n i q.length ((q.map spE).flatten) r.length ((r.map stE).flatten)) .normal (mT s n i' q.length ((q.map spE).flatten) r'.length ((r'.map stE).flatten)):=by
 subst Ai;rw [Jk,Jl];exact aA.fi (gI b6 [0,1]) [bT,.x (.agg [(aB B2),(aB Bw)])] (gc h6 (gc h5 (gc h4 (gc h3 (gc (bH (E:=spE) (i:=i) (k:=2) (fun _=>rfl) h2 rfl) (gc (bZ (E:=spE) (i:=i) (k:=2) (fun _=>rfl) h2) (gc h1 (g0 h0))))))))
theorem bCc{s:List UInt8}{q:List (Int × Int)}{r:List (List UInt8)}(h0:(n:Int)≤(i:Int)):aA Tp 0 aTi (mT s n i q.length ((q.map spE).flatten) r.length ((r.map stE).flatten)) (.exit 2) (mT s n i q.length ((q.map spE).flatten) r.length ((r.map stE).flatten)):=aA.fi (gI b6 [0,1]) [bF] (gc (aJ h0) gn)
def mU(s cs:List UInt8)(g:PV)(pos rn pn:Nat)(pc:List PV)(z:Int):St:=⟨fr 65 [(0,(.p (aC s))),(1,(.fn 164 [(.p (aC cs))] [])),(4,(.p bM)),(5,(.own 0)),(6,(pI z)),(14,(.p g)),(15,(.tup [(pB true),(pI (pos:Int)),(.p (.v (.int .i32 (rn:Int))))])),(16,(pB true))],[some (.row 302 pn pc)]⟩
def bJx(s cs:List UInt8)(g:PV)(pos rn:Nat)(p:List (Int × Int))(z y:Int):St:=⟨fr 65 [(0,(.p (aC s))),(1,(.fn 164 [(.p (aC cs))] [])),(4,(.p bM)),(5,(.own 2)),(6,(pI y)),(7,(pI (pos:Int))),(8,(.p (.v (.int .i32 (rn:Int))))),(14,(.p g)),(15,(.tup [(pB true),(pI (pos:Int)),(.p (.v (.int .i32 (rn:Int))))])),(16,(pB true)),(17,(pI (pos:Int))),(18,(.p (.v (.int .i32 (rn:Int))))),(19,(.fn 164 [(.p (aC cs))] [])),(20,(.p (.v (.int .i32 (rn:Int))))),(21,(pB true)),(22,(pI z)),(23,(pB (decide (z ≥ 0)))),(24,(.own 0)),(25,(pI z)),(26,(pI (pos:Int))),(27,(.p (.agg [(aB z),(aB (pos:Int))]))),(28,(.own 1)),(29,(.own 2))],[some .dead,some (.row 302 1 [(aB z),(aB (pos:Int))]),some (.row 302 (p.length+1) (((p.map spE).flatten)++[(aB z),(aB (pos:Int))]))]⟩
theorem bCd{s cs:List UInt8}{p:List (Int × Int)}{Iu:Int}{p':List (Int × Int)}(h0:rn<128)(Bu:aBh cs rn=true)(h2:(0:Int)≤z)(h3:[(aB z),(aB (pos:Int))].length=1*2∧p.length+1≤1000000)(Fo:aA Tp 0 (sub (cd Tryz.f165) [1,1,1,0,1,0,0,1,1,0,1,1,0,1,0,1]) (bJx s cs g pos rn p z z) .normal (bJx s cs g pos rn p z Iu))(Ns:p'.length=(p.length+1))(Nt:(p'.map spE).flatten=(((p.map spE).flatten)++[(aB z),(aB (pos:Int))])):aA Tp 0 aTj (mU s cs g pos rn p.length ((p.map spE).flatten) z) .normal (mU s cs g pos rn p'.length ((p'.map spE).flatten) Iu):=by
 rw [Ns,Nt];exact aA.fi (gI ba [2]) [.c (pB true) [],bT,bT,Fo.k 2 ⟨[2,3,12,13,30,31],[0,1,2],[],[]⟩] (gc Fo (gc h3 (gt ([(aB z),(aB (pos:Int))].length=2) (by first | decide | simp) (gc (gO h2) (gt (true=true) rfl (gc (fk 1 (aHd cs rn h0 Bu) rfl) gn))))))
theorem bCe{s cs:List UInt8}{p:List (Int × Int)}(h0:rn<128)(Bu:aBh cs rn=true)(h2:z<0):aA Tp 0 aTj (mU s cs g pos rn p.length ((p.map spE).flatten) z) .normal (mU s cs g pos rn p.length ((p.map spE).flatten) z):=aA.fi (gI ba [0]) [.c (pB true) [],bT,bF] (gc (eQ h2) (gt (true=true) rfl (gc (fk 1 (aHd cs rn h0 Bu) rfl) gn)))
theorem bCf{s cs:List UInt8}{p:List (Int × Int)}{z':Int}(h0:rn<128)(Bu:aBh cs rn=false)(h2:z<0)(Mq:z'=(pos:Int)):aA Tp 0 aTj (mU s cs g pos rn p.length ((p.map spE).flatten) z) .normal (mU s cs g pos rn p.length ((p.map spE).flatten) z'):=by
 subst Mq;exact aA.fi (gI ba [0]) [.c (pB false) [],bF,bT] (gc (bJ h2) (gf (gc (fk 1 (aHd cs rn h0 Bu) rfl) gn)))
theorem bCg{s cs:List UInt8}{p:List (Int × Int)}(h0:rn<128)(Bu:aBh cs rn=false)(h2:(0:Int)≤z):aA Tp 0 aTj (mU s cs g pos rn p.length ((p.map spE).flatten) z) .normal (mU s cs g pos rn p.length ((p.map spE).flatten) z):=aA.fi (gI ba [0]) [.c (pB false) [],bF,bF] (gc (aJ h2) (gf (gc (fk 1 (aHd cs rn h0 Bu) rfl) gn)))
end
end KV
end Go.Proofs
section
namespace Go.Proofs
open Go.RowKit
namespace KV
open Tryz
theorem aTh{α β:Type}{Inv:Nat→β→Prop}{f:β→α→β}{b0:β}{L:List α}(h0:Inv 0 b0)(hs:∀ (i:Nat) (x:α) (b:β),L[i]? = some x→Inv i b→Inv (i+1) (f b x)):∀ n,n≤L.length→Inv n ((L.take n).foldl f b0)
 | 0,_=>h0
 | n+1,h=>by
  have hx:L[n]? = some L[n]:=Ch (by omega)
  rw [List.take_add_one,hx,List.foldl_append];exact hs n _ _ hx (aTh h0 hs n (by omega))
abbrev FSt:=List (Int × Int) × Int
def lT(cs:List UInt8)(x:FSt)(q:Nat × Nat):FSt:=if aBh cs q.2 then (if 0≤x.2 then (x.1++[(x.2,(q.1:Int))],-1-x.2) else x) else (if x.2<0 then (x.1,(q.1:Int)) else x)
def aHb:FSt:=([],-1)
def bJu(s:List UInt8)(x:FSt):List (Int × Int):=if 0≤x.2 then x.1++[(x.2,(s.length:Int))] else x.1
def cCd(cs s:List UInt8):List (Int × Int):=bJu s ((gM 0 s).foldl (lT cs) aHb)
def aBg(s:List UInt8)(x:Int × Int):List UInt8:=(s.drop x.1.toNat).take (x.2.toNat-x.1.toNat)
def aLf(cs s:List UInt8):List (List UInt8):=(cCd cs s).map (aBg s)
theorem wL:∀ (l:List UInt8) (j i:Nat) (x:Nat × Nat),(gM j l)[i]? = some x→x.1=j+i∧i<l.length∧∃ b∈l,x.2=b.toNat
 | [],_,_,_,h=>by cases h
 | b::r,j,0,x,h=>by
  cases h;exact ⟨rfl,by simp,b,by simp,rfl⟩
 | b::r,j,i+1,x,h=>by
  obtain ⟨h1,h2,b',h3,h4⟩:=wL r (j+1) i x h;exact ⟨by omega,by simp;omega,b',by simp [h3],h4⟩
theorem tE:∀ (l:List UInt8) (j:Nat),(gM j l).length=l.length
 | [],_=>rfl
 | _::r,j=>by simp [gM,tE r (j+1)]
structure cCe (N i:Nat) (x:FSt):Prop where
 len:x.1.length≤i
 lo : -1-(i:Int)≤x.2
 hi:x.2<0∨x.2<(i:Int)
 sp:∀ y∈x.1,0≤y.1∧y.1≤y.2∧y.2≤(N:Int)
theorem bJv(cs s:List UInt8)(n:Nat)(hn:n≤(gM 0 s).length):cCe s.length n (((gM 0 s).take n).foldl (lT cs) aHb):=by
 refine aTh (Inv:=cCe s.length) ⟨by simp [aHb],by simp [aHb],by simp [aHb],fun y h=>by cases h⟩ (fun i x b hx hI => ?_) n hn
 obtain ⟨h1,h2,_⟩:=wL s 0 i x hx;obtain ⟨q1,q2,q3,q4⟩:=hI;rw [jJ] at h1
 unfold lT
 split
 ·split
  ·refine ⟨by simp;omega,by show _ ≤ -1-b.2;omega,.inl (by show -1-b.2<0;omega),fun y hy => ?_⟩
   rcases aAg.1 hy with hy | hy
   ·exact q4 y hy
   ·rw [List.mem_singleton] at hy
    subst hy;exact ⟨by assumption,by show b.2≤(x.1:Int);omega,by show (x.1:Int)≤_;omega⟩
  ·exact ⟨by omega,by omega,by omega,q4⟩
 ·split
  ·exact ⟨by show b.1.length≤_;omega,by show _≤(x.1:Int);omega,.inr (by show (x.1:Int)<_;omega),q4⟩
  ·exact ⟨by omega,by omega,by omega,q4⟩
def ffG(s cs:List UInt8)(x:FSt)(g:PV):St:=⟨fr 65 [(0,(.p (aC s))),(1,(.fn 164 [(.p (aC cs))] [])),(4,(.p bM)),(5,(.own 0)),(6,(.p (aB x.2))),(14,(.p g))],[some (.row 302 x.1.length ((x.1.map spE).flatten))]⟩
abbrev ffS(s cs:List UInt8)(x:FSt):St:=tF s cs x.1.length ((x.1.map spE).flatten) x.2
theorem bJw(s cs:List UInt8)(hs:s.length≤90000)(x:FSt)(g:PV)(q:Nat × Nat)(i:Nat)(hI:cCe s.length i x)(hi:i<s.length)(h1:q.2<128) :
  aA Tp 0 (sub (cd Tryz.f165) [1,1,1,0,1,0,0,1,1]) ⟨nxT (ffG s cs x g).t 15 16 q.1 q.2,(ffG s cs x g).m⟩ .normal (ffG s cs (lT cs x q) g):=by
 obtain ⟨p,z⟩:=x;obtain ⟨pos,rn⟩:=q;obtain ⟨q1,q2,q3,q4⟩:=hI;dsimp only at q1 q2 q3 q4 h1
 refine aA.post (st1:=mU s cs g pos rn (lT cs (p,z) (pos,rn)).1.length (((lT cs (p,z) (pos,rn)).1.map spE).flatten) (lT cs (p,z) (pos,rn)).2) (g:=⟨[15,16],[0],[],[]⟩) (by kernel_rfl) ?_
 show aA Tp 0 _ (mU s cs g pos rn p.length ((p.map spE).flatten) z) .normal _;unfold lT;dsimp only
 by_cases hb:aBh cs rn=true
 ·rw [if_pos hb]
  by_cases hz:0≤z
  ·rw [if_pos hz]
   refine bCd h1 hb hz ⟨rfl, by omega⟩ (cCj (id := 9) (i := 6) (j := 30) (k := 31) (Eu := 3) (Es := 3) (Ji := 3) (p1 := "strings.go:443") (p2 := "strings.go:443") (p3 := "strings.go:443") (q := #[{ on := 1, ground := Ground.data }, { on := 0, ground := Ground.phase }, { on := 1, ground := Ground.phase }]) (v := z) (by kernel_rfl) rfl (by show 30 < 65; omega) (by show 31 < 65; omega) ⟨hz, by omega⟩ rfl rfl) (by simp) (by simp [spE])
  ·rw [if_neg hz]
   exact bCe h1 hb (Int.not_le.1 hz)
 ·rw [if_neg hb]
  have A1:aBh cs rn=false:=by simpa using hb
  by_cases hz:z<0
  ·rw [if_pos hz]
   exact bCf h1 A1 hz rfl
  ·rw [if_neg hz]
   exact bCg h1 A1 (Int.not_lt.1 hz)
theorem bPo(s cs:List UInt8)(hs:s.length≤90000)(ha:∀ b∈s,b.toNat<128) :
  aA Tp 0 (sub (cd Tryz.f165) [1,1,1,0]) (ffS s cs aHb) .normal (ffS s cs ((gM 0 s).foldl (lT cs) aHb)):=by
 refine bKa (i0 := 0) (m := 13) (Ox := 3) (id := 4) (gi := 14) (d := 15) (c := 16) (Eu := 0) (Es := 4) (Ji := 9) (Oy := 0) (e0 := 0) (p1 := "strings.go:436") (p2 := "strings.go:436") (p3 := "strings.go:436") (p4 := "strings.go:436") (body := sub (cd Tryz.f165) [1, 1, 1, 0, 1, 0, 0, 1, 1]) s (ffS s cs) (ffG s cs) (lT cs) aHb (gM 0 s) (aEt s ha s 0 rfl)
  (by kernel_rfl) (by kernel_rfl) rfl (by show 13<65;omega) (fun g=>rfl) (fun b g=>rfl) (fun b g=>rfl) (fun b g=>rfl) (fun b g=>by show 14<65;omega) (fun b g=>by show 15<65;omega) (fun b g=>by show 16<65;omega) (fun b g=>rfl) (fun b=>(eV (by rfl)).2) (fun pre x g hp => ?_)
 obtain ⟨l,hl⟩:=hp;have hlen:pre.length<(gM 0 s).length:=by rw [← hl];simp
 have hx:(gM 0 s)[pre.length]? = some x:=by rw [← hl];simp
 have ht:(gM 0 s).take pre.length=pre:=by rw [← hl];simp
 obtain ⟨_,h2,b,h3,h4⟩:=wL s 0 _ x hx;refine bJw s cs hs _ g x pre.length ?_ h2 (by rw [h4];exact ha b h3)
 have:=bJv cs s pre.length (by omega)
 rw [ht] at this
 exact this
theorem aHc(s:List UInt8)(q:List (Int × Int))(hq:∀ y∈q,0≤y.1∧y.1≤y.2∧y.2≤(s.length:Int))(hl:q.length≤100001):∀ (m i:Nat) (r:List (List UInt8)),i+m=q.length→r.length=q.length→r=(q.take i).map (aBg s)++List.replicate m [] →
  aE Tp 0 (sub (cd Tryz.f165) b5) (mT s q.length i q.length ((q.map spE).flatten) r.length ((r.map stE).flatten)) (.exit 2) (mT s q.length q.length q.length ((q.map spE).flatten) (q.map (aBg s)).length (((q.map (aBg s)).map stE).flatten))
 | 0,i,r,hi,hr,he=>by
  have:i=q.length:=by omega
  subst this;rw [List.take_length,List.replicate_zero,List.append_nil] at he
  subst he;exact .exit (bCc (aCb _)) (by simp)
 | m+1,i,r,hi,hr,he=>by
  have hlt:i<q.length:=by omega
  have hx:q[i]? = some q[i]:=Ch hlt;have hm:=hq _ (iF hlt);have hz:(q[i]).1=(q[i]).1:=rfl;obtain ⟨a,z,hay⟩:∃ a z,q[i]=(a,z):=⟨_,_,rfl⟩;rw [hay] at hx hm
  have hnx:r.set i (aBg s (a,z))=(q.take (i+1)).map (aBg s)++List.replicate m []:=by
   have hli:((q.take i).map (aBg s)).length=i:=by simp;omega
   rw [he,List.set_append,if_neg (by omega),hli,aWa,List.take_add_one,hx]
   simp [List.replicate_succ]
  refine .step (bCb (r':=r.set i (aBg s (a,z))) (by omega) (by omega) hx hm (by omega) (by rw [jZ];simp;omega) (aL (by omega)) rfl (by simp) (by rw [jZ,jZ,List.map_set,Nat.mul_one];rfl)) (aHc s q hq hl m (i+1) _ (by omega) (by simpa using hr) hnx)
theorem qQ(s cs:List UInt8)(hs:s.length≤90000)(ha:∀ b∈s,b.toNat<128){base:Nat}:FV Tp 165 [.p (aC s),.fn 164 [.p (aC cs)] []] base (.own base) [(base,.row 9 (aLf cs s).length (((aLf cs s).map stE).flatten))]:=by
 have hN:=bPo s cs hs ha;have hI:=bJv cs s (gM 0 s).length (Bo _);rw [List.take_length] at hI
 unfold aLf cCd;generalize (gM 0 s).foldl (lT cs) aHb=x at hN hI
 obtain ⟨p,z⟩:=x;rw [tE] at hI
 obtain ⟨q1,q2,q3,q4⟩:=hI;dsimp only at q1 q2 q3 q4
 unfold bJu;dsimp only;have hN:aA Tp 0 (sub (cd Tryz.f165) [1,1,1,0]) (tF s cs 0 [] (-1:Int)) .normal (tF s cs p.length ((p.map spE).flatten) z):=hN;have hrep:∀ n:Nat,List.replicate n (aC ([]:List UInt8))=((List.replicate n ([]:List UInt8)).map stE).flatten:=fun n=>by rw [jZ];simp
 by_cases hz:0≤z
 ·rw [if_pos hz]
  have hL:=aHc s (p++[(z,(s.length:Int))]) (fun y hy=>by
   rcases aAg.1 hy with hy | hy
   ·exact q4 y hy
   ·rw [List.mem_singleton] at hy
    subst hy;exact ⟨hz,by show z≤_;omega,aCb _⟩) (by simp;omega) (p.length+1) 0 (List.replicate (p.length+1) []) (by simp) (by simp) rfl
  have e1:(p++[(z,(s.length:Int))]).length=p.length+1:=by simp
  have e2:(((p++[(z,(s.length:Int))]).map spE).flatten)=((p.map spE).flatten)++[(aB z),(aB (s.length:Int))]:=by simp [spE]
  refine cCg hN hz ⟨rfl,by omega⟩ (by omega) (Gm:=p.length+1) (Ls:=p.length+1) (Jj:=p++[(z,(s.length:Int))]) (Hi:=(p++[(z,(s.length:Int))]).map (aBg s)) ?_
  rw [hrep];rw [e1,List.length_replicate,e2] at hL
  rw [e1,e2];exact hL
 ·rw [if_neg hz]
  have hL:=aHc s p q4 (by omega) p.length 0 (List.replicate p.length []) (by simp) (by simp) rfl
  refine cCh hN (Int.not_le.1 hz) (by omega) (Gm:=p.length) (Ls:=p.length) (Jj:=p) (Hi:=p.map (aBg s)) ?_
  rw [hrep];rw [List.length_replicate] at hL
  exact hL
end KV
end Go.Proofs
end
namespace Go.Proofs
namespace KV
open Tryz
section

noncomputable abbrev aLd:Code:=sub (cd Tryz.f166) [1,0,0,0]
abbrev cK(s:List UInt8):List (List UInt8):=aLf [9,13,32] s
def mS(u:List UInt8):St:=⟨fr 14 [(0,(.p (aC u))),(2,(.p (aC ([]:List UInt8))))],[]⟩
theorem cCb{s Ow:List UInt8}(A2:aE Tp 0 aLd (mS  s) (.exit 0) (mS  Ow)){base:Nat}:FV Tp 166 [(.p (aC s))] base (.p (aC Ow)) []:=FV.fi func166 [A2.k 4 ⟨[1,3,4,5,6,7,8,9,10,11,12],[],[],[]⟩] (gc A2.code gn)
section
variable{u:List UInt8}{Ag:UInt8}(h0:(1:Int)<(u.length:Int))(h1:u[0]? = some Ag)
include h0 h1
theorem bBz{u':List UInt8}(h2:(Ag.toNat:Int)=48)(h3:0≤(1:Int)∧(1:Int)≤(u.length:Int)∧(u.length:Int)≤(u.length:Int))(P9:u'=(u.drop 1)):aA Tp 0 aLd (mS  u) .normal (mS  u'):=by
 subst P9;exact aA.fi ⟨[1,3,4,5,6,7,8,9,10,11,12],[],[],[]⟩ [bT,bT,.x (.v (.int .u8 (Ag.toNat:Int))),bT,bT,bT] (gc h3 (gc (cP h2) (Au (bJ h0) (gt ((u[0]?).map (fun b:UInt8=>PV.v (.int .u8 (b.toNat:Int)))=some (.v (.int .u8 (Ag.toNat:Int)))) (bP h1) (gt (0≤(0:Int)) (by decide) (gc (bJ h0) (g0 h0)))))))
theorem bCa(h2:(Ag.toNat:Int)≠48):aA Tp 0 aLd (mS  u) (.exit 0) (mS  u):=aA.fi ⟨[1,3,4,5,6,7,8,9,10,11,12],[],[],[]⟩ [bT,bT,.x (.v (.int .u8 (Ag.toNat:Int))),bT,bT,bF] (gc (bA h2) (Au (bJ h0) (gt ((u[0]?).map (fun b:UInt8=>PV.v (.int .u8 (b.toNat:Int)))=some (.v (.int .u8 (Ag.toNat:Int)))) (bP h1) (gt (0≤(0:Int)) (by decide) (gc (bJ h0) (g0 h0))))))
end
theorem aEs{u:List UInt8}(h0:(u.length:Int)≤1):aA Tp 0 aLd (mS  u) (.exit 0) (mS  u):=aA.fi ⟨[1,3,4,5,6,7,8,9,10,11,12],[],[],[]⟩ [bF,bF,bF,bF] (Db (aJ h0) gn)
def fT:List UInt8→List UInt8
 | []=>[]
 | b::r=>if 0<r.length∧b=48 then fT r else b::r
theorem aLe:∀ u:List UInt8,aE Tp 0 aLd (mS u) (.exit 0) (mS (fT u))
 | [] => .exit (aEs (by simp)) (by simp)
 | b::r=>by
  by_cases h0:0<r.length
  ·by_cases hb:b=48
   ·have e:fT (b::r)=fT r:=by simp only [fT];rw [if_pos ⟨h0,hb⟩]
    rw [e];exact .step (bBz (u':=r) (Ag:=b) (by simp;omega) rfl (by rw [hb];rfl) (by simp;omega) (by simp)) (aLe r)
   ·have e:fT (b::r)=b::r:=by simp only [fT];rw [if_neg (fun h=>hb h.2)]
    rw [e];exact .exit (bCa (Ag:=b) (by simp;omega) rfl (fun h=>hb (UInt8.toNat_inj.1 (Int.ofNat.inj h)))) (by simp)
  ·have e:fT (b::r)=b::r:=by simp only [fT];rw [if_neg (fun h=>h0 h.1)]
   rw [e];exact .exit (aEs (by simp;omega)) (by simp)
theorem cCc(s:List UInt8){base:Nat}:FV Tp 166 [.p (aC s)] base (.p (aC (fT s))) []:=cCb (aLe s)
end
section
variable {xb:Bool}{k Ad:Int}{i i' nl Fq C9:Nat}

noncomputable abbrev kZ:Code:=pS (cd Tryz.f79) 7 [0,1,0,1]
noncomputable abbrev vB:Code:=pS (cd Tryz.f79) 7 [0,1,0,1,0,1,1,1,0,1,0,0]
def dD(k:Int)(nl Rn:Nat)(Rc:List PV)(me:List (Value × PV))(mk:Nat):St:=⟨fr 176 [(2,(.ptr 0 0)),(4,(.ptr 1 0)),(5,(.ptr 2 0)),(6,(.ptr 3 0)),(7,(.ptr 4 0)),(8,(.ptr 6 0)),(9,(.ptr 7 0)),(10,(.ptr 8 0)),(11,(pI (aN k))),(12,(.ptr 10 0)),(13,(.ptr 11 0)),(35,(.ptr 5 0)),(44,(.fn 175 [] [(.ptr 12 0)]))],[some (.box 23 [(pI k)]),some (.box 26 [(pI 0),(.p bM)]),some (.box 3 [(pI 0)]),some (.box 3 [(pI 0)]),some (.box 27 [(pI 0)]),some (.box 158 [(pI k),(.own 13),(pI 0),(pI 0),(pI 0)]),some (.box 156 [(.ptr 5 0)]),some (.box 260 [(.fn 164 [(.p (aC ([9,13,32]:List UInt8)))] [])]),some (.box 65 [(.p (bO (aK k)))]),some (.mp me mk),some (.box 247 [(.mp 9)]),some (.box 3 [(pI (nl:Int))]),some .dead,some (.row 78 Rn Rc)]⟩
def wK(k:Int)(s:List UInt8):St:=⟨fr 176 [(2,(.ptr 0 0)),(4,(.ptr 1 0)),(5,(.ptr 2 0)),(6,(.ptr 3 0)),(7,(.ptr 4 0)),(8,(.ptr 6 0)),(9,(.ptr 7 0)),(10,(.ptr 8 0)),(11,(pI (aN k))),(12,(.ptr 10 0)),(13,(.ptr 11 0)),(35,(.ptr 5 0)),(44,(.fn 175 [] [(.ptr 12 0)]))],[some (.box 23 [(pI k)]),some (.box 26 [(pI 0),(.p bM)]),some (.box 3 [(pI 0)]),some (.box 3 [(pI 0)]),some (.box 27 [(pI 0)]),some (.box 158 [(pI k),(.p bM),(pI 0),(pI 0),(pI 0)]),some (.box 156 [(.ptr 5 0)]),some (.box 260 [(.fn 164 [(.p (aC ([9,13,32]:List UInt8)))] [])]),some (.box 65 [(.p (bO (aK k)))]),some (.mp [] 0),some (.box 247 [(.mp 9)]),some (.box 3 [(pI 0)]),some (.box 9 [(.p (aC s))])]⟩
theorem cCa{s:List UInt8}{Np:Nat}{R'1 Dz:List (List Cel)}(h0:(within k 0 4)=true)(h1:(s.length:Int)≤65536)(Bi:aA Tp 0 (sub (cd Tryz.f79) b7) (wK k s) .normal (dD k Np R'1.length ((R'1.map rwE).flatten) ((bQ k) Dz) Dz.length))(h3:(R'1.length:Int)≤200)(Jh:R'1.length≤12)(P8:1≤R'1.length)(Nq:∀ x∈R'1,aN k≤(x.length:Int)):FMM Tp 79 [(pI k),(.p (aC s))] [] (.tup [(.p (.agg [(aB k),(.sl ((isG (bV k) R'1).length) (((isG (bV k) R'1).map rwE).flatten))])),(pI 0),(pI 0),(pI 0)]) []:=have k1:=fk 5 (qC k) rfl;have k2:=fk 8 (fF k) rfl;have k3:=mq [13,0] 14 (cDq (D:=R'1) (k:=k) Jh P8 Nq);have k4:=mq [5,13] 14 (bJc (k:=k) (l:=(0:Int)) (f:=(0:Int)) (e:=0) (n:=((isG (bV k) R'1).length)) (cs:=(((isG (bV k) R'1).map rwE).flatten)) rfl);FMM.fi 0 ⟨[],[],[13],[]⟩ func79 [k1.o,bF,bF,k2.o,.c (.fn 175 [] [(.ptr 12 0)]) [(12,(.box 9 [(.p (aC s))]))],Bi.k 1 ⟨(rng [(0,2),(3,1),(14,21),(36,8),(45,110),(169,1)]),(rng [(0,13)]),[],[]⟩,bF,k3.o,k4.o] (gc k4 (gc k3 (gc (aJ h3) (gc Bi (gt (FC Tp 88 [(.p (aC s))] [] 12 (.fn 175 [] [(.ptr 12 0)]) [(12,(.box 9 [(.p (aC s))]))]) (FMM.fcN (k:=1) rfl (ids:=[]) (aGw (s:=s)) (by kernel_rfl)) (gc k2 (gc (aJ h1) (gc (aO h0) (gc k1 gn)))))))))
def dZ(k:Int)(nl:Nat)(R m:List (List Cel))(xl Aa:List UInt8)(i fsn:Nat)(fsc:List PV):St:=⟨fr 176 [(2,(.ptr 0 0)),(4,(.ptr 1 0)),(5,(.ptr 2 0)),(6,(.ptr 3 0)),(7,(.ptr 4 0)),(8,(.ptr 6 0)),(9,(.ptr 7 0)),(10,(.ptr 8 0)),(11,(pI (aN k))),(12,(.ptr 10 0)),(13,(.ptr 11 0)),(14,(.p (aC xl))),(15,(.own 14)),(35,(.ptr 5 0)),(44,(.fn 175 [] [(.ptr 12 0)])),(45,(.p (aC xl))),(47,(pI (nl:Int))),(48,(pI (((nl+1):Nat):Int))),(49,(.p (aC xl))),(50,(.fn 164 [(.p (aC ([9,13,32]:List UInt8)))] [])),(51,(.own 14)),(52,(.own 14)),(53,(pI ((cK xl).length:Int))),(54,(pB (((cK xl).length:Int) == 0))),(55,(pB (((cK xl).length:Int) == 0))),(56,(.own 14)),(57,(.ptr 14 0)),(58,(.p (aC Aa))),(59,(pB (decide (Aa=([107,108,105,115,116,101,114]:List UInt8))))),(60,(pB (decide (Aa=([107,108,105,115,116,101,114]:List UInt8))))),(61,(pB (decide (Aa=([107,108,105,115,116,101,114]:List UInt8))))),(62,(.own 14)),(63,(.ptr 14 0)),(64,(.p (aC Aa))),(65,(pB (decide (Aa=([115,117,109]:List UInt8))))),(66,(pB (decide (Aa=([115,117,109]:List UInt8))))),(67,(.own 14)),(68,(pI ((cK xl).length:Int))),(69,(pI (i:Int)))],[some (.box 23 [(pI k)]),some (.box 26 [(pI 0),(.p bM)]),some (.box 3 [(pI 0)]),some (.box 3 [(pI 0)]),some (.box 27 [(pI 0)]),some (.box 158 [(pI k),(.own 13),(pI 0),(pI 0),(pI 0)]),some (.box 156 [(.ptr 5 0)]),some (.box 260 [(.fn 164 [(.p (aC ([9,13,32]:List UInt8)))] [])]),some (.box 65 [(.p (bO (aK k)))]),some (.mp ((bQ k) m) m.length),some (.box 247 [(.mp 9)]),some (.box 3 [(pI (((nl+1):Nat):Int))]),some .dead,some (.row 78 R.length ((R.map rwE).flatten)),some (.row 9 fsn fsc)]⟩
theorem bBn{R m:List (List Cel)}{xl:List UInt8}(h0:inR (((nl+1):Nat):Int))(Dn:xl.length≤90000)(E5:∀ b∈xl,b.toNat<128)(h3:((cK xl).length:Int)=0)(De:Fq=(nl+1)):cC Tp 14 13 kZ (pF (dD k nl R.length ((R.map rwE).flatten) ((bQ k) m) m.length) 45 46 14 xl xb) .normal (dD k Fq R.length ((R.map rwE).flatten) ((bQ k) m) m.length).m:=by
 subst De;have raw:cC Tp 14 13 kZ (pF (dD k nl R.length ((R.map rwE).flatten) ((bQ k) m) m.length) 45 46 14 xl xb) .normal (dD k (nl+1) R.length ((R.map rwE).flatten) ((bQ k) m) m.length).m:=⟨⟨fr 176 [(2,(.ptr 0 0)),(4,(.ptr 1 0)),(5,(.ptr 2 0)),(6,(.ptr 3 0)),(7,(.ptr 4 0)),(8,(.ptr 6 0)),(9,(.ptr 7 0)),(10,(.ptr 8 0)),(11,(pI (aN k))),(12,(.ptr 10 0)),(13,(.ptr 11 0)),(35,(.ptr 5 0)),(44,(.fn 175 [] [(.ptr 12 0)]))],[some (.box 23 [(pI k)]),some (.box 26 [(pI 0),(.p bM)]),some (.box 3 [(pI 0)]),some (.box 3 [(pI 0)]),some (.box 27 [(pI 0)]),some (.box 158 [(pI k),(.own 13),(pI 0),(pI 0),(pI 0)]),some (.box 156 [(.ptr 5 0)]),some (.box 260 [(.fn 164 [(.p (aC ([9,13,32]:List UInt8)))] [])]),some (.box 65 [(.p (bO (aK k)))]),some (.mp ((bQ k) m) m.length),some (.box 247 [(.mp 9)]),some (.box 3 [(pI (((nl+1):Nat):Int))]),some .dead,some (.row 78 R.length ((R.map rwE).flatten))]⟩,⟨[],[13],[],[]⟩,aA.fin (g:=⟨(rng [(0,2),(3,1),(14,21),(36,8),(45,110),(169,1)]),[],[],[]⟩) (o:=[.c (.own 14) [(14,(.row 9 ((cK xl).length) (((cK xl).map stE).flatten)))],bT,bT,bT,bT,bT]) (l:=[_,_,_,_,_,_,_]) (by kernel_rfl) (B5 (cP h3) (gc (fk 14 (qQ xl [9,13,32] Dn E5) rfl) (gc h0 gn))),by kernel_rfl,(⟨fr 176 [(2,(.ptr 0 0)),(4,(.ptr 1 0)),(5,(.ptr 2 0)),(6,(.ptr 3 0)),(7,(.ptr 4 0)),(8,(.ptr 6 0)),(9,(.ptr 7 0)),(10,(.ptr 8 0)),(11,(pI (aN k))),(12,(.ptr 10 0)),(13,(.ptr 11 0)),(35,(.ptr 5 0)),(44,(.fn 175 [] [(.ptr 12 0)]))],[some (.box 23 [(pI k)]),some (.box 26 [(pI 0),(.p bM)]),some (.box 3 [(pI 0)]),some (.box 3 [(pI 0)]),some (.box 27 [(pI 0)]),some (.box 158 [(pI k),(.own 13),(pI 0),(pI 0),(pI 0)]),some (.box 156 [(.ptr 5 0)]),some (.box 260 [(.fn 164 [(.p (aC ([9,13,32]:List UInt8)))] [])]),some (.box 65 [(.p (bO (aK k)))]),some (.mp ((bQ k) m) m.length),some (.box 247 [(.mp 9)]),some (.box 3 [(pI (((nl+1):Nat):Int))]),some .dead,some (.row 78 R.length ((R.map rwE).flatten))]⟩:St).t,by kernel_rfl⟩
 exact raw
theorem bBo{R m:List (List Cel)}{xl Aa:List UInt8}(h0:inR (((nl+1):Nat):Int))(Dn:xl.length≤90000)(E5:∀ b∈xl,b.toNat<128)(h3:((cK xl).length:Int)≠0)(h4:0≤(0:Int)∧(0:Int)<((cK xl).length:Int))(h5:(cK xl)[0]? = some (Aa))(h6:Aa=([107,108,105,115,116,101,114]:List UInt8))(De:Fq=(nl+1)):cC Tp 14 13 kZ (pF (dD k nl R.length ((R.map rwE).flatten) ((bQ k) m) m.length) 45 46 14 xl xb) .normal (dD k Fq R.length ((R.map rwE).flatten) ((bQ k) m) m.length).m:=by
 subst De
 have raw:cC Tp 14 13 kZ (pF (dD k nl R.length ((R.map rwE).flatten) ((bQ k) m) m.length) 45 46 14 xl xb) .normal (dD k (nl+1) R.length ((R.map rwE).flatten) ((bQ k) m) m.length).m:=⟨⟨fr 176 [(2,(.ptr 0 0)),(4,(.ptr 1 0)),(5,(.ptr 2 0)),(6,(.ptr 3 0)),(7,(.ptr 4 0)),(8,(.ptr 6 0)),(9,(.ptr 7 0)),(10,(.ptr 8 0)),(11,(pI (aN k))),(12,(.ptr 10 0)),(13,(.ptr 11 0)),(35,(.ptr 5 0)),(44,(.fn 175 [] [(.ptr 12 0)]))],[some (.box 23 [(pI k)]),some (.box 26 [(pI 0),(.p bM)]),some (.box 3 [(pI 0)]),some (.box 3 [(pI 0)]),some (.box 27 [(pI 0)]),some (.box 158 [(pI k),(.own 13),(pI 0),(pI 0),(pI 0)]),some (.box 156 [(.ptr 5 0)]),some (.box 260 [(.fn 164 [(.p (aC ([9,13,32]:List UInt8)))] [])]),some (.box 65 [(.p (bO (aK k)))]),some (.mp ((bQ k) m) m.length),some (.box 247 [(.mp 9)]),some (.box 3 [(pI (((nl+1):Nat):Int))]),some .dead,some (.row 78 R.length ((R.map rwE).flatten))]⟩,⟨[],[13],[],[]⟩,aA.fin (g:=⟨(rng [(0,2),(3,1),(14,21),(36,8),(45,110),(169,1)]),[],[],[]⟩) (o:=[.c (.own 14) [(14,(.row 9 ((cK xl).length) (((cK xl).map stE).flatten)))],bF,bF,bF,.x (aC Aa),bF,bF,bT,bT,bT,bT,bT]) (l:=[(decide (Aa=([107,108,105,115,116,101,114]:List UInt8)))=true,(decide (Aa=([107,108,105,115,116,101,114]:List UInt8)))=true,(decide (Aa=([107,108,105,115,116,101,114]:List UInt8)))=true,(decide (Aa=([107,108,105,115,116,101,114]:List UInt8)))=true,(decide (Aa=([107,108,105,115,116,101,114]:List UInt8)))=true,_,_,(((cK xl).map stE).flatten)[0]? = some (aC Aa),_,_,_,_,_,_]) (by kernel_rfl) (B5 (decide_eq_true h6) (Au (bA h3) (gc (aQ (E:=stE) (i:=0) (f:=0) (k:=1) (fun _=>rfl) h5 rfl) (gc (bA h3) (gc h4 (Au (bA h3) (gc (fk 14 (qQ xl [9,13,32] Dn E5) rfl) (gc h0 gn)))))))),by kernel_rfl,(⟨fr 176 [(2,(.ptr 0 0)),(4,(.ptr 1 0)),(5,(.ptr 2 0)),(6,(.ptr 3 0)),(7,(.ptr 4 0)),(8,(.ptr 6 0)),(9,(.ptr 7 0)),(10,(.ptr 8 0)),(11,(pI (aN k))),(12,(.ptr 10 0)),(13,(.ptr 11 0)),(35,(.ptr 5 0)),(44,(.fn 175 [] [(.ptr 12 0)]))],[some (.box 23 [(pI k)]),some (.box 26 [(pI 0),(.p bM)]),some (.box 3 [(pI 0)]),some (.box 3 [(pI 0)]),some (.box 27 [(pI 0)]),some (.box 158 [(pI k),(.own 13),(pI 0),(pI 0),(pI 0)]),some (.box 156 [(.ptr 5 0)]),some (.box 260 [(.fn 164 [(.p (aC ([9,13,32]:List UInt8)))] [])]),some (.box 65 [(.p (bO (aK k)))]),some (.mp ((bQ k) m) m.length),some (.box 247 [(.mp 9)]),some (.box 3 [(pI (((nl+1):Nat):Int))]),some .dead,some (.row 78 R.length ((R.map rwE).flatten))]⟩:St).t,by kernel_rfl⟩
 exact raw
theorem bBp{R m:List (List Cel)}{xl Aa:List UInt8}(h0:inR (((nl+1):Nat):Int))(Dn:xl.length≤90000)(E5:∀ b∈xl,b.toNat<128)(h3:((cK xl).length:Int)≠0)(h4:0≤(0:Int)∧(0:Int)<((cK xl).length:Int))(h5:(cK xl)[0]? = some (Aa))(h6:Aa≠([107,108,105,115,116,101,114]:List UInt8))(h7:Aa=([115,117,109]:List UInt8))(De:Fq=(nl+1)):cC Tp 14 13 kZ (pF (dD k nl R.length ((R.map rwE).flatten) ((bQ k) m) m.length) 45 46 14 xl xb) .normal (dD k Fq R.length ((R.map rwE).flatten) ((bQ k) m) m.length).m:=by
 subst De
 have raw:cC Tp 14 13 kZ (pF (dD k nl R.length ((R.map rwE).flatten) ((bQ k) m) m.length) 45 46 14 xl xb) .normal (dD k (nl+1) R.length ((R.map rwE).flatten) ((bQ k) m) m.length).m:=⟨⟨fr 176 [(2,(.ptr 0 0)),(4,(.ptr 1 0)),(5,(.ptr 2 0)),(6,(.ptr 3 0)),(7,(.ptr 4 0)),(8,(.ptr 6 0)),(9,(.ptr 7 0)),(10,(.ptr 8 0)),(11,(pI (aN k))),(12,(.ptr 10 0)),(13,(.ptr 11 0)),(35,(.ptr 5 0)),(44,(.fn 175 [] [(.ptr 12 0)]))],[some (.box 23 [(pI k)]),some (.box 26 [(pI 0),(.p bM)]),some (.box 3 [(pI 0)]),some (.box 3 [(pI 0)]),some (.box 27 [(pI 0)]),some (.box 158 [(pI k),(.own 13),(pI 0),(pI 0),(pI 0)]),some (.box 156 [(.ptr 5 0)]),some (.box 260 [(.fn 164 [(.p (aC ([9,13,32]:List UInt8)))] [])]),some (.box 65 [(.p (bO (aK k)))]),some (.mp ((bQ k) m) m.length),some (.box 247 [(.mp 9)]),some (.box 3 [(pI (((nl+1):Nat):Int))]),some .dead,some (.row 78 R.length ((R.map rwE).flatten))]⟩,⟨[],[13],[],[]⟩,aA.fin (g:=⟨(rng [(0,2),(3,1),(14,21),(36,8),(45,110),(169,1)]),[],[],[]⟩) (o:=[.c (.own 14) [(14,(.row 9 ((cK xl).length) (((cK xl).map stE).flatten)))],bF,bF,bF,.x (aC Aa),bF,bF,bF,bF,bF,.x (aC Aa),bF,bF,bT]) (l:=[(decide (Aa=([115,117,109]:List UInt8)))=true,(decide (Aa=([107,108,105,115,116,101,114]:List UInt8)))=false,(decide (Aa=([107,108,105,115,116,101,114]:List UInt8)))=false,(((cK xl).map stE).flatten)[0]? = some (aC Aa),(decide (Aa=([107,108,105,115,116,101,114]:List UInt8)))=false,_,(decide (Aa=([107,108,105,115,116,101,114]:List UInt8)))=false,(decide (Aa=([107,108,105,115,116,101,114]:List UInt8)))=false,_,_,(((cK xl).map stE).flatten)[0]? = some (aC Aa),_,_,_,_,_,_]) (by kernel_rfl) (gc (decide_eq_true h7) (Au (decide_eq_false h6) (gc (aQ (E:=stE) (i:=0) (f:=0) (k:=1) (fun _=>rfl) h5 rfl) (gc (decide_eq_false h6) (gc h4 (Au (decide_eq_false h6) (Au (bA h3) (gc (aQ (E:=stE) (i:=0) (f:=0) (k:=1) (fun _=>rfl) h5 rfl) (gc (bA h3) (gc h4 (Au (bA h3) (gc (fk 14 (qQ xl [9,13,32] Dn E5) rfl) (gc h0 gn))))))))))))),by kernel_rfl,(⟨fr 176 [(2,(.ptr 0 0)),(4,(.ptr 1 0)),(5,(.ptr 2 0)),(6,(.ptr 3 0)),(7,(.ptr 4 0)),(8,(.ptr 6 0)),(9,(.ptr 7 0)),(10,(.ptr 8 0)),(11,(pI (aN k))),(12,(.ptr 10 0)),(13,(.ptr 11 0)),(35,(.ptr 5 0)),(44,(.fn 175 [] [(.ptr 12 0)]))],[some (.box 23 [(pI k)]),some (.box 26 [(pI 0),(.p bM)]),some (.box 3 [(pI 0)]),some (.box 3 [(pI 0)]),some (.box 27 [(pI 0)]),some (.box 158 [(pI k),(.own 13),(pI 0),(pI 0),(pI 0)]),some (.box 156 [(.ptr 5 0)]),some (.box 260 [(.fn 164 [(.p (aC ([9,13,32]:List UInt8)))] [])]),some (.box 65 [(.p (bO (aK k)))]),some (.mp ((bQ k) m) m.length),some (.box 247 [(.mp 9)]),some (.box 3 [(pI (((nl+1):Nat):Int))]),some .dead,some (.row 78 R.length ((R.map rwE).flatten))]⟩:St).t,by kernel_rfl⟩
 exact raw
theorem bBq{R m:List (List Cel)}{xl Aa:List UInt8}{Ah:List (List UInt8)}{Ae C5:List Cel}(h0:inR (((nl+1):Nat):Int))(Dn:xl.length≤90000)(E5:∀ b∈xl,b.toNat<128)(h3:((cK xl).length:Int)≠0)(h4:0≤(0:Int)∧(0:Int)<((cK xl).length:Int))(h5:(cK xl)[0]? = some (Aa))(h6:Aa≠([107,108,105,115,116,101,114]:List UInt8))(h7:Aa≠([115,117,109]:List UInt8))(H7:aE Tp 14 vB (dZ k nl R m xl Aa 0 ((cK xl).length) (((cK xl).map stE).flatten)) (.exit 3) (dZ k nl R m xl Aa C9 Ah.length ((Ah.map stE).flatten)))(F8:∀ u∈Ah,u.length≤90000)(E8:rdL (aK k) Ah 0 = .inl Ae)(F9:Ah.length=(aK k).length)(Be:aN k≤(Ae.length:Int))(B1:eO Tp 186 ((bQ k) m) (k3V (aM k Ae 0) (aM k Ae 1) (aM k Ae 2)))(Cs:(iE ((bQ k) m) (k3V (aM k Ae 0) (aM k Ae 1) (aM k Ae 2)))=true)(Dd:iA ((bQ k) m) (k3V (aM k Ae 0) (aM k Ae 1) (aM k Ae 2))=some (.sl C5.length ((C5.map cE).flatten)))(Ea:C5.length≤100000)(Ek:(decide (C5=Ae))=false)(De:Fq=(nl+1)):cC Tp 14 13 kZ (pF (dD k nl R.length ((R.map rwE).flatten) ((bQ k) m) m.length) 45 46 14 xl xb) .ret (bX (bX (bX (bX (dD k Fq R.length ((R.map rwE).flatten) ((bQ k) m) m.length) 5 (some (.box 158 [(pI k),(.own 13),(pI (((nl+1):Nat):Int)),(pI 1),(pI 5)]))) 2 (some (.box 3 [(pI (((nl+1):Nat):Int))]))) 3 (some (.box 3 [(pI 1)]))) 4 (some (.box 27 [(pI 5)]))).m:=by
 subst De
 have raw:cC Tp 14 13 kZ (pF (dD k nl R.length ((R.map rwE).flatten) ((bQ k) m) m.length) 45 46 14 xl xb) .ret (bX (bX (bX (bX (dD k (nl+1) R.length ((R.map rwE).flatten) ((bQ k) m) m.length) 5 (some (.box 158 [(pI k),(.own 13),(pI (((nl+1):Nat):Int)),(pI 1),(pI 5)]))) 2 (some (.box 3 [(pI (((nl+1):Nat):Int))]))) 3 (some (.box 3 [(pI 1)]))) 4 (some (.box 27 [(pI 5)]))).m:=⟨⟨fr 176 [(2,(.ptr 0 0)),(4,(.ptr 1 0)),(5,(.ptr 2 0)),(6,(.ptr 3 0)),(7,(.ptr 4 0)),(8,(.ptr 6 0)),(9,(.ptr 7 0)),(10,(.ptr 8 0)),(11,(pI (aN k))),(12,(.ptr 10 0)),(13,(.ptr 11 0)),(35,(.ptr 5 0))],[some (.box 23 [(pI k)]),some (.box 26 [(pI 0),(.p bM)]),some (.box 3 [(pI (((nl+1):Nat):Int))]),some (.box 3 [(pI 1)]),some (.box 27 [(pI 5)]),some (.box 158 [(pI k),(.own 13),(pI (((nl+1):Nat):Int)),(pI 1),(pI 5)]),some (.box 156 [(.ptr 5 0)]),some (.box 260 [(.fn 164 [(.p (aC ([9,13,32]:List UInt8)))] [])]),some (.box 65 [(.p (bO (aK k)))]),some (.mp ((bQ k) m) m.length),some (.box 247 [(.mp 9)]),some (.box 3 [(pI (((nl+1):Nat):Int))]),some .dead,some (.row 78 R.length ((R.map rwE).flatten))]⟩,⟨[],[13],[],[]⟩,aA.fin (g:=⟨(rng [(0,2),(3,1),(14,21),(36,8),(45,110),(169,1)]),[],[],[]⟩) (o:=[.c (.own 14) [(14,(.row 9 ((cK xl).length) (((cK xl).map stE).flatten)))],bF,bF,bF,.x (aC Aa),bF,bF,bF,bF,bF,.x (aC Aa),bF,bF,bF,.k 4 ⟨(rng [(0,2),(3,1),(16,1),(22,13),(36,8),(46,1),(70,22),(169,1)]),[14],[],[]⟩ (.exit 3) (dZ k nl R m xl Aa C9 Ah.length ((Ah.map stE).flatten)),.c (.fn 176 [] [(.ptr 15 0),(.ptr 16 0)]) [(5,(.box 158 [(pI k),(.own 13),(pI 0),(pI 0),(pI 0)])),(13,(.row 78 R.length ((R.map rwE).flatten))),(15,(.box 156 [(.ptr 5 0)])),(16,(.box 3 [(pI (((nl+1):Nat):Int))]))],.g 1 ⟨[44],[15,16],[14],[]⟩,.c (.tup [(.own 16),(pB true)]) [(5,(.box 158 [(pI k),(.own 13),(pI 0),(pI 0),(pI 0)])),(13,(.row 78 R.length ((R.map rwE).flatten))),(14,(.box 156 [(.ptr 5 0)])),(15,(.box 3 [(pI (((nl+1):Nat):Int))])),(16,(.row 80 Ae.length ((Ae.map cE).flatten)))],bF,.g 1 ⟨[],[14,15],[16],[]⟩,.c (.p (.agg [(aB (aM k Ae 0)),(aB (aM k Ae 1)),(aB (aM k Ae 2))])) [],bT,.x (.sl C5.length ((C5.map cE).flatten)),.c (pB (decide (C5=Ae))) [],bT,bT,.c (pB false) [(14,(.box 156 [(.ptr 5 0)])),(15,(.box 3 [(pI (((nl+1):Nat):Int))])),(5,(.box 158 [(pI k),(.own 13),(pI (((nl+1):Nat):Int)),(pI 1),(pI 5)])),(13,(.row 78 R.length ((R.map rwE).flatten)))],bT,bT,bT,.c (.tup [(.p (.agg [(aB 0),bM])),(pI (((nl+1):Nat):Int)),(pI 1),(pI 5)]) [(5,(.box 158 [(pI k),(.own 13),(pI (((nl+1):Nat):Int)),(pI 1),(pI 5)])),(13,(.row 78 R.length ((R.map rwE).flatten)))]]) (l:=[FC Tp 94 [(.ptr 5 0)] [(5,(.box 158 [(pI k),(.own 13),(pI (((nl+1):Nat):Int)),(pI 1),(pI 5)])),(13,(.row 78 R.length ((R.map rwE).flatten)))] 16 (.tup [(.p (.agg [(aB 0),bM])),(pI (((nl+1):Nat):Int)),(pI 1),(pI 5)]) [(5,(.box 158 [(pI k),(.own 13),(pI (((nl+1):Nat):Int)),(pI 1),(pI 5)])),(13,(.row 78 R.length ((R.map rwE).flatten)))],true=true,_,_,FC Tp 176 [(pI 1),(pI 5),(.ptr 14 0),(.ptr 15 0)] [(14,(.box 156 [(.ptr 5 0)])),(15,(.box 3 [(pI (((nl+1):Nat):Int))])),(5,(.box 158 [(pI k),(.own 13),(pI 0),(pI 0),(pI 0)])),(13,(.row 78 R.length ((R.map rwE).flatten)))] 16 (pB false) [(14,(.box 156 [(.ptr 5 0)])),(15,(.box 3 [(pI (((nl+1):Nat):Int))])),(5,(.box 158 [(pI k),(.own 13),(pI (((nl+1):Nat):Int)),(pI 1),(pI 5)])),(13,(.row 78 R.length ((R.map rwE).flatten)))],_,_,_,_,_,_,_,false=false,FC Tp 91 [(.ptr 5 0),(.p (.sl Ah.length ((Ah.map stE).flatten))),(.fn 176 [] [(.ptr 14 0),(.ptr 15 0)])] [(5,(.box 158 [(pI k),(.own 13),(pI 0),(pI 0),(pI 0)])),(14,(.box 156 [(.ptr 5 0)])),(15,(.box 3 [(pI (((nl+1):Nat):Int))])),(13,(.row 78 R.length ((R.map rwE).flatten)))] 16 (.tup [(.own 16),(pB true)]) [(5,(.box 158 [(pI k),(.own 13),(pI 0),(pI 0),(pI 0)])),(13,(.row 78 R.length ((R.map rwE).flatten))),(14,(.box 156 [(.ptr 5 0)])),(15,(.box 3 [(pI (((nl+1):Nat):Int))])),(16,(.row 80 Ae.length ((Ae.map cE).flatten)))],FC Tp 89 [(.ptr 5 0),(pI (((nl+1):Nat):Int))] [(5,(.box 158 [(pI k),(.own 13),(pI 0),(pI 0),(pI 0)])),(13,(.row 78 R.length ((R.map rwE).flatten)))] 15 (.fn 176 [] [(.ptr 15 0),(.ptr 16 0)]) [(5,(.box 158 [(pI k),(.own 13),(pI 0),(pI 0),(pI 0)])),(13,(.row 78 R.length ((R.map rwE).flatten))),(15,(.box 156 [(.ptr 5 0)])),(16,(.box 3 [(pI (((nl+1):Nat):Int))]))],_,(decide (Aa=([115,117,109]:List UInt8)))=false,(decide (Aa=([107,108,105,115,116,101,114]:List UInt8)))=false,(decide (Aa=([107,108,105,115,116,101,114]:List UInt8)))=false,(((cK xl).map stE).flatten)[0]? = some (aC Aa),(decide (Aa=([107,108,105,115,116,101,114]:List UInt8)))=false,_,(decide (Aa=([107,108,105,115,116,101,114]:List UInt8)))=false,(decide (Aa=([107,108,105,115,116,101,114]:List UInt8)))=false,_,_,(((cK xl).map stE).flatten)[0]? = some (aC Aa),_,_,_,_,_,_]) (by kernel_rfl) (gc (FMM.fc (ids:=[5,13]) (kT (k:=k) (l:=(((nl+1):Nat):Int)) (f:=(1:Int)) (e:=(5:Int)) (n:=R.length) (cs:=((R.map rwE).flatten)) (by decide)) (by kernel_rfl)) (gc rfl (Au (cN Ek) (gc (FMM.fc (ids:=[14,15,5,13]) (cU 1 5 (((nl+1):Nat):Int) k 0 0 0 R) (by kernel_rfl)) (Au (cN Ek) (gc (fk 16 (bIc C5 Ae Ea) rfl) (gc Dd (gc Cs (gc B1 (gc (fk 16 (eK k Ae Be) rfl) (gc rfl (gc (FMM.fcN (k:=1) rfl (ids:=[5,13,14,15]) (lS (((nl+1):Nat):Int) R 0 0 F8 E8 F9) (by kernel_rfl)) (gc (FMM.fcN (k:=2) rfl (ids:=[5,13]) (fI (ln:=(((nl+1):Nat):Int)) (k:=k) (l:=(0:Int)) (f:=(0:Int)) (e:=(0:Int)) (R:=R)) (by kernel_rfl)) (gc H7.code (gc (decide_eq_false h7) (Au (decide_eq_false h6) (gc (aQ (E:=stE) (i:=0) (f:=0) (k:=1) (fun _=>rfl) h5 rfl) (gc (decide_eq_false h6) (gc h4 (Au (decide_eq_false h6) (Au (bA h3) (gc (aQ (E:=stE) (i:=0) (f:=0) (k:=1) (fun _=>rfl) h5 rfl) (gc (bA h3) (gc h4 (Au (bA h3) (gc (fk 14 (qQ xl [9,13,32] Dn E5) rfl) (gc h0 gn))))))))))))))))))))))))))),by kernel_rfl,(⟨fr 176 [(2,(.ptr 0 0)),(4,(.ptr 1 0)),(5,(.ptr 2 0)),(6,(.ptr 3 0)),(7,(.ptr 4 0)),(8,(.ptr 6 0)),(9,(.ptr 7 0)),(10,(.ptr 8 0)),(11,(pI (aN k))),(12,(.ptr 10 0)),(13,(.ptr 11 0)),(35,(.ptr 5 0))],[some (.box 23 [(pI k)]),some (.box 26 [(pI 0),(.p bM)]),some (.box 3 [(pI (((nl+1):Nat):Int))]),some (.box 3 [(pI 1)]),some (.box 27 [(pI 5)]),some (.box 158 [(pI k),(.own 13),(pI (((nl+1):Nat):Int)),(pI 1),(pI 5)]),some (.box 156 [(.ptr 5 0)]),some (.box 260 [(.fn 164 [(.p (aC ([9,13,32]:List UInt8)))] [])]),some (.box 65 [(.p (bO (aK k)))]),some (.mp ((bQ k) m) m.length),some (.box 247 [(.mp 9)]),some (.box 3 [(pI (((nl+1):Nat):Int))]),some .dead,some (.row 78 R.length ((R.map rwE).flatten))]⟩:St).t,by kernel_rfl⟩
 exact raw
theorem bBr{R m:List (List Cel)}{xl Aa:List UInt8}{Ah:List (List UInt8)}{Ae C5:List Cel}(h0:inR (((nl+1):Nat):Int))(Dn:xl.length≤90000)(E5:∀ b∈xl,b.toNat<128)(h3:((cK xl).length:Int)≠0)(h4:0≤(0:Int)∧(0:Int)<((cK xl).length:Int))(h5:(cK xl)[0]? = some (Aa))(h6:Aa≠([107,108,105,115,116,101,114]:List UInt8))(h7:Aa≠([115,117,109]:List UInt8))(H7:aE Tp 14 vB (dZ k nl R m xl Aa 0 ((cK xl).length) (((cK xl).map stE).flatten)) (.exit 3) (dZ k nl R m xl Aa C9 Ah.length ((Ah.map stE).flatten)))(F8:∀ u∈Ah,u.length≤90000)(E8:rdL (aK k) Ah 0 = .inl Ae)(F9:Ah.length=(aK k).length)(Be:aN k≤(Ae.length:Int))(B1:eO Tp 186 ((bQ k) m) (k3V (aM k Ae 0) (aM k Ae 1) (aM k Ae 2)))(Cs:(iE ((bQ k) m) (k3V (aM k Ae 0) (aM k Ae 1) (aM k Ae 2)))=true)(Dd:iA ((bQ k) m) (k3V (aM k Ae 0) (aM k Ae 1) (aM k Ae 2))=some (.sl C5.length ((C5.map cE).flatten)))(Ea:C5.length≤100000)(Ek:(decide (C5=Ae))=true)(De:Fq=(nl+1)):cC Tp 14 13 kZ (pF (dD k nl R.length ((R.map rwE).flatten) ((bQ k) m) m.length) 45 46 14 xl xb) .normal (dD k Fq R.length ((R.map rwE).flatten) ((bQ k) m) m.length).m:=by
 subst De
 have raw:cC Tp 14 13 kZ (pF (dD k nl R.length ((R.map rwE).flatten) ((bQ k) m) m.length) 45 46 14 xl xb) .normal (dD k (nl+1) R.length ((R.map rwE).flatten) ((bQ k) m) m.length).m:=⟨⟨fr 176 [(2,(.ptr 0 0)),(4,(.ptr 1 0)),(5,(.ptr 2 0)),(6,(.ptr 3 0)),(7,(.ptr 4 0)),(8,(.ptr 6 0)),(9,(.ptr 7 0)),(10,(.ptr 8 0)),(11,(pI (aN k))),(12,(.ptr 10 0)),(13,(.ptr 11 0)),(35,(.ptr 5 0))],[some (.box 23 [(pI k)]),some (.box 26 [(pI 0),(.p bM)]),some (.box 3 [(pI 0)]),some (.box 3 [(pI 0)]),some (.box 27 [(pI 0)]),some (.box 158 [(pI k),(.own 13),(pI 0),(pI 0),(pI 0)]),some (.box 156 [(.ptr 5 0)]),some (.box 260 [(.fn 164 [(.p (aC ([9,13,32]:List UInt8)))] [])]),some (.box 65 [(.p (bO (aK k)))]),some (.mp ((bQ k) m) m.length),some (.box 247 [(.mp 9)]),some (.box 3 [(pI (((nl+1):Nat):Int))]),some .dead,some (.row 78 R.length ((R.map rwE).flatten))]⟩,⟨[],[13],[],[]⟩,aA.fin (g:=⟨(rng [(0,2),(3,1),(14,21),(36,8),(45,110),(169,1)]),[],[],[]⟩) (o:=[.c (.own 14) [(14,(.row 9 ((cK xl).length) (((cK xl).map stE).flatten)))],bF,bF,bF,.x (aC Aa),bF,bF,bF,bF,bF,.x (aC Aa),bF,bF,bF,.k 4 ⟨(rng [(0,2),(3,1),(16,1),(22,13),(36,8),(46,1),(70,22),(169,1)]),[14],[],[]⟩ (.exit 3) (dZ k nl R m xl Aa C9 Ah.length ((Ah.map stE).flatten)),.c (.fn 176 [] [(.ptr 15 0),(.ptr 16 0)]) [(5,(.box 158 [(pI k),(.own 13),(pI 0),(pI 0),(pI 0)])),(13,(.row 78 R.length ((R.map rwE).flatten))),(15,(.box 156 [(.ptr 5 0)])),(16,(.box 3 [(pI (((nl+1):Nat):Int))]))],.g 1 ⟨[44],[15,16],[14],[]⟩,.c (.tup [(.own 16),(pB true)]) [(5,(.box 158 [(pI k),(.own 13),(pI 0),(pI 0),(pI 0)])),(13,(.row 78 R.length ((R.map rwE).flatten))),(14,(.box 156 [(.ptr 5 0)])),(15,(.box 3 [(pI (((nl+1):Nat):Int))])),(16,(.row 80 Ae.length ((Ae.map cE).flatten)))],bF,.g 1 ⟨[],[14,15],[16],[]⟩,.c (.p (.agg [(aB (aM k Ae 0)),(aB (aM k Ae 1)),(aB (aM k Ae 2))])) [],bT,.x (.sl C5.length ((C5.map cE).flatten)),.c (pB (decide (C5=Ae))) [],bF,bF,bF,bF]) (l:=[_,_,_,_,_,_,_,_,_,false=false,FC Tp 91 [(.ptr 5 0),(.p (.sl Ah.length ((Ah.map stE).flatten))),(.fn 176 [] [(.ptr 14 0),(.ptr 15 0)])] [(5,(.box 158 [(pI k),(.own 13),(pI 0),(pI 0),(pI 0)])),(14,(.box 156 [(.ptr 5 0)])),(15,(.box 3 [(pI (((nl+1):Nat):Int))])),(13,(.row 78 R.length ((R.map rwE).flatten)))] 16 (.tup [(.own 16),(pB true)]) [(5,(.box 158 [(pI k),(.own 13),(pI 0),(pI 0),(pI 0)])),(13,(.row 78 R.length ((R.map rwE).flatten))),(14,(.box 156 [(.ptr 5 0)])),(15,(.box 3 [(pI (((nl+1):Nat):Int))])),(16,(.row 80 Ae.length ((Ae.map cE).flatten)))],FC Tp 89 [(.ptr 5 0),(pI (((nl+1):Nat):Int))] [(5,(.box 158 [(pI k),(.own 13),(pI 0),(pI 0),(pI 0)])),(13,(.row 78 R.length ((R.map rwE).flatten)))] 15 (.fn 176 [] [(.ptr 15 0),(.ptr 16 0)]) [(5,(.box 158 [(pI k),(.own 13),(pI 0),(pI 0),(pI 0)])),(13,(.row 78 R.length ((R.map rwE).flatten))),(15,(.box 156 [(.ptr 5 0)])),(16,(.box 3 [(pI (((nl+1):Nat):Int))]))],_,(decide (Aa=([115,117,109]:List UInt8)))=false,(decide (Aa=([107,108,105,115,116,101,114]:List UInt8)))=false,(decide (Aa=([107,108,105,115,116,101,114]:List UInt8)))=false,(((cK xl).map stE).flatten)[0]? = some (aC Aa),(decide (Aa=([107,108,105,115,116,101,114]:List UInt8)))=false,_,(decide (Aa=([107,108,105,115,116,101,114]:List UInt8)))=false,(decide (Aa=([107,108,105,115,116,101,114]:List UInt8)))=false,_,_,(((cK xl).map stE).flatten)[0]? = some (aC Aa),_,_,_,_,_,_]) (by kernel_rfl) (Db (aO Ek) (gc (fk 16 (bIc C5 Ae Ea) rfl) (gc Dd (gc Cs (gc B1 (gc (fk 16 (eK k Ae Be) rfl) (gc rfl (gc (FMM.fcN (k:=1) rfl (ids:=[5,13,14,15]) (lS (((nl+1):Nat):Int) R 0 0 F8 E8 F9) (by kernel_rfl)) (gc (FMM.fcN (k:=2) rfl (ids:=[5,13]) (fI (ln:=(((nl+1):Nat):Int)) (k:=k) (l:=(0:Int)) (f:=(0:Int)) (e:=(0:Int)) (R:=R)) (by kernel_rfl)) (gc H7.code (gc (decide_eq_false h7) (Au (decide_eq_false h6) (gc (aQ (E:=stE) (i:=0) (f:=0) (k:=1) (fun _=>rfl) h5 rfl) (gc (decide_eq_false h6) (gc h4 (Au (decide_eq_false h6) (Au (bA h3) (gc (aQ (E:=stE) (i:=0) (f:=0) (k:=1) (fun _=>rfl) h5 rfl) (gc (bA h3) (gc h4 (Au (bA h3) (gc (fk 14 (qQ xl [9,13,32] Dn E5) rfl) (gc h0 gn))))))))))))))))))))))),by kernel_rfl,(⟨fr 176 [(2,(.ptr 0 0)),(4,(.ptr 1 0)),(5,(.ptr 2 0)),(6,(.ptr 3 0)),(7,(.ptr 4 0)),(8,(.ptr 6 0)),(9,(.ptr 7 0)),(10,(.ptr 8 0)),(11,(pI (aN k))),(12,(.ptr 10 0)),(13,(.ptr 11 0)),(35,(.ptr 5 0))],[some (.box 23 [(pI k)]),some (.box 26 [(pI 0),(.p bM)]),some (.box 3 [(pI 0)]),some (.box 3 [(pI 0)]),some (.box 27 [(pI 0)]),some (.box 158 [(pI k),(.own 13),(pI 0),(pI 0),(pI 0)]),some (.box 156 [(.ptr 5 0)]),some (.box 260 [(.fn 164 [(.p (aC ([9,13,32]:List UInt8)))] [])]),some (.box 65 [(.p (bO (aK k)))]),some (.mp ((bQ k) m) m.length),some (.box 247 [(.mp 9)]),some (.box 3 [(pI (((nl+1):Nat):Int))]),some .dead,some (.row 78 R.length ((R.map rwE).flatten))]⟩:St).t,by kernel_rfl⟩
 exact raw
theorem bBs{R m:List (List Cel)}{xl Aa:List UInt8}{Ah:List (List UInt8)}{Ae:List Cel}{R' m':List (List Cel)}(h0:inR (((nl+1):Nat):Int))(Dn:xl.length≤90000)(E5:∀ b∈xl,b.toNat<128)(h3:((cK xl).length:Int)≠0)(h4:0≤(0:Int)∧(0:Int)<((cK xl).length:Int))(h5:(cK xl)[0]? = some (Aa))(h6:Aa≠([107,108,105,115,116,101,114]:List UInt8))(h7:Aa≠([115,117,109]:List UInt8))(H7:aE Tp 14 vB (dZ k nl R m xl Aa 0 ((cK xl).length) (((cK xl).map stE).flatten)) (.exit 3) (dZ k nl R m xl Aa C9 Ah.length ((Ah.map stE).flatten)))(F8:∀ u∈Ah,u.length≤90000)(E8:rdL (aK k) Ah 0 = .inl Ae)(F9:Ah.length=(aK k).length)(Be:aN k≤(Ae.length:Int))(B1:eO Tp 186 ((bQ k) m) (k3V (aM k Ae 0) (aM k Ae 1) (aM k Ae 2)))(Cs:(iE ((bQ k) m) (k3V (aM k Ae 0) (aM k Ae 1) (aM k Ae 2)))=false)(Dd:[(PV.sl Ae.length ((Ae.map cE).flatten))].length=1*1∧R.length+1≤1000000)(De:Fq=(nl+1))(Cv:R'.length=(R.length+1))(Cw:(R'.map rwE).flatten=(((R.map rwE).flatten)++[(PV.sl Ae.length ((Ae.map cE).flatten))]))(E9:(bQ k) m'=(((bQ k) m)++[((k3V (aM k Ae 0) (aM k Ae 1) (aM k Ae 2)),(.sl Ae.length ((Ae.map cE).flatten)))]))(Fa:m'.length=(m.length+1)):cC Tp 14 13 kZ (pF (dD k nl R.length ((R.map rwE).flatten) ((bQ k) m) m.length) 45 46 14 xl xb) .normal (dD k Fq R'.length ((R'.map rwE).flatten) ((bQ k) m') m'.length).m:=by
 subst De
 have raw:cC Tp 14 13 kZ (pF (dD k nl R.length ((R.map rwE).flatten) ((bQ k) m) m.length) 45 46 14 xl xb) .normal (dD k (nl+1) (R.length+1) (((R.map rwE).flatten)++[(PV.sl Ae.length ((Ae.map cE).flatten))]) (((bQ k) m)++[((k3V (aM k Ae 0) (aM k Ae 1) (aM k Ae 2)),(.sl Ae.length ((Ae.map cE).flatten)))]) (m.length+1)).m:=⟨⟨fr 176 [(2,(.ptr 0 0)),(4,(.ptr 1 0)),(5,(.ptr 2 0)),(6,(.ptr 3 0)),(7,(.ptr 4 0)),(8,(.ptr 6 0)),(9,(.ptr 7 0)),(10,(.ptr 8 0)),(11,(pI (aN k))),(12,(.ptr 10 0)),(13,(.ptr 11 0)),(35,(.ptr 5 0))],[some (.box 23 [(pI k)]),some (.box 26 [(pI 0),(.p bM)]),some (.box 3 [(pI 0)]),some (.box 3 [(pI 0)]),some (.box 27 [(pI 0)]),some (.box 158 [(pI k),(.own 14),(pI 0),(pI 0),(pI 0)]),some (.box 156 [(.ptr 5 0)]),some (.box 260 [(.fn 164 [(.p (aC ([9,13,32]:List UInt8)))] [])]),some (.box 65 [(.p (bO (aK k)))]),some (.mp (((bQ k) m)++[((k3V (aM k Ae 0) (aM k Ae 1) (aM k Ae 2)),(.sl Ae.length ((Ae.map cE).flatten)))]) (m.length+1)),some (.box 247 [(.mp 9)]),some (.box 3 [(pI (((nl+1):Nat):Int))]),some .dead,some .dead,some (.row 78 (R.length+1) (((R.map rwE).flatten)++[(PV.sl Ae.length ((Ae.map cE).flatten))]))]⟩,⟨[],[14],[],[]⟩,aA.fin (g:=⟨(rng [(0,2),(3,1),(14,21),(36,8),(45,110),(169,1)]),[17],[],[]⟩) (o:=[.c (.own 14) [(14,(.row 9 ((cK xl).length) (((cK xl).map stE).flatten)))],bF,bF,bF,.x (aC Aa),bF,bF,bF,bF,bF,.x (aC Aa),bF,bF,bF,.k 4 ⟨(rng [(0,2),(3,1),(16,1),(22,13),(36,8),(46,1),(70,22),(169,1)]),[14],[],[]⟩ (.exit 3) (dZ k nl R m xl Aa C9 Ah.length ((Ah.map stE).flatten)),.c (.fn 176 [] [(.ptr 15 0),(.ptr 16 0)]) [(5,(.box 158 [(pI k),(.own 13),(pI 0),(pI 0),(pI 0)])),(13,(.row 78 R.length ((R.map rwE).flatten))),(15,(.box 156 [(.ptr 5 0)])),(16,(.box 3 [(pI (((nl+1):Nat):Int))]))],.g 1 ⟨[44],[15,16],[14],[]⟩,.c (.tup [(.own 16),(pB true)]) [(5,(.box 158 [(pI k),(.own 13),(pI 0),(pI 0),(pI 0)])),(13,(.row 78 R.length ((R.map rwE).flatten))),(14,(.box 156 [(.ptr 5 0)])),(15,(.box 3 [(pI (((nl+1):Nat):Int))])),(16,(.row 80 Ae.length ((Ae.map cE).flatten)))],bF,.g 1 ⟨[],[14,15],[16],[]⟩,.c (.p (.agg [(aB (aM k Ae 0)),(aB (aM k Ae 1)),(aB (aM k Ae 2))])) [],bF,.c (.p (.agg [(aB (aM k Ae 0)),(aB (aM k Ae 1)),(aB (aM k Ae 2))])) [],bF]) (l:=[_,_,_,_,_,_,_,false=false,FC Tp 91 [(.ptr 5 0),(.p (.sl Ah.length ((Ah.map stE).flatten))),(.fn 176 [] [(.ptr 14 0),(.ptr 15 0)])] [(5,(.box 158 [(pI k),(.own 13),(pI 0),(pI 0),(pI 0)])),(14,(.box 156 [(.ptr 5 0)])),(15,(.box 3 [(pI (((nl+1):Nat):Int))])),(13,(.row 78 R.length ((R.map rwE).flatten)))] 16 (.tup [(.own 16),(pB true)]) [(5,(.box 158 [(pI k),(.own 13),(pI 0),(pI 0),(pI 0)])),(13,(.row 78 R.length ((R.map rwE).flatten))),(14,(.box 156 [(.ptr 5 0)])),(15,(.box 3 [(pI (((nl+1):Nat):Int))])),(16,(.row 80 Ae.length ((Ae.map cE).flatten)))],FC Tp 89 [(.ptr 5 0),(pI (((nl+1):Nat):Int))] [(5,(.box 158 [(pI k),(.own 13),(pI 0),(pI 0),(pI 0)])),(13,(.row 78 R.length ((R.map rwE).flatten)))] 15 (.fn 176 [] [(.ptr 15 0),(.ptr 16 0)]) [(5,(.box 158 [(pI k),(.own 13),(pI 0),(pI 0),(pI 0)])),(13,(.row 78 R.length ((R.map rwE).flatten))),(15,(.box 156 [(.ptr 5 0)])),(16,(.box 3 [(pI (((nl+1):Nat):Int))]))],_,(decide (Aa=([115,117,109]:List UInt8)))=false,(decide (Aa=([107,108,105,115,116,101,114]:List UInt8)))=false,(decide (Aa=([107,108,105,115,116,101,114]:List UInt8)))=false,(((cK xl).map stE).flatten)[0]? = some (aC Aa),(decide (Aa=([107,108,105,115,116,101,114]:List UInt8)))=false,_,(decide (Aa=([107,108,105,115,116,101,114]:List UInt8)))=false,(decide (Aa=([107,108,105,115,116,101,114]:List UInt8)))=false,_,_,(((cK xl).map stE).flatten)[0]? = some (aC Aa),_,_,_,_,_,_]) (by kernel_rfl) (gc Dd (gc Cs (gc B1 (gc (fk 16 (eK k Ae Be) rfl) (gc Cs (gc B1 (gc (fk 16 (eK k Ae Be) rfl) (gc rfl (gc (FMM.fcN (k:=1) rfl (ids:=[5,13,14,15]) (lS (((nl+1):Nat):Int) R 0 0 F8 E8 F9) (by kernel_rfl)) (gc (FMM.fcN (k:=2) rfl (ids:=[5,13]) (fI (ln:=(((nl+1):Nat):Int)) (k:=k) (l:=(0:Int)) (f:=(0:Int)) (e:=(0:Int)) (R:=R)) (by kernel_rfl)) (gc H7.code (gc (decide_eq_false h7) (Au (decide_eq_false h6) (gc (aQ (E:=stE) (i:=0) (f:=0) (k:=1) (fun _=>rfl) h5 rfl) (gc (decide_eq_false h6) (gc h4 (Au (decide_eq_false h6) (Au (bA h3) (gc (aQ (E:=stE) (i:=0) (f:=0) (k:=1) (fun _=>rfl) h5 rfl) (gc (bA h3) (gc h4 (Au (bA h3) (gc (fk 14 (qQ xl [9,13,32] Dn E5) rfl) (gc h0 gn)))))))))))))))))))))))),by kernel_rfl,(⟨fr 176 [(2,(.ptr 0 0)),(4,(.ptr 1 0)),(5,(.ptr 2 0)),(6,(.ptr 3 0)),(7,(.ptr 4 0)),(8,(.ptr 6 0)),(9,(.ptr 7 0)),(10,(.ptr 8 0)),(11,(pI (aN k))),(12,(.ptr 10 0)),(13,(.ptr 11 0)),(35,(.ptr 5 0))],[some (.box 23 [(pI k)]),some (.box 26 [(pI 0),(.p bM)]),some (.box 3 [(pI 0)]),some (.box 3 [(pI 0)]),some (.box 27 [(pI 0)]),some (.box 158 [(pI k),(.own 14),(pI 0),(pI 0),(pI 0)]),some (.box 156 [(.ptr 5 0)]),some (.box 260 [(.fn 164 [(.p (aC ([9,13,32]:List UInt8)))] [])]),some (.box 65 [(.p (bO (aK k)))]),some (.mp (((bQ k) m)++[((k3V (aM k Ae 0) (aM k Ae 1) (aM k Ae 2)),(.sl Ae.length ((Ae.map cE).flatten)))]) (m.length+1)),some (.box 247 [(.mp 9)]),some (.box 3 [(pI (((nl+1):Nat):Int))]),some .dead,some .dead,some (.row 78 (R.length+1) (((R.map rwE).flatten)++[(PV.sl Ae.length ((Ae.map cE).flatten))]))]⟩:St).t,by kernel_rfl⟩
 exact raw.cast (by rw [Cv,Cw,E9,Fa])
theorem bBt{R m:List (List Cel)}{xl Aa:List UInt8}{Ah:List (List UInt8)}{Ae:List Cel}(h0:inR (((nl+1):Nat):Int))(Dn:xl.length≤90000)(E5:∀ b∈xl,b.toNat<128)(h3:((cK xl).length:Int)≠0)(h4:0≤(0:Int)∧(0:Int)<((cK xl).length:Int))(h5:(cK xl)[0]? = some (Aa))(h6:Aa≠([107,108,105,115,116,101,114]:List UInt8))(h7:Aa≠([115,117,109]:List UInt8))(H7:aE Tp 14 vB (dZ k nl R m xl Aa 0 ((cK xl).length) (((cK xl).map stE).flatten)) (.exit 3) (dZ k nl R m xl Aa C9 Ah.length ((Ah.map stE).flatten)))(F8:∀ u∈Ah,u.length≤90000)(E8:rdL (aK k) Ah 0 = .inl Ae)(F9:Ah.length≠(aK k).length)(De:Fq=(nl+1)):cC Tp 14 13 kZ (pF (dD k nl R.length ((R.map rwE).flatten) ((bQ k) m) m.length) 45 46 14 xl xb) .ret (bX (bX (bX (bX (dD k Fq R.length ((R.map rwE).flatten) ((bQ k) m) m.length) 5 (some (.box 158 [(pI k),(.own 13),(pI (((nl+1):Nat):Int)),(pI (((aK k).length+1:Nat):Int)),(pI 11)]))) 2 (some (.box 3 [(pI (((nl+1):Nat):Int))]))) 3 (some (.box 3 [(pI (((aK k).length+1:Nat):Int))]))) 4 (some (.box 27 [(pI 11)]))).m:=by
 subst De
 have raw:cC Tp 14 13 kZ (pF (dD k nl R.length ((R.map rwE).flatten) ((bQ k) m) m.length) 45 46 14 xl xb) .ret (bX (bX (bX (bX (dD k (nl+1) R.length ((R.map rwE).flatten) ((bQ k) m) m.length) 5 (some (.box 158 [(pI k),(.own 13),(pI (((nl+1):Nat):Int)),(pI (((aK k).length+1:Nat):Int)),(pI 11)]))) 2 (some (.box 3 [(pI (((nl+1):Nat):Int))]))) 3 (some (.box 3 [(pI (((aK k).length+1:Nat):Int))]))) 4 (some (.box 27 [(pI 11)]))).m:=⟨⟨fr 176 [(2,(.ptr 0 0)),(4,(.ptr 1 0)),(5,(.ptr 2 0)),(6,(.ptr 3 0)),(7,(.ptr 4 0)),(8,(.ptr 6 0)),(9,(.ptr 7 0)),(10,(.ptr 8 0)),(11,(pI (aN k))),(12,(.ptr 10 0)),(13,(.ptr 11 0)),(35,(.ptr 5 0))],[some (.box 23 [(pI k)]),some (.box 26 [(pI 0),(.p bM)]),some (.box 3 [(pI (((nl+1):Nat):Int))]),some (.box 3 [(pI (((aK k).length+1:Nat):Int))]),some (.box 27 [(pI 11)]),some (.box 158 [(pI k),(.own 13),(pI (((nl+1):Nat):Int)),(pI (((aK k).length+1:Nat):Int)),(pI 11)]),some (.box 156 [(.ptr 5 0)]),some (.box 260 [(.fn 164 [(.p (aC ([9,13,32]:List UInt8)))] [])]),some (.box 65 [(.p (bO (aK k)))]),some (.mp ((bQ k) m) m.length),some (.box 247 [(.mp 9)]),some (.box 3 [(pI (((nl+1):Nat):Int))]),some .dead,some (.row 78 R.length ((R.map rwE).flatten))]⟩,⟨[],[13],[],[]⟩,aA.fin (g:=⟨(rng [(0,2),(3,1),(14,21),(36,8),(45,110),(169,1)]),[],[],[]⟩) (o:=[.c (.own 14) [(14,(.row 9 ((cK xl).length) (((cK xl).map stE).flatten)))],bF,bF,bF,.x (aC Aa),bF,bF,bF,bF,bF,.x (aC Aa),bF,bF,bF,.k 4 ⟨(rng [(0,2),(3,1),(16,1),(22,13),(36,8),(46,1),(70,22),(169,1)]),[14],[],[]⟩ (.exit 3) (dZ k nl R m xl Aa C9 Ah.length ((Ah.map stE).flatten)),.c (.fn 176 [] [(.ptr 15 0),(.ptr 16 0)]) [(5,(.box 158 [(pI k),(.own 13),(pI 0),(pI 0),(pI 0)])),(13,(.row 78 R.length ((R.map rwE).flatten))),(15,(.box 156 [(.ptr 5 0)])),(16,(.box 3 [(pI (((nl+1):Nat):Int))]))],.g 1 ⟨[44],[15,16],[14],[]⟩,.c (.tup [(.own 16),(pB false)]) [(5,(.box 158 [(pI k),(.own 13),(pI (((nl+1):Nat):Int)),(pI (((aK k).length+1:Nat):Int)),(pI 11)])),(13,(.row 78 R.length ((R.map rwE).flatten))),(14,(.box 156 [(.ptr 5 0)])),(15,(.box 3 [(pI (((nl+1):Nat):Int))])),(16,(.row 80 Ae.length ((Ae.map cE).flatten)))],bT,.c (.tup [(.p (.agg [(aB 0),bM])),(pI (((nl+1):Nat):Int)),(pI (((aK k).length+1:Nat):Int)),(pI 11)]) [(5,(.box 158 [(pI k),(.own 13),(pI (((nl+1):Nat):Int)),(pI (((aK k).length+1:Nat):Int)),(pI 11)])),(13,(.row 78 R.length ((R.map rwE).flatten)))]]) (l:=[FC Tp 94 [(.ptr 5 0)] [(5,(.box 158 [(pI k),(.own 13),(pI (((nl+1):Nat):Int)),(pI (((aK k).length+1:Nat):Int)),(pI 11)])),(13,(.row 78 R.length ((R.map rwE).flatten)))] 17 (.tup [(.p (.agg [(aB 0),bM])),(pI (((nl+1):Nat):Int)),(pI (((aK k).length+1:Nat):Int)),(pI 11)]) [(5,(.box 158 [(pI k),(.own 13),(pI (((nl+1):Nat):Int)),(pI (((aK k).length+1:Nat):Int)),(pI 11)])),(13,(.row 78 R.length ((R.map rwE).flatten)))],true=true,FC Tp 91 [(.ptr 5 0),(.p (.sl Ah.length ((Ah.map stE).flatten))),(.fn 176 [] [(.ptr 14 0),(.ptr 15 0)])] [(5,(.box 158 [(pI k),(.own 13),(pI 0),(pI 0),(pI 0)])),(14,(.box 156 [(.ptr 5 0)])),(15,(.box 3 [(pI (((nl+1):Nat):Int))])),(13,(.row 78 R.length ((R.map rwE).flatten)))] 16 (.tup [(.own 16),(pB false)]) [(5,(.box 158 [(pI k),(.own 13),(pI (((nl+1):Nat):Int)),(pI (((aK k).length+1:Nat):Int)),(pI 11)])),(13,(.row 78 R.length ((R.map rwE).flatten))),(14,(.box 156 [(.ptr 5 0)])),(15,(.box 3 [(pI (((nl+1):Nat):Int))])),(16,(.row 80 Ae.length ((Ae.map cE).flatten)))],FC Tp 89 [(.ptr 5 0),(pI (((nl+1):Nat):Int))] [(5,(.box 158 [(pI k),(.own 13),(pI 0),(pI 0),(pI 0)])),(13,(.row 78 R.length ((R.map rwE).flatten)))] 15 (.fn 176 [] [(.ptr 15 0),(.ptr 16 0)]) [(5,(.box 158 [(pI k),(.own 13),(pI 0),(pI 0),(pI 0)])),(13,(.row 78 R.length ((R.map rwE).flatten))),(15,(.box 156 [(.ptr 5 0)])),(16,(.box 3 [(pI (((nl+1):Nat):Int))]))],_,(decide (Aa=([115,117,109]:List UInt8)))=false,(decide (Aa=([107,108,105,115,116,101,114]:List UInt8)))=false,(decide (Aa=([107,108,105,115,116,101,114]:List UInt8)))=false,(((cK xl).map stE).flatten)[0]? = some (aC Aa),(decide (Aa=([107,108,105,115,116,101,114]:List UInt8)))=false,_,(decide (Aa=([107,108,105,115,116,101,114]:List UInt8)))=false,(decide (Aa=([107,108,105,115,116,101,114]:List UInt8)))=false,_,_,(((cK xl).map stE).flatten)[0]? = some (aC Aa),_,_,_,_,_,_]) (by kernel_rfl) (gc (FMM.fc (ids:=[5,13]) (kT (k:=k) (l:=(((nl+1):Nat):Int)) (f:=(((aK k).length+1:Nat):Int)) (e:=(11:Int)) (n:=R.length) (cs:=((R.map rwE).flatten)) (by decide)) (by kernel_rfl)) (gc rfl (gc (FMM.fcN (k:=1) rfl (ids:=[5,13,14,15]) (aKm (((nl+1):Nat):Int) R 0 0 F8 E8 F9) (by kernel_rfl)) (gc (FMM.fcN (k:=2) rfl (ids:=[5,13]) (fI (ln:=(((nl+1):Nat):Int)) (k:=k) (l:=(0:Int)) (f:=(0:Int)) (e:=(0:Int)) (R:=R)) (by kernel_rfl)) (gc H7.code (gc (decide_eq_false h7) (Au (decide_eq_false h6) (gc (aQ (E:=stE) (i:=0) (f:=0) (k:=1) (fun _=>rfl) h5 rfl) (gc (decide_eq_false h6) (gc h4 (Au (decide_eq_false h6) (Au (bA h3) (gc (aQ (E:=stE) (i:=0) (f:=0) (k:=1) (fun _=>rfl) h5 rfl) (gc (bA h3) (gc h4 (Au (bA h3) (gc (fk 14 (qQ xl [9,13,32] Dn E5) rfl) (gc h0 gn)))))))))))))))))),by kernel_rfl,(⟨fr 176 [(2,(.ptr 0 0)),(4,(.ptr 1 0)),(5,(.ptr 2 0)),(6,(.ptr 3 0)),(7,(.ptr 4 0)),(8,(.ptr 6 0)),(9,(.ptr 7 0)),(10,(.ptr 8 0)),(11,(pI (aN k))),(12,(.ptr 10 0)),(13,(.ptr 11 0)),(35,(.ptr 5 0))],[some (.box 23 [(pI k)]),some (.box 26 [(pI 0),(.p bM)]),some (.box 3 [(pI (((nl+1):Nat):Int))]),some (.box 3 [(pI (((aK k).length+1:Nat):Int))]),some (.box 27 [(pI 11)]),some (.box 158 [(pI k),(.own 13),(pI (((nl+1):Nat):Int)),(pI (((aK k).length+1:Nat):Int)),(pI 11)]),some (.box 156 [(.ptr 5 0)]),some (.box 260 [(.fn 164 [(.p (aC ([9,13,32]:List UInt8)))] [])]),some (.box 65 [(.p (bO (aK k)))]),some (.mp ((bQ k) m) m.length),some (.box 247 [(.mp 9)]),some (.box 3 [(pI (((nl+1):Nat):Int))]),some .dead,some (.row 78 R.length ((R.map rwE).flatten))]⟩:St).t,by kernel_rfl⟩
 exact raw
theorem bBu{R m:List (List Cel)}{xl Aa:List UInt8}{Ah:List (List UInt8)}{B9 B4:Int}(h0:inR (((nl+1):Nat):Int))(Dn:xl.length≤90000)(E5:∀ b∈xl,b.toNat<128)(h3:((cK xl).length:Int)≠0)(h4:0≤(0:Int)∧(0:Int)<((cK xl).length:Int))(h5:(cK xl)[0]? = some (Aa))(h6:Aa≠([107,108,105,115,116,101,114]:List UInt8))(h7:Aa≠([115,117,109]:List UInt8))(H7:aE Tp 14 vB (dZ k nl R m xl Aa 0 ((cK xl).length) (((cK xl).map stE).flatten)) (.exit 3) (dZ k nl R m xl Aa C9 Ah.length ((Ah.map stE).flatten)))(F8:∀ u∈Ah,u.length≤90000)(E8:rdL (aK k) Ah 0 = .inr (B9,B4))(Nr:B4≠0)(De:Fq=(nl+1)):cC Tp 14 13 kZ (pF (dD k nl R.length ((R.map rwE).flatten) ((bQ k) m) m.length) 45 46 14 xl xb) .ret (bX (bX (bX (bX (dD k Fq R.length ((R.map rwE).flatten) ((bQ k) m) m.length) 5 (some (.box 158 [(pI k),(.own 13),(pI (((nl+1):Nat):Int)),(pI B9),(pI B4)]))) 2 (some (.box 3 [(pI (((nl+1):Nat):Int))]))) 3 (some (.box 3 [(pI B9)]))) 4 (some (.box 27 [(pI B4)]))).m:=by
 subst De
 have raw:cC Tp 14 13 kZ (pF (dD k nl R.length ((R.map rwE).flatten) ((bQ k) m) m.length) 45 46 14 xl xb) .ret (bX (bX (bX (bX (dD k (nl+1) R.length ((R.map rwE).flatten) ((bQ k) m) m.length) 5 (some (.box 158 [(pI k),(.own 13),(pI (((nl+1):Nat):Int)),(pI B9),(pI B4)]))) 2 (some (.box 3 [(pI (((nl+1):Nat):Int))]))) 3 (some (.box 3 [(pI B9)]))) 4 (some (.box 27 [(pI B4)]))).m:=⟨⟨fr 176 [(2,(.ptr 0 0)),(4,(.ptr 1 0)),(5,(.ptr 2 0)),(6,(.ptr 3 0)),(7,(.ptr 4 0)),(8,(.ptr 6 0)),(9,(.ptr 7 0)),(10,(.ptr 8 0)),(11,(pI (aN k))),(12,(.ptr 10 0)),(13,(.ptr 11 0)),(35,(.ptr 5 0))],[some (.box 23 [(pI k)]),some (.box 26 [(pI 0),(.p bM)]),some (.box 3 [(pI (((nl+1):Nat):Int))]),some (.box 3 [(pI B9)]),some (.box 27 [(pI B4)]),some (.box 158 [(pI k),(.own 13),(pI (((nl+1):Nat):Int)),(pI B9),(pI B4)]),some (.box 156 [(.ptr 5 0)]),some (.box 260 [(.fn 164 [(.p (aC ([9,13,32]:List UInt8)))] [])]),some (.box 65 [(.p (bO (aK k)))]),some (.mp ((bQ k) m) m.length),some (.box 247 [(.mp 9)]),some (.box 3 [(pI (((nl+1):Nat):Int))]),some .dead,some (.row 78 R.length ((R.map rwE).flatten))]⟩,⟨[],[13],[],[]⟩,aA.fin (g:=⟨(rng [(0,2),(3,1),(14,21),(36,8),(45,110),(169,1)]),[],[],[]⟩) (o:=[.c (.own 14) [(14,(.row 9 ((cK xl).length) (((cK xl).map stE).flatten)))],bF,bF,bF,.x (aC Aa),bF,bF,bF,bF,bF,.x (aC Aa),bF,bF,bF,.k 4 ⟨(rng [(0,2),(3,1),(16,1),(22,13),(36,8),(46,1),(70,22),(169,1)]),[14],[],[]⟩ (.exit 3) (dZ k nl R m xl Aa C9 Ah.length ((Ah.map stE).flatten)),.c (.fn 176 [] [(.ptr 15 0),(.ptr 16 0)]) [(5,(.box 158 [(pI k),(.own 13),(pI 0),(pI 0),(pI 0)])),(13,(.row 78 R.length ((R.map rwE).flatten))),(15,(.box 156 [(.ptr 5 0)])),(16,(.box 3 [(pI (((nl+1):Nat):Int))]))],.g 1 ⟨[44],[15,16],[14],[]⟩,.c (.tup [(.p bM),(pB false)]) [(5,(.box 158 [(pI k),(.own 13),(pI (((nl+1):Nat):Int)),(pI B9),(pI B4)])),(13,(.row 78 R.length ((R.map rwE).flatten))),(14,(.box 156 [(.ptr 5 0)])),(15,(.box 3 [(pI (((nl+1):Nat):Int))]))],bT,.c (.tup [(.p (.agg [(aB 0),bM])),(pI (((nl+1):Nat):Int)),(pI B9),(pI B4)]) [(5,(.box 158 [(pI k),(.own 13),(pI (((nl+1):Nat):Int)),(pI B9),(pI B4)])),(13,(.row 78 R.length ((R.map rwE).flatten)))]]) (l:=[FC Tp 94 [(.ptr 5 0)] [(5,(.box 158 [(pI k),(.own 13),(pI (((nl+1):Nat):Int)),(pI B9),(pI B4)])),(13,(.row 78 R.length ((R.map rwE).flatten)))] 16 (.tup [(.p (.agg [(aB 0),bM])),(pI (((nl+1):Nat):Int)),(pI B9),(pI B4)]) [(5,(.box 158 [(pI k),(.own 13),(pI (((nl+1):Nat):Int)),(pI B9),(pI B4)])),(13,(.row 78 R.length ((R.map rwE).flatten)))],true=true,FC Tp 91 [(.ptr 5 0),(.p (.sl Ah.length ((Ah.map stE).flatten))),(.fn 176 [] [(.ptr 14 0),(.ptr 15 0)])] [(5,(.box 158 [(pI k),(.own 13),(pI 0),(pI 0),(pI 0)])),(14,(.box 156 [(.ptr 5 0)])),(15,(.box 3 [(pI (((nl+1):Nat):Int))])),(13,(.row 78 R.length ((R.map rwE).flatten)))] 16 (.tup [(.p bM),(pB false)]) [(5,(.box 158 [(pI k),(.own 13),(pI (((nl+1):Nat):Int)),(pI B9),(pI B4)])),(13,(.row 78 R.length ((R.map rwE).flatten))),(14,(.box 156 [(.ptr 5 0)])),(15,(.box 3 [(pI (((nl+1):Nat):Int))]))],FC Tp 89 [(.ptr 5 0),(pI (((nl+1):Nat):Int))] [(5,(.box 158 [(pI k),(.own 13),(pI 0),(pI 0),(pI 0)])),(13,(.row 78 R.length ((R.map rwE).flatten)))] 15 (.fn 176 [] [(.ptr 15 0),(.ptr 16 0)]) [(5,(.box 158 [(pI k),(.own 13),(pI 0),(pI 0),(pI 0)])),(13,(.row 78 R.length ((R.map rwE).flatten))),(15,(.box 156 [(.ptr 5 0)])),(16,(.box 3 [(pI (((nl+1):Nat):Int))]))],_,(decide (Aa=([115,117,109]:List UInt8)))=false,(decide (Aa=([107,108,105,115,116,101,114]:List UInt8)))=false,(decide (Aa=([107,108,105,115,116,101,114]:List UInt8)))=false,(((cK xl).map stE).flatten)[0]? = some (aC Aa),(decide (Aa=([107,108,105,115,116,101,114]:List UInt8)))=false,_,(decide (Aa=([107,108,105,115,116,101,114]:List UInt8)))=false,(decide (Aa=([107,108,105,115,116,101,114]:List UInt8)))=false,_,_,(((cK xl).map stE).flatten)[0]? = some (aC Aa),_,_,_,_,_,_]) (by kernel_rfl) (gc (FMM.fc (ids:=[5,13]) (kT (k:=k) (l:=(((nl+1):Nat):Int)) (f:=B9) (e:=B4) (n:=R.length) (cs:=((R.map rwE).flatten)) Nr) (by kernel_rfl)) (gc rfl (gc (FMM.fcN (k:=0) rfl (ids:=[5,13,14,15]) (aSq (((nl+1):Nat):Int) R 0 0 F8 E8).2 (by kernel_rfl)) (gc (FMM.fcN (k:=2) rfl (ids:=[5,13]) (fI (ln:=(((nl+1):Nat):Int)) (k:=k) (l:=(0:Int)) (f:=(0:Int)) (e:=(0:Int)) (R:=R)) (by kernel_rfl)) (gc H7.code (gc (decide_eq_false h7) (Au (decide_eq_false h6) (gc (aQ (E:=stE) (i:=0) (f:=0) (k:=1) (fun _=>rfl) h5 rfl) (gc (decide_eq_false h6) (gc h4 (Au (decide_eq_false h6) (Au (bA h3) (gc (aQ (E:=stE) (i:=0) (f:=0) (k:=1) (fun _=>rfl) h5 rfl) (gc (bA h3) (gc h4 (Au (bA h3) (gc (fk 14 (qQ xl [9,13,32] Dn E5) rfl) (gc h0 gn)))))))))))))))))),by kernel_rfl,(⟨fr 176 [(2,(.ptr 0 0)),(4,(.ptr 1 0)),(5,(.ptr 2 0)),(6,(.ptr 3 0)),(7,(.ptr 4 0)),(8,(.ptr 6 0)),(9,(.ptr 7 0)),(10,(.ptr 8 0)),(11,(pI (aN k))),(12,(.ptr 10 0)),(13,(.ptr 11 0)),(35,(.ptr 5 0))],[some (.box 23 [(pI k)]),some (.box 26 [(pI 0),(.p bM)]),some (.box 3 [(pI (((nl+1):Nat):Int))]),some (.box 3 [(pI B9)]),some (.box 27 [(pI B4)]),some (.box 158 [(pI k),(.own 13),(pI (((nl+1):Nat):Int)),(pI B9),(pI B4)]),some (.box 156 [(.ptr 5 0)]),some (.box 260 [(.fn 164 [(.p (aC ([9,13,32]:List UInt8)))] [])]),some (.box 65 [(.p (bO (aK k)))]),some (.mp ((bQ k) m) m.length),some (.box 247 [(.mp 9)]),some (.box 3 [(pI (((nl+1):Nat):Int))]),some .dead,some (.row 78 R.length ((R.map rwE).flatten))]⟩:St).t,by kernel_rfl⟩
 exact raw
section
variable{xl:List UInt8}(h0:(i:Int)<((cK xl).length:Int))(h1:(i:Int)<((aK k).length:Int))(h2:(aK k)[i]? = some Ad)
include h0 h1 h2
theorem bBv{R m:List (List Cel)}{Aa:List UInt8}{fs:List (List UInt8)}{Hh:List UInt8}{Lr:List (List UInt8)}(h3:Ad=0)(h4:0≤(i:Int)∧(i:Int)<(fs.length:Int))(h5:fs[i]? = some (Hh))(h6:(i*1)<((fs.map stE).flatten).length)(h7:cq i)(Ai:i'=(i+1))(Kt:Lr.length=fs.length)(Ku:(Lr.map stE).flatten=(((fs.map stE).flatten).set (i*1) (aC (fT Hh)))):aA Tp 14 vB (dZ k nl R m xl Aa i fs.length ((fs.map stE).flatten)) .normal (dZ k nl R m xl Aa i' Lr.length ((Lr.map stE).flatten)):=by
 subst Ai;have k1:=fk 15 (cCc Hh) rfl;rw [Kt,Ku];exact aA.fi (gI a8 [14]) (rT 5++[.x (aB Ad),bT,bT,bT,.x (aC Hh),k1.o]) (gc h7 (gc h6 (gc h4 (gc k1 (gt (((fs.map stE).flatten)[(i*1)]? = some (aC Hh)) (aQ (E:=stE) (i:=i) (f:=0) (k:=1) (fun _=>rfl) h5 rfl) (gc h4 (gc (cP h3) (Au (bJ h1) (gc (atm aB h2) (gc (bJ h1) (gc (ixn aB h2) (Ap (bJ h1) (g0 h0)))))))))))))
theorem bBw{R m:List (List Cel)}{Aa:List UInt8}{fs:List (List UInt8)}(h3:Ad≠0)(h4:cq i)(Ai:i'=(i+1)):aA Tp 14 vB (dZ k nl R m xl Aa i fs.length ((fs.map stE).flatten)) .normal (dZ k nl R m xl Aa i' fs.length ((fs.map stE).flatten)):=by
 subst Ai;exact aA.fi (gI a8 [14]) (rT 5++[.x (aB Ad),bT,bT,bF]) (gc h4 (gc (bA h3) (Au (bJ h1) (gc (atm aB h2) (gc (bJ h1) (gc (ixn aB h2) (Ap (bJ h1) (g0 h0))))))))
end
theorem bBx{R m:List (List Cel)}{xl Aa:List UInt8}{fs:List (List UInt8)}(h0:(i:Int)<((cK xl).length:Int))(h1:((aK k).length:Int)≤(i:Int))(h2:cq i)(Ai:i'=(i+1)):aA Tp 14 vB (dZ k nl R m xl Aa i fs.length ((fs.map stE).flatten)) .normal (dZ k nl R m xl Aa i' fs.length ((fs.map stE).flatten)):=by
 subst Ai;exact aA.fi (gI a8 [14]) ([bT]++rF 6) (gc h2 (Fb (aJ h1) (g0 h0)))
theorem bBy{R m:List (List Cel)}{xl Aa:List UInt8}{fs:List (List UInt8)}(h0:((cK xl).length:Int)≤(i:Int)):aA Tp 14 vB (dZ k nl R m xl Aa i fs.length ((fs.map stE).flatten)) (.exit 3) (dZ k nl R m xl Aa i fs.length ((fs.map stE).flatten)):=aA.fi (gI a8 [14]) [bF] (gc (aJ h0) gn)
end
end KV
end Go.Proofs
section
set_option maxRecDepth 1000000
namespace Go.Proofs
open Go.RowKit Go.Maps
namespace KV
open Tryz
theorem bPn(s p:List UInt8):(∀ b∈(Lib.cut s p).1,b∈s)∧(Lib.cut s p).1.length≤s.length∧∀ b∈(Lib.cut s p).2.1,b∈s:=by
 unfold Lib.cut
 split
 ·exact ⟨fun b hb=>List.mem_of_mem_take hb,by rw [uM];omega,fun b hb=>List.mem_of_mem_drop hb⟩
 ·exact ⟨fun b hb=>hb,Bo _,fun b hb=>(by cases hb)⟩
theorem aLa:∀ (k:Nat) (s:List UInt8),s.length≤k→∀ x∈cG s,x.1.length≤s.length∧∀ b∈x.1,b∈s
 | k,s,h,x,hx=>by
  by_cases hs:s=[]
  ·subst hs;rw [jT] at hx;cases hx
  ·rw [eR hs] at hx
   obtain ⟨c1,c2,c3⟩:=bPn s [10];have hlt:=wI (s:=s) (x:=[10]) hs (by simp)
   rcases nK.1 hx with rfl | hx
   ·exact ⟨c2,c1⟩
   ·match k,h with
    | 0,h=>exact absurd (tB (by omega)) hs
    | k+1,h =>
     obtain ⟨h1,h2⟩:=aLa k (Lib.cut s [10]).2.1 (by omega) x hx
     exact ⟨by omega,fun b hb=>c3 b (h2 b hb)⟩
def oO:List Int→List (List UInt8)→List (List UInt8)
 | [],us=>us
 | _::_,[]=>[]
 | t::ts,u::us=>(if t=0 then fT u else u)::oO ts us
theorem aLb:∀ (ts:List Int) (us:List (List UInt8)),(oO ts us).length=us.length
 | [],us=>rfl
 | _::_,[]=>rfl
 | t::ts,u::us=>by simp [oO,aLb ts us]
theorem aBd:∀ u:List UInt8,(fT u).length≤u.length
 | []=>Bo _
 | b::r=>by
  simp only [fT]
  split
  ·have:=aBd r;simp;omega
  ·exact Bo _
theorem aLc:∀ (ts:List Int) (us:List (List UInt8)) (N:Nat),(∀ u∈us,u.length≤N)→∀ u∈oO ts us,u.length≤N
 | [],us,N,h,u,hu=>h u hu
 | _::_,[],N,h,u,hu=>by cases hu
 | t::ts,v::us,N,h,u,hu=>by
  rcases nK.1 hu with rfl | hu
  ·have:=h v (by simp)
   split
   ·exact iG (aBd v) this
   ·exact this
  ·exact aLc ts us N (fun u hu=>h u (Df _ hu)) u hu
theorem cBw{cs s u:List UInt8}(h:u∈aLf cs s):u.length≤s.length:=by
 unfold aLf at h
 obtain ⟨x,_,rfl⟩:=uN.1 h;unfold aBg;rw [uM,pD];omega
theorem cFn{cs s:List UInt8}:(aLf cs s).length≤s.length+1:=by
 have hI:=bJv cs s (gM 0 s).length (Bo _);rw [List.take_length] at hI
 have h1:=hI.len;rw [tE] at h1
 unfold aLf cCd bJu;rw [pE]
 split
 ·rw [gR];simp;omega
 ·omega
theorem yF{k:Int}{nl:Nat}{R m:List (List Cel)}{xl Aa:List UInt8}(hn:xl.length≤90000):∀ (us:List (List UInt8)) (ts:List Int) (dn:List (List UInt8)) (fs:List (List UInt8)),fs=dn++us→fs.length=(cK xl).length→(aK k).drop dn.length=ts →
  aE Tp 14 (sub (cd Tryz.f79) [1,1,1,1,1,1,1,0,1,0,1,0,1,1,1,0,1,0,0]) (dZ k nl R m xl Aa dn.length fs.length ((fs.map stE).flatten)) (.exit 3) (dZ k nl R m xl Aa (cK xl).length (dn++oO ts us).length (((dn++oO ts us).map stE).flatten))
 | [],ts,dn,fs,he,hl,hd=>by
  subst he;rw [List.append_nil] at hl ⊢
  have:oO ts []=[]:=by cases ts <;> rfl
  rw [this,List.append_nil,hl];have hx:=bBy (k:=k) (nl:=nl) (R:=R) (m:=m) (xl:=xl) (Aa:=Aa) (i:=dn.length) (fs:=dn) (by omega)
  rw [hl] at hx
  exact .exit hx (by simp)
 | u::us,ts,dn,fs,he,hl,hd=>by
  subst he;have h0:(dn.length:Int)<((cK xl).length:Int):=by rw [← hl];simp;omega
  have hN:(cK xl).length≤xl.length+1:=cFn;have hi:inR (((dn.length+1:Nat)):Int):=aL (by omega)
  have hat:(dn++u::us)[dn.length]? = some u:=by simp
  have hset:∀ v,(dn++u::us).set dn.length v=(dn++[v])++us:=fun v=>by
   rw [List.set_append,if_neg (by omega),aWa];simp
  match ts,hd with
  | [],hd =>
   have h1:((aK k).length:Int)≤(dn.length:Int):=by
    have:=congrArg List.length hd;simp at this;omega
   have:=yF (k:=k) (nl:=nl) (R:=R) (m:=m) (Aa:=Aa) hn us [] (dn++[u]) ((dn++[u])++us) rfl (by rw [← hl];simp) (by
    rw [List.drop_eq_nil_iff] at hd ⊢
    simp;omega)
   have e:(dn++[u])++us=dn++u::us:=by simp
   rw [e,gR,List.length_singleton] at this
   have e2:(dn++[u])++oO [] us=dn++oO [] (u::us):=by simp [oO]
   rw [e2] at this
   exact .step (bBx h0 h1 hi rfl) this
  | t::ts,hd =>
   have hlt:dn.length<(aK k).length:=by
    have:=congrArg List.length hd;simp at this;omega
   have ht:(aK k)[dn.length]? = some t:=by
    have:=congrArg (·[0]?) hd
    simpa using this
   have Ev:(aK k).drop (dn.length+1)=ts:=by rw [← List.tail_drop,hd];rfl
   by_cases hz:t=0
   ·have:=yF (k:=k) (nl:=nl) (R:=R) (m:=m) (Aa:=Aa) hn us ts (dn++[fT u]) ((dn++[fT u])++us) rfl (by rw [← hl];simp) (by simpa using Ev)
    rw [← hset,gR,List.length_singleton] at this
    have e2:(dn++[fT u])++oO ts us=dn++oO (t::ts) (u::us):=by simp [oO,hz]
    rw [e2] at this
    exact .step (bBv h0 (by omega) ht hz (by simp;omega) hat (by rw [jZ];simp) hi rfl (by simp) (by rw [jZ,jZ,List.map_set,Nat.mul_one])) this
   ·have:=yF (k:=k) (nl:=nl) (R:=R) (m:=m) (Aa:=Aa) hn us ts (dn++[u]) ((dn++[u])++us) rfl (by rw [← hl];simp) (by simpa using Ev)
    have e:(dn++[u])++us=dn++u::us:=by simp
    rw [e,gR,List.length_singleton] at this
    have e2:(dn++[u])++oO ts us=dn++oO (t::ts) (u::us):=by simp [oO,hz]
    rw [e2] at this
    exact .step (bBw h0 (by omega) ht hz hi rfl) this
theorem cBx(s:List UInt8):0≤(paM s).1∧(paM s).1≤360000:=by
 unfold paM
 split
 ·rename_i h
  obtain ⟨_,_,h7,h8,_⟩:=h;have b1:=vW (by omega) h7
  have b2:=vW (by omega) h8
  have bn:=rJ (Lib.cut s [58]).1 360000 (by omega)
  split
  ·exact ⟨aCb _,by decide⟩
  ·rename_i h2
   have h3:=fun q=>h2 (.inr q)
   dsimp only;constructor <;> omega
 ·exact ⟨aCb _,by decide⟩
theorem cBy(t:Int)(u:List UInt8) : -1000000000≤(rdM t u).1.1∧(rdM t u).1.1≤1000000000:=by
 unfold rdM;have h1:=rJ u 999999 (by omega)
 have h2:=cBx u
 split
 ·dsimp only;omega
 ·split
  ·dsimp only;omega
  ·by_cases hh:(if t=2 then kQ u else kR u)=true
   ·rw [if_pos hh];exact (by decide : -1000000000≤(0:Int)∧(0:Int)≤1000000000)
   ·rw [if_neg hh];exact (by decide : -1000000000≤(0:Int)∧(0:Int)≤1000000000)
theorem aQg:∀ (ts:List Int) (us:List (List UInt8)) (i:Nat) (cs:List Cel),rdL ts us i = .inl cs→∀ c∈cs,-1000000000≤c.1∧c.1≤1000000000
 | [],us,i,cs,h,c,hc=>by cases h;cases hc
 | t::ts,[],i,cs,h,c,hc=>by cases h
 | t::ts,u::us,i,cs,h,c,hc=>by
  unfold rdL at h
  split at h
  ·cases h
  ·split at h
   ·rename_i Bs he
    cases h
    rcases nK.1 hc with rfl | hc
    ·exact cBy t u
    ·exact aQg ts us (i+1) Bs he c hc
   ·cases h
theorem bJq{k:Int}{r:List Cel}(h:∀ c∈r,-1000000000≤c.1∧c.1≤1000000000):lB k r:=by
 have hj:∀ j,-1000000000≤aM k r j∧aM k r j≤1000000000:=fun j=>by
  unfold aM
  split
  ·cases hr:r[j]? with
   | none=>simp
   | some c=>simpa using h c (Ci hr)
  ·simp
 intro x hx;simp only [A8,nK,List.not_mem_nil,or_false] at hx
 rcases hx with rfl | rfl | rfl <;> exact hj _
structure TSt where
 nl:Nat
 R:List (List Cel)
def wKl:List UInt8:=[107,108,105,115,116,101,114]
def cFo:List UInt8:=[115,117,109]
def tdF(k:Int)(a:TSt)(x:List UInt8 × Bool):Except (TSt × Int × Int × Int) TSt :=
 match (cK x.1)[0]? with
 | none => .ok ⟨a.nl+1,a.R⟩
 | some u=>if u=wKl then .ok ⟨a.nl+1,a.R⟩ else if u=cFo then .ok ⟨a.nl+1,a.R⟩ else
  match rdL (aK k) (oO (aK k) (cK x.1)) 0 with
  | .inr p => .error (⟨a.nl+1,a.R⟩,((a.nl+1:Nat):Int),p.1,p.2)
  | .inl cs=>if (cK x.1).length≠(aK k).length then .error (⟨a.nl+1,a.R⟩,((a.nl+1:Nat):Int),(((aK k).length+1:Nat):Int),11) else
   match lC k a.R cs with
   | none => .ok ⟨a.nl+1,a.R++[cs]⟩
   | some y=>if y=cs then .ok ⟨a.nl+1,a.R⟩ else .error (⟨a.nl+1,a.R⟩,((a.nl+1:Nat):Int),1,5)
structure aQh (k:Int) (pre:List (List UInt8 × Bool)) (a:TSt):Prop where
 nl:a.nl=pre.length
 Rn:a.R.length≤a.nl
 len:∀ r∈a.R,r.length=(aK k).length
 ky:∀ r∈a.R,lB k r
 nd:(a.R.map (A8 k)).Nodup
theorem bBk{k:Int}{R:List (List Cel)}{r y:List Cel}(h:lC k R r=some y):y∈R:=bMj h
theorem bBl{k:Int}{pre:List (List UInt8 × Bool)}{a a2:TSt}{x:List UInt8 × Bool}(h:aQh k pre a)(hf:tdF k a x = .ok a2):aQh k (pre++[x]) a2:=by
 obtain ⟨h1,h2,h3,h4,h5⟩:=h;have keep:aQh k (pre++[x]) ⟨a.nl+1,a.R⟩:=⟨by simp [h1],by show a.R.length≤a.nl+1;omega,h3,h4,h5⟩
 unfold tdF at hf
 split at hf
 ·cases hf;exact keep
 ·split at hf
  ·cases hf;exact keep
  ·split at hf
   ·cases hf;exact keep
   ·split at hf
    ·cases hf
    ·rename_i cs hr
     split at hf
     ·cases hf
     ·split at hf
      ·rename_i hl
       cases hf;refine ⟨by simp [h1],by simp;omega,fun r D5 => ?_,fun r D5 => ?_,?_⟩
       ·rcases aAg.1 D5 with q | q
        ·exact h3 r q
        ·rw [List.mem_singleton] at q;subst q;exact rO _ _ _ _ hr
       ·rcases aAg.1 D5 with q | q
        ·exact h4 r q
        ·rw [List.mem_singleton] at q;subst q;exact bJq (aQg _ _ _ _ hr)
       ·show ((a.R++[cs]).map (A8 k)).Nodup
        rw [vT,List.nodup_append];refine ⟨h5,by simp,fun u hu v hv e => ?_⟩
        simp only [kN,List.map_nil,List.mem_singleton] at hv
        subst hv;subst e;obtain ⟨y,hy,hyk⟩:=uN.1 hu;have:=List.find?_eq_none.1 hl y hy;simp [hyk] at this
      ·split at hf
       ·cases hf;exact keep
       ·cases hf
theorem aBe{k:Int}:∀ (l pre:List (List UInt8 × Bool)) (a a2:TSt),aQh k pre a→itB (tdF k) a l = .ok a2→aQh k (pre++l) a2
 | [],pre,a,a2,h,hi=>by cases hi;rw [List.append_nil];exact h
 | x::l,pre,a,a2,h,hi=>by
  cases hf:tdF k a x with
  | error e=>simp only [itB,hf] at hi;cases hi
  | ok a' =>
   simp only [itB,hf] at hi
   have:=aBe l (pre++[x]) a' a2 (bBl h hf) hi;rw [List.append_assoc] at this
   exact this
def tdA:TSt:=⟨0,[]⟩
theorem bJr(k:Int):aQh k [] tdA:=⟨rfl,Bo _,fun r h=>(by cases h),fun r h=>(by cases h),List.nodup_nil⟩
abbrev tdS(k:Int)(a:TSt):St:=dD k a.nl a.R.length ((a.R.map rwE).flatten) (bQ k a.R) a.R.length
abbrev tdR(k:Int)(e:TSt × Int × Int × Int):St:=bX (bX (bX (bX (tdS k e.1) 5 (some (.box 158 [.p (aB k),.own 13,.p (aB e.2.1),.p (aB e.2.2.1),.p (aB e.2.2.2)]))) 2 (some (.box 3 [.p (aB e.2.1)]))) 3 (some (.box 3 [.p (aB e.2.2.1)]))) 4 (some (.box 27 [.p (aB e.2.2.2)]))
theorem bJs{k:Int}{s:List UInt8}(hs:s.length≤65536)(ha:∀ b∈s,b.toNat<128){pre:List (List UInt8 × Bool)}{x:List UInt8 × Bool}{a:TSt}(hp:pre++[x] <+: cG s)(h:aQh k pre a) :
  (∀ a',tdF k a x = .ok a'→cC Tp 14 13 (sub (cd Tryz.f79) [1,1,1,1,1,1,1,0,1,0,1]) (pF (tdS k a) 45 46 14 x.1 x.2) .normal (tdS k a').m) ∧
  (∀ e,tdF k a x = .error e→cC Tp 14 13 (sub (cd Tryz.f79) [1,1,1,1,1,1,1,0,1,0,1]) (pF (tdS k a) 45 46 14 x.1 x.2) .ret (tdR k e).m):=by
 have hxm:x∈cG s:=by
  obtain ⟨l,hl⟩:=hp;rw [← hl];simp
 obtain ⟨Gq,Ey⟩:=aLa _ s (Bo _) x hxm;have hpl:pre.length<s.length+1:=by
  have h1:=jU _ s (Bo _);obtain ⟨l,hl⟩:=hp;have:=congrArg List.length hl;simp at this;omega
 obtain ⟨xl,xb⟩:=x;obtain ⟨nl,R⟩:=a;obtain ⟨h1,h2,h3,h4,h5⟩:=h;dsimp only at h1 h2 h3 h4 h5 Gq Ey
 have i1:inR (((nl+1:Nat)):Int):=aL (by omega)
 have i2:xl.length≤90000:=by omega
 have i3:∀ b∈xl,b.toNat<128:=fun b hb=>ha b (Ey b hb)
 unfold tdF;dsimp only;cases hf:(cK xl)[0]? with
 | none =>
  refine ⟨fun _ h => ?_,fun _ h=>(by cases h)⟩
  cases h;have:(cK xl).length=0:=by simpa using hf
  exact bBn i1 i2 i3 (by omega) rfl
 | some u =>
  have hn:0<(cK xl).length:=bG hf;have z1:((cK xl).length:Int)≠(0:Int):=by omega
  have z2:0≤(0:Int)∧(0:Int)<((cK xl).length:Int):=by omega
  dsimp only
  by_cases hk:u=wKl
  ·rw [if_pos hk]
   refine ⟨fun _ h => ?_,fun _ h=>(by cases h)⟩
   cases h;exact bBo i1 i2 i3 z1 z2 hf hk rfl
  rw [if_neg hk]
  by_cases hu:u=cFo
  ·rw [if_pos hu]
   refine ⟨fun _ h => ?_,fun _ h=>(by cases h)⟩
   cases h;exact bBp i1 i2 i3 z1 z2 hf hk hu rfl
  rw [if_neg hu];have hL:=yF (k:=k) (nl:=nl) (R:=R) (m:=R) (xl:=xl) (Aa:=u) i2 (cK xl) (aK k) [] (cK xl) rfl rfl rfl;rw [List.nil_append,List.length_nil] at hL
  have F8:∀ v∈oO (aK k) (cK xl),v.length≤90000:=aLc _ _ _ (fun v hv=>iG (cBw hv) i2)
  cases hr:rdL (aK k) (oO (aK k) (cK xl)) 0 with
  | inr p =>
   obtain ⟨fd,er⟩:=p;refine ⟨fun _ h=>(by cases h),fun _ h => ?_⟩
   cases h;exact bBu i1 i2 i3 z1 z2 hf hk hu hL F8 hr (aGu _ _ _ _ hr) rfl
  | inl cs =>
   have hcl:=rO _ _ _ _ hr;have hsl:=aLb (aK k) (cK xl);dsimp only
   by_cases hfl:(cK xl).length=(aK k).length
   ·rw [if_neg (by simp [hfl])]
    have hkc:aN k≤(cs.length:Int):=by rw [hcl];exact rK k
    have hki:=bJq (k:=k) (aQg _ _ _ _ hr);have hKA:=vD h4 hki h5;cases hlk:lC k R cs with
    | none =>
     refine ⟨fun _ h => ?_,fun _ h=>(by cases h)⟩
     cases h;exact bBs (R:=R) (m:=R) (R':=R++[cs]) (m':=R++[cs]) i1 i2 i3 z1 z2 hf hk hu hL F8 hr (by rw [hsl];exact hfl) hkc hKA (by rw [nU,nV,hlk];rfl) ⟨rfl,by omega⟩ rfl (by simp) (nQ R cs) (aEy k R cs) (by simp)
    | some y =>
     have hy:=h3 y (bBk hlk);have hcol:(aK k).length≤10:=by unfold aK;(repeat' split) <;> decide
     dsimp only
     by_cases he:y=cs
     ·rw [if_pos he]
      refine ⟨fun _ h => ?_,fun _ h=>(by cases h)⟩
      cases h;exact bBr i1 i2 i3 z1 z2 hf hk hu hL F8 hr (by rw [hsl];exact hfl) hkc hKA (by rw [nU,nV,hlk];rfl) (by rw [rS,hlk];rfl) (by omega) (decide_eq_true he) rfl
     ·rw [if_neg he]
      refine ⟨fun _ h=>(by cases h),fun _ h => ?_⟩
      cases h;exact bBq i1 i2 i3 z1 z2 hf hk hu hL F8 hr (by rw [hsl];exact hfl) hkc hKA (by rw [nU,nV,hlk];rfl) (by rw [rS,hlk];rfl) (by omega) (decide_eq_false he) rfl
   ·rw [if_pos hfl]
    refine ⟨fun _ h=>(by cases h),fun _ h => ?_⟩
    cases h;exact bBt i1 i2 i3 z1 z2 hf hk hu hL F8 hr (by rw [hsl];exact hfl) rfl
theorem aBf{M A B:Mem}{es:List (Value × PV)}{cl:Nat}{o:AO}(hA:oM A=true)(hB:oM B=true)(ho:M[A.length]? = some (some o))(hv:∀ e∈es,nmP e.2=true):oL M (A++some (.mp es cl)::B):=by
 intro id Fh Jv h
 rcases Nat.lt_trichotomy id A.length with q | q | q
 ·rw [aNq q] at h
  exact absurd h ((eV hA).1 _ _ _)
 ·subst q
  rw [aJp (Bo _),aWa] at h
  simp at h
  obtain ⟨rfl,_⟩:=h;exact ⟨⟨o,ho⟩,fun j hj=>hv _ (iF hj)⟩
 ·rw [aJp (by omega)] at h
  obtain ⟨d,hd⟩:∃ d,id-A.length=d+1:=⟨id-A.length-1,by omega⟩
  rw [hd,List.getElem?_cons_succ] at h
  exact absurd h ((eV hB).1 _ _ _)
theorem bJt(k:Int)(R:List (List Cel)):∀ e∈bQ k R,nmP e.2=true:=fun e he=>by
 obtain ⟨r,_,rfl⟩:=uN.1 he;have:=aSv r;show nmP (aP r)=true;unfold rwE at this
 simpa [iY] using this
theorem wJ:∀ l:List Int,iY (l.map aB)=true
 | []=>rfl
 | _::l=>wJ l
theorem bBm{k:Int}{s:List UInt8}(hs:s.length≤65536)(ha:∀ b∈s,b.toNat<128) :
  (∀ a,itB (tdF k) tdA (cG s) = .ok a→aA Tp 0 (sub (cd Tryz.f79) b7) (wK k s) .normal (tdS k a))∧(∀ e,itB (tdF k) tdA (cG s) = .error e→aA Tp 0 (sub (cd Tryz.f79) b7) (wK k s) .ret (tdR k e)):=by
 refine aAy (k:=0) (kb:=14) (kk:=13) (gi:=44) (p1:=45) (p2:=46) (bx:=12) (g0:=⟨[],[13],[],[(105001,78)]⟩) s (by omega) (wK k s) (tdS k) (tdR k) (wK k s).t (tdF k) tdA
  (s1T 45 46 14) (Hg 45 46 14) (asg := aQc 11 45 14 9 "read.go:179") (body := (sub (cd Tryz.f79) [1, 1, 1, 1, 1, 1, 1, 0, 1, 0, 1])) (by kernel_rfl) rfl rfl rfl (by show 13 ≤ 13; omega) ⟨(wK k s).t, by kernel_rfl⟩ (fun _ => rfl) (fun _ => rfl)
  (fun a => ?_) (fun e => ?_) (fun a=>gY (by rfl)) (fun e=>gY (by rfl)) (gY (by rfl)) (fun a => ?_) (fun e => ?_) (fun a=>by show 14≤14;omega) (by kernel_rfl)
  (fun a x l K W h=>Nb a x l K W h) (fun a x C M W h=>aSx (fun _=>rfl) a x h) (fun _ _=>rfl) (fun pre x a hp hi=>bJs hs ha hp (by have:=aBe pre [] tdA a (bJr k) hi;exact this))
 ·exact aBf (A:=(tdS k a).m.take 9) (B:=(tdS k a).m.drop 10) (o := .mp [] 0) (by rfl) (by rfl) rfl (bJt k a.R)
 ·exact aBf (A:=(tdR k e).m.take 9) (B:=(tdR k e).m.drop 10) (o := .mp [] 0) (by rfl) (by rfl) rfl (bJt k e.1.R)
 ·show ((iY ((aK k).map aB) && true) && (iY (a.R.map rwE).flatten && true))=true
  rw [qJ,wJ];rfl
 ·show ((iY ((aK k).map aB) && true) && (iY (e.1.R.map rwE).flatten && true))=true
  rw [qJ,wJ];rfl
theorem cBz{k:Int}(hk:within k 0 4=true){s:List UInt8}(hs:s.length≤65536)(ha:∀ b∈s,b.toNat<128){a:TSt}(hi:itB (tdF k) tdA (cG s) = .ok a)(h1:1≤a.R.length)(Be:a.R.length≤12){base:Nat} :
  FV Tp 79 [.p (aB k),.p (aC s)] base (.tup [.p (.agg [aB k,bW (isG (bV k) a.R)]),.p (aB 0),.p (aB 0),.p (aB 0)]) []:=by
 have hok:=aBe (cG s) [] tdA a (bJr k) hi;have:=cCa (s:=s) hk (by omega) ((bBm hs ha).1 a hi) (by omega) Be h1 (fun x hx=>by rw [hok.len x hx];exact rK k)
 rw [eU] at this
 exact FV.frz this (by rfl)
end KV
end Go.Proofs
end
namespace Go.Proofs
namespace KV
open Tryz
section
variable {Ab A6:Int}{R T D3 Et:List Int}{i i' Av base:Nat}

noncomputable abbrev aEz:Code:=sub (cd Tryz.f49) [1,1,0,1,0,0]
noncomputable abbrev aFa:Code:=sub (cd Tryz.f23) [1,1,0,1,0,0]
def jV(R T:List Int)(i:Nat):St:=⟨fr 26 [(0,(.p (bO R))),(1,(.p (bO T))),(12,(pI (R.length:Int))),(13,(pI (i:Int)))],[]⟩
theorem cEb(h0:(R.length:Int)≠(T.length:Int)):FV Tp 49 [(.p (bO R)),(.p (bO T))] base (pB false) []:=FV.fi func49 [bT] (gc (cL h0) gn)
theorem cEc(h0:(R.length:Int)=(T.length:Int))(Ak:aE Tp 0 aEz (jV R T 0) (.exit 0) (jV R T Av)):FV Tp 49 [(.p (bO R)),(.p (bO T))] base (pB true) []:=FV.fi func49 [bF,Ak.k 4 (gZ bu)] (gc Ak.code (gc (bD h0) gn))
theorem cEd(h0:(R.length:Int)=(T.length:Int))(Ak:aE Tp 0 aEz (jV R T 0) .ret (bS (jV R T Av) [(4,(pB false))])):FV Tp 49 [(.p (bO R)),(.p (bO T))] base (pB false) []:=FV.fi func49 [bF,Ak.k 4 (gZ bu)] (gc Ak.code (gc (bD h0) gn))
section
variable(h0:(i:Int)<(R.length:Int))(h1:R[i]? = some Ab)(h2:T[i]? = some A6)
include h0 h1 h2
theorem bEa(h3:Ab≠A6):aA Tp 0 aEz (jV R T i) .ret (bS (jV R T i) [(4,(pB false))]):=aA.fi (gN bm [] [(4,0)]) [bT,.x (aB Ab),.x (aB A6),bT] (gc (cL h3) (gc (atm aB h2) (gc (ixn aB h2) (gc (atm aB h1) (gc (ixn aB h1) (g0 h0))))))
theorem bEb(h3:Ab=A6)(h4:cq i)(Ai:i'=(i+1)):aA Tp 0 aEz (jV R T i) .normal (jV R T i'):=by
 subst Ai;exact aA.fi (gZ bu) [bT,.x (aB Ab),.x (aB A6),bF] (gc h4 (gc (bD h3) (gc (atm aB h2) (gc (ixn aB h2) (gc (atm aB h1) (gc (ixn aB h1) (g0 h0)))))))
end
theorem bEc(h0:(R.length:Int)≤(i:Int)):aA Tp 0 aEz (jV R T i) (.exit 0) (jV R T i):=aA.fi (gZ bu) [bF] (gc (aJ h0) gn)
theorem bLh(R T:List Int)(h:R.length≤100000){base:Nat}:FV Tp 49 [(.p (bO R)),(.p (bO T))] base (pB (decide (R=T))) []:=by
 by_cases hl:R.length=T.length
 ·have hz:(R.zip T).length=R.length:=by rw [List.length_zip,hl,Nat.min_self]
  rcases aE.find (P:=Tp) (k:=0) (b:=aEz) (fun i=>jV R T i) (fun i _=>bS (jV R T i) [(4,.p (blP false))]) (jV R T R.length) .ret (.exit 0) (by simp) (by simp) (fun q:Int × Int => !(decide (q.1=q.2))) (R.zip T)
   (fun i q hx hp=>by
    obtain ⟨h1,h3⟩:=dK hx;have hi:=bG h1;have hp:=(Bool.not_eq_false' _).mp hp;exact bEb (by omega) h1 h3 (of_decide_eq_true hp) (aL (by omega)) rfl)
   (fun i q hx hp=>by
    obtain ⟨h1,h3⟩:=dK hx;have hi:=bG h1;have hp:=(Bool.not_eq_true' _).mp hp;exact bEa (by omega) h1 h3 (of_decide_eq_false hp))
   (by rw [hz];exact bEc (by omega)) with ⟨i,q,h1,h2,h3,h4⟩ | ⟨h1,h2,h3⟩
  ·have hne:decide (R=T)=false:=by
    apply decide_eq_false;intro e;subst e;obtain ⟨q1,q2⟩:=dK h1;rw [q1] at q2
    have:q.1=q.2:=by simpa using q2
    simp [this] at h3
   rw [hne];exact cEd (by omega) h4
  ·rw [decide_eq_true (gB R T hl h2)];exact cEc (by omega) h3
 ·have hne:decide (R=T)=false:=decide_eq_false (fun e=>hl (by rw [e]))
  rw [hne];exact cEb (by omega)
def jW(R T:Lqq)(i:Nat):St:=⟨fr 27 [(0,(.p (.sl R.length ((R.map ixE).flatten)))),(1,(.p (.sl T.length ((T.map ixE).flatten)))),(12,(pI (R.length:Int))),(13,(pI (i:Int)))],[]⟩
theorem cEe{R T:Lqq}(h0:(R.length:Int)≠(T.length:Int)):FV Tp 23 [(.p (.sl R.length ((R.map ixE).flatten))),(.p (.sl T.length ((T.map ixE).flatten)))] base (pB false) []:=FV.fi func23 [bT] (gc (cL h0) gn)
theorem cEf{R T:Lqq}(h0:(R.length:Int)=(T.length:Int))(Ak:aE Tp 0 aFa (jW R T 0) (.exit 0) (jW R T Av)):FV Tp 23 [(.p (.sl R.length ((R.map ixE).flatten))),(.p (.sl T.length ((T.map ixE).flatten)))] base (pB true) []:=FV.fi func23 [bF,Ak.k 4 (gZ bv)] (gc Ak.code (gc (bD h0) gn))
theorem cEg{R T:Lqq}(h0:(R.length:Int)=(T.length:Int))(Ak:aE Tp 0 aFa (jW R T 0) .ret (bS (jW R T Av) [(4,(pB false))])):FV Tp 23 [(.p (.sl R.length ((R.map ixE).flatten))),(.p (.sl T.length ((T.map ixE).flatten)))] base (pB false) []:=FV.fi func23 [bF,Ak.k 4 (gZ bv)] (gc Ak.code (gc (bD h0) gn))
section
variable{R T:Lqq}(h0:(i:Int)<(R.length:Int))(h1:R[i]? = some (D3))(h2:T[i]? = some (Et))(Kz:D3.length≤100000)
include h0 h1 h2 Kz
theorem bEd(h4:(decide (D3=Et))=false):aA Tp 0 aFa (jW R T i) .ret (bS (jW R T i) [(4,(pB false))]):=have k1:=fk 0 (bLh D3 Et Kz) rfl;aA.fi (gN [2,2,5,7,14,13] [] [(4,0)]) [bT,.x (bO D3),.x (bO Et),k1.o,bT] (gc (cN h4) (gc k1 (gt (((T.map ixE).flatten)[(i*1)]? = some (bO Et)) (aQ (E:=ixE) (i:=i) (f:=0) (k:=1) (fun _=>rfl) h2 rfl) (gc (bC (E:=ixE) (k:=1) (i:=(i:Int)) (fun _=>rfl) (by decide) (Bf _) h2) (gt (((R.map ixE).flatten)[(i*1)]? = some (bO D3)) (aQ (E:=ixE) (i:=i) (f:=0) (k:=1) (fun _=>rfl) h1 rfl) (gc (bC (E:=ixE) (k:=1) (i:=(i:Int)) (fun _=>rfl) (by decide) (Bf _) h1) (g0 h0)))))))
theorem bEe(h4:(decide (D3=Et))=true)(h5:cq i)(Ai:i'=(i+1)):aA Tp 0 aFa (jW R T i) .normal (jW R T i'):=by
 subst Ai;have k1:=fk 0 (bLh D3 Et Kz) rfl;exact aA.fi (gZ bv) [bT,.x (bO D3),.x (bO Et),k1.o,bF] (gc h5 (gc (aO h4) (gc k1 (gt (((T.map ixE).flatten)[(i*1)]? = some (bO Et)) (aQ (E:=ixE) (i:=i) (f:=0) (k:=1) (fun _=>rfl) h2 rfl) (gc (bC (E:=ixE) (k:=1) (i:=(i:Int)) (fun _=>rfl) (by decide) (Bf _) h2) (gt (((R.map ixE).flatten)[(i*1)]? = some (bO D3)) (aQ (E:=ixE) (i:=i) (f:=0) (k:=1) (fun _=>rfl) h1 rfl) (gc (bC (E:=ixE) (k:=1) (i:=(i:Int)) (fun _=>rfl) (by decide) (Bf _) h1) (g0 h0))))))))
end
theorem bEf{R T:Lqq}(h0:(R.length:Int)≤(i:Int)):aA Tp 0 aFa (jW R T i) (.exit 0) (jW R T i):=aA.fi (gZ bv) [bF] (gc (aJ h0) gn)
theorem cEh(R T:Lqq)(h:R.length≤100000)(h2:∀ r∈R,r.length≤100000){base:Nat}:FV Tp 23 [(.p (.sl R.length ((R.map ixE).flatten))),(.p (.sl T.length ((T.map ixE).flatten)))] base (pB (decide (R=T))) []:=by
 by_cases hl:R.length=T.length
 ·have hz:(R.zip T).length=R.length:=by rw [List.length_zip,hl,Nat.min_self]
  rcases aE.find (P:=Tp) (k:=0) (b:=aFa) (fun i=>jW R T i) (fun i _=>bS (jW R T i) [(4,.p (blP false))]) (jW R T R.length) .ret (.exit 0) (by simp) (by simp) (fun q:(List Int) × (List Int) => !(decide (q.1=q.2))) (R.zip T)
   (fun i q hx hp=>by
    obtain ⟨h1,h3⟩:=dK hx;have hi:=bG h1;have hp:=(Bool.not_eq_false' _).mp hp;exact bEe (by omega) h1 h3 (h2 _ (Ci h1)) hp (aL (by omega)) rfl)
   (fun i q hx hp=>by
    obtain ⟨h1,h3⟩:=dK hx;have hi:=bG h1;have hp:=(Bool.not_eq_true' _).mp hp;exact bEd (by omega) h1 h3 (h2 _ (Ci h1)) hp)
   (by rw [hz];exact bEf (by omega)) with ⟨i,q,h1,h2,h3,h4⟩ | ⟨h1,h2,h3⟩
  ·have hne:decide (R=T)=false:=by
    apply decide_eq_false;intro e;subst e;obtain ⟨q1,q2⟩:=dK h1;rw [q1] at q2
    have:q.1=q.2:=by simpa using q2
    simp [this] at h3
   rw [hne];exact cEg (by omega) h4
  ·rw [decide_eq_true (gB R T hl h2)];exact cEf (by omega) h3
 ·have hne:decide (R=T)=false:=decide_eq_false (fun e=>hl (by rw [e]))
  rw [hne];exact cEe (by omega)
end
end KV
end Go.Proofs
section
namespace Go.Proofs
open Go.RowKit
namespace KV
open Tryz
theorem yG:fA 0 lW=0:=by decide +kernel
theorem bEg{n:Nat}(h:n<10):Lib.itoa (n:Int)=[UInt8.ofNat (48+n)]:=by rw [Lib.itoa_nonneg,aXr h]
theorem aLo{n:Nat}(h:¬ n<10):Lib.itoa (n:Int)=Lib.itoa ((n / 10:Nat):Int)++[UInt8.ofNat (48+n % 10)]:=by rw [Lib.itoa_nonneg,bNg h,Lib.itoa_nonneg]
theorem Qv:Lib.itoa 2=[50]:=bEg (n:=2) (by omega)
theorem Qw:Lib.itoa 7=[55]:=bEg (n:=7) (by omega)
theorem Lx:Lib.itoa 1=[49]:=bEg (n:=1) (by omega)
theorem N6:Lib.itoa 0=[48]:=bEg (n:=0) (by omega)
theorem Qx:Lib.itoa 5=[53]:=bEg (n:=5) (by omega)
theorem N7:Lib.itoa 12=[49,50]:=by
 have:=aLo (n:=12) (by omega)
 rw [show ((12 / 10:Nat):Int)=1 from rfl,Lx] at this
 exact this
theorem K7:Lib.itoa 100=[49,48,48]:=by
 have Ba:=aLo (n:=10) (by omega)
 rw [show ((10 / 10:Nat):Int)=1 from rfl,Lx] at Ba
 have:=aLo (n:=100) (by omega)
 rw [show ((100 / 10:Nat):Int)=((10:Nat):Int) from rfl,Ba] at this
 exact this
theorem K8:Lib.itoa 130=[49,51,48]:=by
 have Ba:=aLo (n:=13) (by omega)
 rw [show ((13 / 10:Nat):Int)=1 from rfl,Lx] at Ba
 have:=aLo (n:=130) (by omega)
 rw [show ((130 / 10:Nat):Int)=((13:Nat):Int) from rfl,Ba] at this
 exact this
theorem Qy:(ptM 0).1=[48,58,48,48,46,48]:=by
 have e:ptM 0=((((((Lib.itoa 0)++[58])++((Lib.itoa 100).drop 1))++[46])++Lib.itoa 0),0):=by
  unfold ptM;rw [if_pos (by decide)];rfl
 rw [e,N6,K7];rfl
theorem K9:(ptM 305).1=[48,58,51,48,46,53]:=by
 have e:ptM 305=((((((Lib.itoa 0)++[58])++((Lib.itoa 130).drop 1))++[46])++Lib.itoa 5),0):=by
  unfold ptM;rw [if_pos (by decide)];rfl
 rw [e,N6,K8,Qx];rfl
def bQo:List UInt8:=[107,108,105,115,116,101,114,32,115,116,97,114,116,115,32,50,10,55,32,48,58,48,48,46,48,32,49,10,49,50,32,48,58,51,48,46,53,32,48,10]
theorem bLi:aKc 0 lW=bQo:=by
 have e1:lG 0 [(7,[]),(0,[]),(1,[])]=[[55],[48,58,48,48,46,48],[49]]:=by
  show [Lib.itoa 7,(ptM 0).1,Lib.itoa 1]=_;rw [Qw,Qy,Lx]
 have e2:lG 0 [(12,[]),(305,[]),(0,[])]=[[49,50],[48,58,51,48,46,53],[48]]:=by
  show [Lib.itoa 12,(ptM 305).1,Lib.itoa 0]=_;rw [N7,K9,N6]
 have e0:xL 0 2=[107,108,105,115,116,101,114,32,115,116,97,114,116,115,32,50,10]:=by
  show lnM [_,_,Lib.itoa 2]=_;rw [Qv];rfl
 show (xL 0 2++lnM (lG 0 [(7,[]),(0,[]),(1,[])]))++lnM (lG 0 [(12,[]),(305,[]),(0,[])])=_;rw [e0,e1,e2];rfl
theorem bQp:bN bQo=3900:=by decide +kernel
theorem N8:Lib.itoa 3=[51]:=bEg (n:=3) (by omega)
theorem La:Lib.itoa 39=[51,57]:=by
 have:=aLo (n:=39) (by omega)
 rw [show ((39 / 10:Nat):Int)=3 from rfl,N8] at this
 exact this
theorem Js:Lib.itoa 390=[51,57,48]:=by
 have:=aLo (n:=390) (by omega)
 rw [show ((390 / 10:Nat):Int)=39 from rfl,La] at this
 exact this
theorem Ic:Lib.itoa 3900=[51,57,48,48]:=by
 have:=aLo (n:=3900) (by omega)
 rw [show ((3900 / 10:Nat):Int)=390 from rfl,Js] at this
 exact this
def aLp:List UInt8:=bQo++[115,117,109,32,51,57,48,48,10]
theorem bEh:bHj 0 lW=(aLp,0):=by
 unfold bHj;rw [if_neg (by rw [yG];simp),bLi]
 have e:rV bQo=3900:=by unfold rV;rw [if_pos (by decide),bQp]
 rw [e,Ic];rfl
end KV
end Go.Proofs
end
section
set_option maxRecDepth 1000000
namespace Go.Proofs
open Go.RowKit
namespace KV
open Tryz
def cBl:List UInt8:=[107,108,105,115,116,101,114,32,115,116,97,114,116,115,32,50,10,55,32,54,48,49,58,48,48,46,48,32,49,10]
def cBm:List UInt8:=[48,49,50,32,32,32,48,58,51,48,46,53,32,48,10,10,55,32,48,58,48,48,46,48,32,49]
def oN:List (List Cel):=[[(7,[]),(10,[]),(1,[])],[(9,[]),(200,[]),(0,[])]]
def aGz:List (List Cel):=[[(7,[]),(0,[]),(2,[])],[(12,[]),(305,[]),(0,[])]]
theorem bPi:prM aLp=(0,lW,0,0,0):=by decide +kernel
theorem bPj:prM cBl=(0,[],2,2,3):=by decide +kernel
theorem cBn{base:Nat}:FV Tp 30 [.p (aC [97,98])] base (.tup [.p (aB 3105),.p (aB 0)]) []:=by
 have:=mI [97,98] (by decide) (base:=base)
 rw [show bN [97,98]=3105 by decide +kernel] at this
 exact this
theorem bJn{base:Nat}:FV Tp 28 [.p (.agg [aB 0,bW lW])] base (.tup [.p (aC aLp),.p (aB 0)]) []:=by
 have:=bXa 0 lW (base:=base);rw [bEh] at this
 exact this
theorem bJo{base:Nat}:FV Tp 15 [.p (aC aLp)] base (.tup [.p (.agg [aB 0,bW lW]),.p (aB 0),.p (aB 0),.p (aB 0)]) []:=by
 have:=aPx aLp (base:=base);rw [bPi] at this
 exact this
theorem cBo{base:Nat}:FV Tp 15 [.p (aC cBl)] base (.tup [.p (.agg [aB 0,bW []]),.p (aB 2),.p (aB 2),.p (aB 3)]) []:=by
 have:=aPx cBl (base:=base);rw [bPj] at this
 exact this
theorem cBp:itB (tdF 0) tdA (cG cBm) = .ok ⟨3,[[(12,[]),(305,[]),(0,[])],[(7,[]),(0,[]),(1,[])]]⟩:=by kernel_rfl
theorem bPk{base:Nat}:FV Tp 79 [.p (aB 0),.p (aC cBm)] base (.tup [.p (.agg [aB 0,bW lW]),.p (aB 0),.p (aB 0),.p (aB 0)]) []:=by
 have:=cBz (k:=0) (by decide) (s:=cBm) (by decide) (by decide) cBp (by decide) (by decide) (base:=base)
 rw [show isG (bV 0) [[(12,[]),(305,[]),(0,[])],[(7,[]),(0,[]),(1,[])]]=lW by decide +kernel] at this
 exact this
theorem aTe{R:List (List Cel)}(h:R.length≤100000)(h2:∀ r∈R,r.length≤100000){base:Nat}:FV Tp 24 [.p (.agg [aB 0,bW R]),.p (.agg [aB 0,bW R])] base (.p (blP true)) []:=by
 have:=cAh 0 R 0 R h h2 (base:=base);rw [decide_eq_true ⟨rfl,rfl⟩] at this
 exact this
theorem aKz{base:Nat}:FV Tp 24 [.p (.agg [aB 0,bW lW]),.p (.agg [aB 0,bW lW])] base (.p (blP true)) []:=aTe (by decide) (by decide)
theorem bJp{base:Nat}:FV Tp 24 [.p (.agg [aB 0,bW oN]),.p (.agg [aB 0,bW oN])] base (.p (blP true)) []:=aTe (by decide) (by decide)
theorem aHa:gF 0 lW:=⟨by decide,by decide,by decide +kernel,by decide +kernel⟩
theorem aTf:gF 0 oN:=⟨by decide,by decide,by decide +kernel,by decide +kernel⟩
theorem bPl:gF 0 aGz:=⟨by decide,by decide,by decide +kernel,by decide +kernel⟩
theorem aTg:fA 0 oN=0:=by decide +kernel
theorem bPm:fA 0 aGz=0:=by decide +kernel
def aCd:List Chg:=[([(7,[]),(0,[]),(1,[])],[(7,[]),(10,[]),(1,[])]),([],[(9,[]),(200,[]),(0,[])]),([(12,[]),(305,[]),(0,[])],[])]
def cBq:List Chg:=[([(7,[]),(0,[]),(1,[])],[(7,[]),(0,[]),(2,[])])]
theorem vA:dfM 0 lW oN=aCd:=by decide +kernel
theorem yE:dfM 0 lW aGz=cBq:=by decide +kernel
theorem cBr{base:Nat}:FV Tp 56 [.p (.agg [aB 0,bW lW]),.p (.agg [aB 0,bW oN])] base (.tup [.p (.sl 3 ((aCd.map chE).flatten)),.p (aB 0)]) []:=by
 have:=cDb yG aTg aHa aTf (by decide +kernel) (by decide +kernel) (base:=base)
 rw [vA] at this
 exact this
theorem cFl:bPs 0 aCd:=⟨by decide +kernel,by decide,by decide +kernel,by decide +kernel,by decide +kernel,by unfold ckL;decide +kernel,by decide +kernel,by decide +kernel⟩
theorem cBs{base:Nat}:FV Tp 59 [.p (.agg [aB 0,bW lW]),.p (.sl 3 ((aCd.map chE).flatten))] base (.tup [.p (.agg [aB 0,bW oN]),.p (aB 0)]) []:=by
 have:=cCp (k:=0) (R:=lW) (l:=aCd) (m1:=((aCd.foldlM (apF 0) (lW.map fun r=>(r,r))).getD [])) yG aHa cFl (by decide +kernel) (by decide +kernel) (by decide +kernel) (by decide +kernel) (by decide +kernel) (by decide +kernel) (base:=base)
 rw [show isG (bV 0) (apL 0 ((aCd.foldlM (apF 0) (lW.map fun r=>(r,r))).getD []) lW aCd)=oN by decide +kernel] at this
 exact this
theorem cBt:aTn 0 aCd:=⟨by decide,by decide +kernel,by decide +kernel,by decide +kernel,by decide⟩
theorem cBu:aTn 0 cBq:=⟨by decide,by decide +kernel,by decide +kernel,by decide +kernel,by decide⟩
theorem cBv{base:Nat}:FV Tp 20 [.p (.agg [aB 0,bW lW]),.p (.agg [aB 0,bW oN]),.p (.agg [aB 0,bW aGz])] base (.tup [.p (.agg [aB 0,bM]),.p (.sl 1 [bO [7]]),.p (aB 0)]) []:=by
 have:=cCm yG aTg bPm aHa aTf bPl (by decide +kernel) (by decide +kernel) (by decide +kernel) (by decide +kernel) (by rw [vA];exact cBt) (by rw [yE];exact cBu) (by rw [vA,yE];decide +kernel) (by rw [vA,yE];decide +kernel)
 rw [vA,yE,show cBq.filterMap (G1 aCd)=[[7]] by decide +kernel] at this
 exact FV.frz this (by rfl)
theorem cFm{base:Nat}:FV Tp 23 [.p (.sl 1 [bO [7]]),.p (.sl 1 [bO [7]])] base (.p (blP true)) []:=by
 have:=cEh [[7]] [[7]] (by decide) (by decide) (base:=base)
 rw [decide_eq_true rfl] at this
 exact this
end KV
end Go.Proofs
end
namespace Go.Proofs
namespace KV
open Tryz
section

theorem xM:((0:Int) != 0)=false:=by first | decide | simp
theorem bSh:((0:Int) == 0)=true:=by first | decide | simp
theorem cFi:((2:Int) != 2)=false:=by first | decide | simp
theorem bSi:((3:Int) == 3)=true:=by first | decide | simp
theorem cFj:((3:Int) != 3)=false:=by first | decide | simp
theorem cFk:((3105:Int) != 3105)=false:=by first | decide | simp
theorem cBj{base:Nat}:FV Tp 32 [.p (aC aLp),.p (aC [107,108,105,115,116,101,114,32,115,116,97,114,116,115,32,50,10,55,32,48,58,48,48,46,48,32,49,10,49,50,32,48,58,51,48,46,53,32,48,10,115,117,109,32])] base (pB true) []:=by
 have:=bSs aLp [107,108,105,115,116,101,114,32,115,116,97,114,116,115,32,50,10,55,32,48,58,48,48,46,48,32,49,10,49,50,32,48,58,51,48,46,53,32,48,10,115,117,109,32] (base:=base);rw [show Lib.hasPrefix aLp [107,108,105,115,116,101,114,32,115,116,97,114,116,115,32,50,10,55,32,48,58,48,48,46,48,32,49,10,49,50,32,48,58,51,48,46,53,32,48,10,115,117,109,32]=true by decide +kernel] at this
 exact this
theorem cBk{base:Nat}:FV Tp 14 [] base (pB true) []:=by
 have k1:=fk 0 cBn rfl;have k2:=fk 0 (wE) rfl;have k3:=fk 0 bJn rfl;have k4:=fk 0 bJo rfl;have k5:=fk 1 (wE) rfl;have k6:=fk 1 cBo rfl;have k7:=fk 1 bPk rfl;have k8:=fk 1 (wE) rfl;have k9:=fk 1 (rM 7 10 1) rfl;have Oo:=fk 1 (rM 9 200 0) rfl;have Il:=fk 2 (wE) rfl;have Im:=fk 10 cBr rfl;have Hq:=fk 2 (wE) rfl;have Fe:=fk 2 cBs rfl;have Oq:=fk 2 (rM 7 0 2) rfl;have Ot:=fk 2 (rM 12 305 0) rfl;have Ou:=fk 3 (wE) rfl;have Ov:=fk 11 cBv rfl;exact FV.fi func14 ([k1.o,k2.o,k3.o,k4.o]++rF 17++[k5.o,bF,.c (pB true) [],bF,bF,bF,bF,.c (pB true) [],bF,bF,bF,k6.o,k7.o]++rF 11++[k8.o,bF,.c (pB true) [],bF,bF,bF,k9.o,Oo.o,.g 1 ⟨[],[0,2],[1],[]⟩,Il.o,Im.o,Hq.o,Fe.o,Oq.o,Ot.o,.g 1 ⟨[],[0,1,3],[2],[]⟩,Ou.o,Ov.o]++rT 13++[.c (pB true) []]++rT 5++[.c (pB true) [],bT]) (gt (true=true) rfl (gt (FC Tp 23 [(.p (.sl 1 [(bO [7])])),(.own 21)] [(21,(.row 68 1 [(PV.sl 1 [(aB 7)])]))] 22 (pB true) []) (fv cFm) (gt (true=true) rfl (gt (true=true) rfl (gt (true=true) rfl (gt (true=true) rfl (gc bSi (gc (fk 20 bJp rfl) (Ap bSi (Ig bSh (Au bSh (gc Ov (gc Ou (gc Ot (gc Oq (gc Fe (gc Hq (gc Im (gc Il (gc Oo (gc k9 (gf (Au xM (gc (fk 9 aKz rfl) (gc xM (gc k8 (Au xM (Fb cFi (Ap cFj (gc k7 (gc k6 (gf (gf (gf (gc (fk 17 cBj rfl) (gf (gf (Au xM (gc (fk 9 aKz rfl) (gc xM (gc k5 (B5 xM (Ap cFk (Ig xM (gc xM (gc k4 (gc k3 (gc k2 (gc k1 gn)))))))))))))))))))))))))))))))))))))))))))))))))
end
end KV
end Go.Proofs
