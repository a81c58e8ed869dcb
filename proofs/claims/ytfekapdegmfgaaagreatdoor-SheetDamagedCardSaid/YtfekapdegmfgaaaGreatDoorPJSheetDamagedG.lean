/- Parts of the proof of JSheetDamaged: laws of walks, contracts of functions, plain models. No condition. -/
import Derived.Test.YtfekapdegmfgaaaGreatDoorPJSheetDamagedF
set_option linter.unusedVariables false
set_option linter.unusedSimpArgs false
set_option linter.unnecessarySimpa false
set_option maxRecDepth 100000
namespace Go.Proofs
namespace KV
open Tryz
section
variable {k:Int}{h i j h' i' j':Nat}

noncomputable abbrev aSg:Code:=sub (cd Tryz.f59) [1,1,1,1,0,1,0,0]
noncomputable abbrev aKx:Code:=pS (cd Tryz.f59) 6 [0,1,0,0]
noncomputable abbrev aSh:Code:=pS (cd Tryz.f59) 7 [0,1,0,0]
theorem bQh:((0:Int) != 0)=false:=by first | decide | simp
theorem aGs(k:Int)(R:List (List Cel))(h:dW k R=0){base:Nat}:FV Tp 102 [.p (.agg [aB k,bY R])] base (pI 0) []:=h ▸ iH k R
def eN(k:Int)(L:List (List Cel × List Cel)):List (Value × PV):=L.map fun p=>(iL k p.1,aL p.2)
def mA(k:Int)(R:List (List Cel))(l:List (List Cel × List Cel))(i:Nat)(me:List (Value × PV))(mk:Nat):St:=⟨fr 114 [(1,(.p (.sl l.length ((l.map chE).flatten)))),(2,(.ptr 0 0)),(4,(.ptr 1 0)),(8,(.mp 2)),(34,(.p (.sl l.length ((l.map chE).flatten)))),(35,(pI (l.length:Int))),(36,(pI (i:Int)))],[some (.box 26 [(pI k),(.p (.sl R.length (R.map aL)))]),some (.box 26 [(pI 0),(.p bM)]),some (.mp me mk)]⟩
def jZ(k:Int)(R:List (List Cel))(l Cs:List (List Cel × List Cel))(j on:Nat)(oc:List PV):St:=⟨fr 114 [(1,(.p (.sl l.length ((l.map chE).flatten)))),(2,(.ptr 0 0)),(4,(.ptr 1 0)),(8,(.mp 2)),(12,(.ptr 3 0)),(62,(.p (.sl R.length (R.map aL)))),(63,(pI (R.length:Int))),(64,(pI (j:Int)))],[some (.box 26 [(pI k),(.p (.sl R.length (R.map aL)))]),some (.box 26 [(pI 0),(.p bM)]),some (.mp ((eN k) Cs) Cs.length),some (.box 26 [(pI k),(.own 4)]),some (.row 78 on oc)]⟩
def mB(k:Int)(R:List (List Cel))(l:List (List Cel × List Cel))(h un:Nat)(uc:List PV):St:=⟨fr 114 [(2,(.ptr 0 0)),(4,(.ptr 1 0)),(12,(.ptr 2 0)),(85,(.p (.sl l.length ((l.map chE).flatten)))),(86,(pI (l.length:Int))),(87,(pI (h:Int)))],[some (.box 26 [(pI k),(.p (.sl R.length (R.map aL)))]),some (.box 26 [(pI 0),(.p bM)]),some (.box 26 [(pI k),(.own 3)]),some (.row 78 un uc)]⟩
theorem bYp{R:List (List Cel)}{l:List (List Cel × List Cel)}{Aq:Nat}{Cs:List (List Cel × List Cel)}{Kt:Nat}{Lu:List (List Cel)}{Qx:Nat}{Hs:List (List Cel)}(Lb:dW k R=0)(Ju:bNp k l)(I2:fT k R)(Ej:aF Tp 0 aSg (mA k R l 0 (bN k R) R.length) (.exit 0) (mA k R l Aq ((eN k) Cs) Cs.length))(Fb:aF Tp 0 aKx (jZ k R l Cs 0 0 []) (.exit 2) (jZ k R l Cs Kt Lu.length ((Lu.map rwE).flatten)))(Cv:aF Tp 0 aSh (mB k R l 0 Lu.length ((Lu.map rwE).flatten)) (.exit 4) (mB k R l Qx Hs.length ((Hs.map rwE).flatten)))(h6:(Hs.length:Int)≤200)(Nq:Hs.length≤12)(Nr:1≤Hs.length)(Qy:∀ x∈Hs,aN k≤(x.length:Int)):FMM Tp 59 [(.p (.agg [(aB k),(.sl R.length (R.map aL))])),(.p (.sl l.length ((l.map chE).flatten)))] [] (.tup [(.p (.agg [(aB k),(.sl ((isG (bR k) Hs).length) (((isG (bR k) Hs).map rwE).flatten))])),(pI 0)]) []:=have k1:=mq [3,0] 4 (bZm (D:=Hs) (k:=k) (R:=R) Nq Nr Qy);FMM.fi 0 ⟨[],[],[3],[]⟩ func59 [.c (pI 0) [],bF,.c (pI 0) [],bF,.c (.mp 2) [(2,(.mp (bN k R) R.length))],Ej.k 4 (gI aa [0,1,2]),Fb.k 6 (gN ad cb [(103001,78)]),Cv.k 4 (gI ar [0,1,3,4]),bF,k1.o] (gc k1 (gc (bC h6) (gc Cv.code (gc Fb.code (gc Ej.code (gt (FC Tp 149 [(.p (.agg [(aB k),(.sl R.length (R.map aL))]))] [] 2 (.mp 2) [(2,(.mp (bN k R) R.length))]) (FMM.fcN (k:=1) rfl (ids:=[]) (aPk I2) (by kernel_rfl)) (gc bQh (gc (fk 2 (bYq Ju) rfl) (gc bQh (gc (fk 2 (aGs k R Lb) rfl) gn))))))))))
section
variable{l m:List (List Cel × List Cel)}{Ag Ah:List Cel}(h0:(i:Int)<(l.length:Int))(h1:l[i]? = some (Ag,Ah))(h2:aN k≤((crM (Ag,Ah)).length:Int))(h3:eH Tp 186 ((eN k) m) (k3V (aK k (crM (Ag,Ah)) 0) (aK k (crM (Ag,Ah)) 1) (aK k (crM (Ag,Ah)) 2)))
include h0 h1 h2 h3
theorem bAl{R:List (List Cel)}{F4:List Cel}{m':List (List Cel × List Cel)}(h4:(gQ ((eN k) m) (k3V (aK k (crM (Ag,Ah)) 0) (aK k (crM (Ag,Ah)) 1) (aK k (crM (Ag,Ah)) 2)))=true)(h5:gK ((eN k) m) (k3V (aK k (crM (Ag,Ah)) 0) (aK k (crM (Ag,Ah)) 1) (aK k (crM (Ag,Ah)) 2))=some (.sl F4.length ((F4.map cE).flatten)))(H5:F4.length≤100000)(h7:(decide (F4=Ag))=true)(h8:co i)(Aj:i'=(i+1))(E2:(eN k) m'=(aIj ((eN k) m) (k3V (aK k (crM (Ag,Ah)) 0) (aK k (crM (Ag,Ah)) 1) (aK k (crM (Ag,Ah)) 2)) (.sl Ah.length ((Ah.map cE).flatten))))(E3:m'.length=m.length):aA Tp 0 aSg (mA k R l i ((eN k) m) m.length) .normal (mA k R l i' ((eN k) m') m'.length):=by
 subst Aj;have k1:=fk 4 (mC (Ag,Ah).1 (Ag,Ah).2) rfl;have k2:=fk 12 (eC k (crM (Ag,Ah)) h2) rfl;have k3:=fk 21 (pM F4 Ag H5) rfl;rw [E2,E3];exact aA.fi (gI aa [0,1,2]) [bT,.x (.agg [(.sl Ag.length ((Ag.map cE).flatten)),(.sl Ah.length ((Ah.map cE).flatten))]),k1.o,k2.o,bT,.x (.sl F4.length ((F4.map cE).flatten)),k3.o,bF,bT] (gc h8 (gc h4 (gc h3 (gc (aX h7) (gc k3 (gc h5 (gc h4 (gc h3 (gc k2 (gc k1 (gc (bE (E:=chE) (i:=i) (k:=2) (fun _=>rfl) h1 rfl) (gc (cC (E:=chE) (i:=i) (k:=2) (fun _=>rfl) h1) (gc (bD (E:=chE) (k:=2) (i:=(i:Int)) (fun _=>rfl) (by decide) (Bu _) h1) (g0 h0))))))))))))))
theorem bAm{R:List (List Cel)}{m':List (List Cel × List Cel)}(h4:(gQ ((eN k) m) (k3V (aK k (crM (Ag,Ah)) 0) (aK k (crM (Ag,Ah)) 1) (aK k (crM (Ag,Ah)) 2)))=false)(Ji:([]:List Cel).length≤100000)(h6:(decide (([]:List Cel)=Ag))=true)(h7:co i)(Aj:i'=(i+1))(E2:(eN k) m'=(((eN k) m)++[((k3V (aK k (crM (Ag,Ah)) 0) (aK k (crM (Ag,Ah)) 1) (aK k (crM (Ag,Ah)) 2)),(.sl Ah.length ((Ah.map cE).flatten)))]))(E3:m'.length=(m.length+1)):aA Tp 0 aSg (mA k R l i ((eN k) m) m.length) .normal (mA k R l i' ((eN k) m') m'.length):=by
 subst Aj;have k1:=fk 4 (mC (Ag,Ah).1 (Ag,Ah).2) rfl;have k2:=fk 12 (eC k (crM (Ag,Ah)) h2) rfl;rw [E2,E3];exact aA.fi (gI aa [0,1,2]) [bT,.x (.agg [(.sl Ag.length ((Ag.map cE).flatten)),(.sl Ah.length ((Ah.map cE).flatten))]),k1.o,k2.o,bF,.c (pB (decide (([]:List Cel)=Ag))) [],bF,bF] (gc h7 (gc h4 (gc h3 (gc (aX h6) (gt (FC Tp 107 [(.p bM),(.p (.sl Ag.length ((Ag.map cE).flatten)))] [] 21 (pB (decide (([]:List Cel)=Ag))) []) (FV.fc (FV.argwk (pM ([]:List Cel) Ag Ji) rfl) rfl) (gc h4 (gc h3 (gc k2 (gc k1 (gc (bE (E:=chE) (i:=i) (k:=2) (fun _=>rfl) h1 rfl) (gc (cC (E:=chE) (i:=i) (k:=2) (fun _=>rfl) h1) (gc (bD (E:=chE) (k:=2) (i:=(i:Int)) (fun _=>rfl) (by decide) (Bu _) h1) (g0 h0)))))))))))))
end
theorem bAn{R:List (List Cel)}{l m:List (List Cel × List Cel)}(h0:(l.length:Int)≤(i:Int)):aA Tp 0 aSg (mA k R l i ((eN k) m) m.length) (.exit 0) (mA k R l i ((eN k) m) m.length):=aA.fi (gI aa [0,1,2]) [bF] (gc (bC h0) gn)
section
variable{R:List (List Cel)}{Cs:List (List Cel × List Cel)}{Ac Bl:List Cel}(h0:(j:Int)<(R.length:Int))(h1:R[j]? = some Ac)(h2:aN k≤(Ac.length:Int))(h3:eH Tp 186 ((eN k) Cs) (k3V (aK k Ac 0) (aK k Ac 1) (aK k Ac 2)))(h4:(gQ ((eN k) Cs) (k3V (aK k Ac 0) (aK k Ac 1) (aK k Ac 2)))=true)(h5:gK ((eN k) Cs) (k3V (aK k Ac 0) (aK k Ac 1) (aK k Ac 2))=some (.sl Bl.length ((Bl.map cE).flatten)))
include h0 h1 h2 h3 h4 h5
theorem bAo{l:List (List Cel × List Cel)}{o o':List (List Cel)}(h6:(0:Int)<(Bl.length:Int))(Ku:Bl.length≤1000000)(h8:[(PV.sl Bl.length ((Bl.map cE).flatten))].length=1*1∧o.length+1≤1000000)(h9:co j)(Bv:j'=(j+1))(Dk:o'.length=(o.length+1))(Dl:(o'.map rwE).flatten=(((o.map rwE).flatten)++[(PV.sl Bl.length ((Bl.map cE).flatten))])):aA Tp 0 aKx (jZ k R l Cs j o.length ((o.map rwE).flatten)) .normal (jZ k R l Cs j' o'.length ((o'.map rwE).flatten)):=by
 subst Bv;have k1:=fk 5 (eC k Ac h2) rfl;have k2:=fk 5 (qD Bl Ku) rfl;rw [Dk,Dl];exact aA.fi (gI ad [0,1,2,3,14]) [bT,.x (.sl Ac.length ((Ac.map cE).flatten)),k1.o,bT,.x (.sl Bl.length ((Bl.map cE).flatten)),bT,k2.o] (gc h9 (gc h8 (gc k2 (gc (cN h6) (gc h5 (gc h4 (gc h3 (gc k1 (gc (atm aL h1) (gc (ixn aL h1) (g0 h0)))))))))))
theorem bAp{l:List (List Cel × List Cel)}{o:List (List Cel)}(h6:(Bl.length:Int)≤0)(h7:co j)(Bv:j'=(j+1)):aA Tp 0 aKx (jZ k R l Cs j o.length ((o.map rwE).flatten)) .normal (jZ k R l Cs j' o.length ((o.map rwE).flatten)):=by
 subst Bv;have k1:=fk 5 (eC k Ac h2) rfl;exact aA.fi (gI ad cb) [bT,.x (.sl Ac.length ((Ac.map cE).flatten)),k1.o,bT,.x (.sl Bl.length ((Bl.map cE).flatten)),bF] (gc h7 (gc (bC h6) (gc h5 (gc h4 (gc h3 (gc k1 (gc (atm aL h1) (gc (ixn aL h1) (g0 h0)))))))))
end
theorem bAq{R:List (List Cel)}{l Cs:List (List Cel × List Cel)}{o:List (List Cel)}{Ac:List Cel}(h0:(j:Int)<(R.length:Int))(h1:R[j]? = some Ac)(h2:aN k≤(Ac.length:Int))(h3:eH Tp 186 ((eN k) Cs) (k3V (aK k Ac 0) (aK k Ac 1) (aK k Ac 2)))(h4:(gQ ((eN k) Cs) (k3V (aK k Ac 0) (aK k Ac 1) (aK k Ac 2)))=false)(h5:co j)(Bv:j'=(j+1)):aA Tp 0 aKx (jZ k R l Cs j o.length ((o.map rwE).flatten)) .normal (jZ k R l Cs j' o.length ((o.map rwE).flatten)):=by
 subst Bv;have k1:=fk 5 (eC k Ac h2) rfl;exact aA.fi (gI ad cb) [bT,.x (.sl Ac.length ((Ac.map cE).flatten)),k1.o,bF,bF] (gc h5 (gt ((decide ((0:Int) > 0))=false) (by first | decide | simp) (gc h4 (gc h3 (gc k1 (gc (atm aL h1) (gc (ixn aL h1) (g0 h0))))))))
theorem bAr{R:List (List Cel)}{l Cs:List (List Cel × List Cel)}{o:List (List Cel)}(h0:(R.length:Int)≤(j:Int)):aA Tp 0 aKx (jZ k R l Cs j o.length ((o.map rwE).flatten)) (.exit 2) (jZ k R l Cs j o.length ((o.map rwE).flatten)):=aA.fi (gI ad cb) [bF] (gc (bC h0) gn)
section
variable{l:List (List Cel × List Cel)}{Au Ao:List Cel}(h0:(h:Int)<(l.length:Int))(h1:l[h]? = some (Au,Ao))
include h0 h1
theorem bAs{R u u':List (List Cel)}(h2:(Au.length:Int)=0)(Kv:Ao.length≤1000000)(h4:[(PV.sl Ao.length ((Ao.map cE).flatten))].length=1*1∧u.length+1≤1000000)(h5:co h)(Ns:h'=(h+1))(Nt:u'.length=(u.length+1))(Nu:(u'.map rwE).flatten=(((u.map rwE).flatten)++[(PV.sl Ao.length ((Ao.map cE).flatten))])):aA Tp 0 aSh (mB k R l h u.length ((u.map rwE).flatten)) .normal (mB k R l h' u'.length ((u'.map rwE).flatten)):=by
 subst Ns;have k1:=fk 5 (qD Ao Kv) rfl;rw [Nt,Nu];exact aA.fi (gI ar [0,1,2,14]) [bT,.x (.agg [(.sl Au.length ((Au.map cE).flatten)),(.sl Ao.length ((Ao.map cE).flatten))]),bT,k1.o] (gc h5 (gc h4 (gc k1 (gc (dF h2) (gc (bE (E:=chE) (i:=h) (k:=2) (fun _=>rfl) h1 rfl) (gc (cC (E:=chE) (i:=h) (k:=2) (fun _=>rfl) h1) (gc (bD (E:=chE) (k:=2) (i:=(h:Int)) (fun _=>rfl) (by decide) (Bu _) h1) (g0 h0))))))))
theorem bAt{R u:List (List Cel)}(h2:(Au.length:Int)≠0)(h3:co h)(Ns:h'=(h+1)):aA Tp 0 aSh (mB k R l h u.length ((u.map rwE).flatten)) .normal (mB k R l h' u.length ((u.map rwE).flatten)):=by
 subst Ns;exact aA.fi (gI ar cn) [bT,.x (.agg [(.sl Au.length ((Au.map cE).flatten)),(.sl Ao.length ((Ao.map cE).flatten))]),bF] (gc h3 (gc (bL h2) (gc (bE (E:=chE) (i:=h) (k:=2) (fun _=>rfl) h1 rfl) (gc (cC (E:=chE) (i:=h) (k:=2) (fun _=>rfl) h1) (gc (bD (E:=chE) (k:=2) (i:=(h:Int)) (fun _=>rfl) (by decide) (Bu _) h1) (g0 h0))))))
end
theorem bAu{R:List (List Cel)}{l:List (List Cel × List Cel)}{u:List (List Cel)}(h0:(l.length:Int)≤(h:Int)):aA Tp 0 aSh (mB k R l h u.length ((u.map rwE).flatten)) (.exit 4) (mB k R l h u.length ((u.map rwE).flatten)):=aA.fi (gI ar cn) [bF] (gc (bC h0) gn)
end
end KV
end Go.Proofs
section
namespace Go.Proofs
open Go.RowKit
namespace KV
open Tryz
set_option maxRecDepth 1000000
abbrev RM:=List (List Cel × List Cel)
def kE(k:Int)(m:RM)(r:List Cel):Option (List Cel):=(m.find? fun p=>decide (Av k p.1=Av k r)).map (·.2)
def aAw(k:Int)(c:Chg):RM→RM
 | []=>[]
 | p::r=>if Av k p.1=Av k (crM c) then (crM c,c.2)::r else p::aAw k c r
def aAx(k:Int)(m:RM)(c:Chg):RM:=if (kE k m (crM c)).isSome=true then aAw k c m else m++[(crM c,c.2)]
def apF(k:Int)(m:RM)(c:Chg):Option RM:=if (kE k m (crM c)).getD []=c.1 then some (aAx k m c) else none
structure aEc (k:Int) (m:RM):Prop where
 ky:∀ p∈m,kF k p.1
 nd:(m.map fun p=>Av k p.1).Nodup
 len:∀ p∈m,p.2.length≤1000
theorem bIa(k:Int)(m:RM)(r:List Cel):gQ (eN k m) (iL k r)=(kE k m r).isSome:=by
 unfold gQ eN kE;rw [List.any_map,Option.isSome_map,Bool.eq_iff_iff,List.find?_isSome,List.any_eq_true];rfl
theorem aSe(k:Int)(m:RM)(r:List Cel):gK (eN k m) (iL k r)=(kE k m r).map aL:=by
 unfold gK eN kE;rw [List.find?_map];have e:((fun e:Value × PV=>decide (jU e.1=jU (iL k r))) ∘ fun p:List Cel × List Cel=>(iL k p.1,aL p.2))=fun p=>decide (Av k p.1=Av k r):=rfl
 rw [e];cases List.find? (fun p:List Cel × List Cel=>decide (Av k p.1=Av k r)) m <;> rfl
theorem bIb(k:Int)(c:Chg):∀ m:RM,aIj (eN k m) (iL k (crM c)) (aL c.2)=eN k (aAw k c m)
 | []=>rfl
 | p::m=>by
  have ih:=bIb k c m;unfold eN at ih ⊢
  rw [fV];unfold aIj aAw;have e:jU (iL k p.1,aL p.2).1=jU (iL k (crM c))↔Av k p.1=Av k (crM c):=Iff.rfl
  by_cases h:Av k p.1=Av k (crM c)
  ·rw [if_pos (e.2 h),if_pos h];rfl
  ·rw [if_neg (fun h2=>h (e.1 h2)),if_neg h,ih];rfl
theorem aKv(k:Int)(c:Chg):∀ m:RM,(aAw k c m).length=m.length
 | []=>rfl
 | p::m=>by
  unfold aAw
  split
  ·rfl
  ·rw [eT,aKv k c m,eT]
theorem aEd(k:Int)(c:Chg):∀ m:RM,((aAw k c m).map fun p=>Av k p.1)=m.map fun p=>Av k p.1
 | []=>rfl
 | p::m=>by
  unfold aAw
  split
  ·rename_i h
   rw [fV,fV,h]
  ·rw [fV,fV,aEd k c m]
theorem aAy{k:Int}{c:Chg}{p:List Cel × List Cel}:∀ {m:RM},p∈aAw k c m→p∈m∨p=(crM c,c.2)
 | [],h=>by cases h
 | q::m,h=>by
  unfold aAw at h
  split at h
  ·rcases lA.1 h with rfl | h
   ·exact .inr rfl
   ·exact .inl (C7 _ h)
  ·rcases lA.1 h with rfl | h
   ·exact .inl (mP ..)
   ·exact (aAy h).imp (C7 _) id
theorem aSf{k:Int}{m:RM}{r:List Cel}(h:aEc k m)(hr:kF k r):eH Tp 186 (eN k m) (iL k r):=by
 refine ⟨Eb,fun e he => ?_,kN hr,fun e he h => ?_,?_⟩
 ·obtain ⟨x,hx,rfl⟩:=tZ.1 he
  exact kN (h.ky x hx)
 ·obtain ⟨x,hx,rfl⟩:=tZ.1 he
  exact aGy h
 ·unfold eN
  rw [zW];exact h.nd
theorem bAk{k:Int}{m:RM}{r:List Cel}(h:kE k m r=none):∀ p∈m,Av k p.1≠Av k r:=fun p hp e=>by
 unfold kE at h
 rw [Option.map_eq_none_iff,List.find?_eq_none] at h
 exact h p hp (by simp [e])
theorem bNo{k:Int}{m:RM}{c:Chg}(h:aEc k m)(hc:kF k (crM c))(hl:c.2.length≤1000):aEc k (aAx k m c):=by
 unfold aAx
 split
 ·refine ⟨fun p hp => ?_,by rw [aEd];exact h.nd,fun p hp => ?_⟩
  ·rcases aAy hp with h2 | rfl
   ·exact h.ky p h2
   ·exact hc
  ·rcases aAy hp with h2 | rfl
   ·exact h.len p h2
   ·exact hl
 ·rename_i hn
  have hn:kE k m (crM c)=none:=by simpa using hn
  refine ⟨fun p hp => ?_,?_,fun p hp => ?_⟩
  ·rcases tY.1 hp with h2 | h2
   ·exact h.ky p h2
   ·rw [List.mem_singleton] at h2;subst h2;exact hc
  ·rw [rB,List.nodup_append]
   refine ⟨h.nd,by simp,fun a ha b hb => ?_⟩
   obtain ⟨p,hp,rfl⟩:=tZ.1 ha;rw [List.map_singleton,List.mem_singleton] at hb
   subst hb;exact bAk hn p hp
  ·rcases tY.1 hp with h2 | h2
   ·exact h.len p h2
   ·rw [List.mem_singleton] at h2;subst h2;exact hl
theorem aKw{k:Int}{m:RM}{r y:List Cel}(h:kE k m r=some y):∃ p∈m,y=p.2:=by
 unfold kE at h
 obtain ⟨p,hp,rfl⟩:=C9.1 h;exact ⟨p,bKf hp,rfl⟩
theorem bIc{k:Int}{m:RM}{c:Chg}:(aAx k m c).length=if (kE k m (crM c)).isSome=true then m.length else m.length+1:=by
 unfold aAx
 split
 ·exact aKv k c m
 ·simp
theorem aPc{k:Int}{R:List (List Cel)}{l:List Chg}(hl:l.length≤400)(hk:∀ x∈l,aN k≤((crM x).length:Int))(hy:∀ x∈l,kF k (crM x))(h2:∀ x∈l,x.1.length≤1000∧x.2.length≤1000) :
  ∀ (q:List Chg) (i:Nat) (m m1:RM),l.drop i=q→aEc k m→i+q.length=l.length→q.foldlM (apF k) m=some m1→aEc k m1∧aF Tp 0 (sub (cd Tryz.f59) bi) (mA k R l i (eN k m) m.length) (.exit 0) (mA k R l l.length (eN k m1) m1.length)
 | [],i,m,m1,hq,hm,hi,hf=>by
  cases hf;have:i=l.length:=by simpa using hi
  subst this;exact ⟨hm,.exit (bAn (by omega)) (by simp)⟩
 | c::q,i,m,m1,hq,hm,hi,hf=>by
  have hlt:i<l.length:=by rw [eT] at hi;omega
  have hx:l[i]? = some c:=by
   have:=congrArg (fun l:List Chg=>l[0]?) hq
   simpa using this
  have Iw:l.drop (i+1)=q:=by
   have:=congrArg List.tail hq;rw [List.tail_drop] at this;exact this
  have hc:=Ch hx;have hK:=aSf hm (hy c hc);have hhit:=bIa k m (crM c);have hlook:=aSe k m (crM c);have hul:=bIc (k:=k) (m:=m) (c:=c);have hok:=bNo hm (hy c hc) (h2 c hc).2;rw [List.foldlM_cons] at hf
  unfold apF at hf
  cases hlk:kE k m (crM c) with
  | some y =>
   rw [hlk] at hf hhit hlook hul
   obtain ⟨p,hp,rfl⟩:=aKw hlk;have hpl:=hm.len p hp
   by_cases he:p.2=c.1
   ·rw [Option.getD_some,if_pos he] at hf
    obtain ⟨h3,L⟩:=aPc hl hk hy h2 q (i+1) _ _ Iw hok (by rw [eT] at hi;omega) hf
    have hupd:aAx k m c=aAw k c m:=by unfold aAx;rw [hlk];rfl
    refine ⟨h3,.step (bAl (Ag:=c.1) (Ah:=c.2) (m':=aAx k m c) (by omega) hx (hk c hc) hK hhit hlook (by omega) (by simp [he]) (aT (by omega)) rfl (by rw [hupd];exact (bIb k c m).symm) hul) L⟩
   ·rw [Option.getD_some,if_neg he] at hf
    cases hf
  | none =>
   rw [hlk] at hf hhit hlook hul
   by_cases he:([]:List Cel)=c.1
   ·rw [Option.getD_none,if_pos he] at hf
    obtain ⟨h3,L⟩:=aPc hl hk hy h2 q (i+1) _ _ Iw hok (by rw [eT] at hi;omega) hf
    have hupd:aAx k m c=m++[(crM c,c.2)]:=by unfold aAx;rw [hlk];rfl
    refine ⟨h3,.step (bAm (Ag:=c.1) (Ah:=c.2) (m':=aAx k m c) (by omega) hx (hk c hc) hK hhit (by simp) (by simp [he]) (aT (by omega)) rfl (by rw [hupd];unfold eN;rw [rB];rfl) hul) L⟩
   ·rw [Option.getD_none,if_neg he] at hf
    cases hf
def Fg(k:Int)(m:RM)(r:List Cel):Option (List Cel):=match kE k m r with
 | some y=>if 0<y.length then some y else none
 | none=>none
def H6(c:Chg):Option (List Cel):=if c.1.length=0 then some c.2 else none
def apL(k:Int)(m:RM)(R:List (List Cel))(l:List Chg):List (List Cel):=R.filterMap (Fg k m)++l.filterMap H6
theorem bYo{k:Int}{R:List (List Cel)}{l:List Chg}{m1:RM}(cR:dW k R=0)(hT:fT k R)(hC:bNp k l)(hy:∀ x∈l,kF k (crM x))(h2:∀ x∈l,x.1.length≤1000∧x.2.length≤1000)
  (hf:l.foldlM (apF k) (R.map fun r=>(r,r))=some m1) (A8:(apL k m1 R l).length≤12) (h1:1≤(apL k m1 R l).length) (hkk:∀ x∈apL k m1 R l,aN k≤(x.length:Int)) {base:Nat} :
  FV Tp 59 [.p (.agg [aB k,bY R]),.p (.sl l.length ((l.map chE).flatten))] base (.tup [.p (.agg [aB k,bY (isG (bR k) (apL k m1 R l))]),.p (aB 0)]) []:=by
 have hRn:=hT.n;have hln:=hC.n;have Qw:aEc k (R.map fun r=>(r,r)):=by
  refine ⟨fun p hp => ?_,?_,fun p hp => ?_⟩
  ·obtain ⟨r,hr,rfl⟩:=tZ.1 hp
   exact hT.ky r hr
  ·rw [zW];exact hT.nd
  ·obtain ⟨r,hr,rfl⟩:=tZ.1 hp
   exact (hT.len r hr).2
 obtain ⟨Ll,L0⟩:=aPc (R:=R) hln hC.kk hy h2 l 0 _ m1 rfl Qw (by omega) hf
 have e0:eN k (R.map fun r=>(r,r))=bN k R:=by unfold eN bN;rw [zW];rfl
 rw [e0,mR] at L0
 have L1:=aF.count (P:=Tp) (k:=0) (b:=(sub (cd Tryz.f59) ba)) (e := .exit 2) (R:=jZ k R l m1 R.length (R.filterMap (Fg k m1)).length (((R.filterMap (Fg k m1)).map rwE).flatten)) R.length
  (fun j=>jZ k R l m1 j ((R.take j).filterMap (Fg k m1)).length ((((R.take j).filterMap (Fg k m1)).map rwE).flatten))
  (fun j hj=>by
   have hx:R[j]? = some R[j]:=B4 hj;have hm:=gR hj;have hl:=hT.len _ hm;have hK:=aSf Ll (hT.ky _ hm);have hfl:=aBa (Fg k m1) R j;rw [uQ (Fg k m1) hx];generalize R[j]=x at hx hm hl hK
   have hhit:=bIa k m1 x;have hlook:=aSe k m1 x;have hfx:Fg k m1 x=match kE k m1 x with | some y=>if 0<y.length then some y else none | none=>none:=rfl
   rw [hfx];generalize (R.take j).filterMap (Fg k m1)=o at hfl
   cases hlk:kE k m1 x with
   | some y =>
    rw [hlk] at hhit hlook
    obtain ⟨p,hp,rfl⟩:=aKw hlk;have hpl:=Ll.len p hp;dsimp only
    by_cases he:0<p.2.length
    ·rw [if_pos he]
     exact bAo (o':=o++[p.2]) (by omega) hx hl.1 hK hhit hlook (by omega) (by omega) ⟨rfl,by omega⟩ (aT (by omega)) rfl (by simp) (nE o p.2)
    ·rw [if_neg he,Option.toList_none,List.append_nil]
     exact bAp (by omega) hx hl.1 hK hhit hlook (by omega) (aT (by omega)) rfl
   | none =>
    rw [hlk] at hhit hlook
    dsimp only;rw [Option.toList_none,List.append_nil];exact bAq (by omega) hx hl.1 hK hhit (aT (by omega)) rfl)
  (by rw [List.take_length];exact bAr (by omega)) (by simp)
 have hfo:(R.filterMap (Fg k m1)).length≤R.length:=List.length_filterMap_le _ _;have L2:=aF.count (P:=Tp) (k:=0) (b:=(sub (cd Tryz.f59) [1,1,1,1,1,1,1,0,1,0,0])) (e := .exit 4) (R:=mB k R l l.length (apL k m1 R l).length (((apL k m1 R l).map rwE).flatten)) l.length
  (fun j=>mB k R l j (R.filterMap (Fg k m1)++(l.take j).filterMap H6).length (((R.filterMap (Fg k m1)++(l.take j).filterMap H6).map rwE).flatten))
  (fun j hj=>by
   have hx:l[j]? = some l[j]:=B4 hj;have hm:=gR hj;have hc:=h2 _ hm;have hfl:=aBa H6 l j;rw [uQ H6 hx,← List.append_assoc];have hlen:(R.filterMap (Fg k m1)++(l.take j).filterMap H6).length≤R.length+l.length:=by rw [Bz];omega
   generalize R.filterMap (Fg k m1)++(l.take j).filterMap H6=u at hlen
   generalize l[j]=c at hx hm hc
   have hfx:H6 c=if c.1.length=0 then some c.2 else none:=rfl
   rw [hfx]
   by_cases he:c.1.length=0
   ·rw [if_pos he]
    exact bAs (Au:=c.1) (Ao:=c.2) (u':=u++[c.2]) (by omega) hx (by omega) (by omega) ⟨rfl,by omega⟩ (aT (by omega)) rfl (by simp) (nE u c.2)
   ·rw [if_neg he,Option.toList_none,List.append_nil]
    exact bAt (Au:=c.1) (Ao:=c.2) (by omega) hx (by omega) (aT (by omega)) rfl)
  (by rw [List.take_length];exact bAu (by omega)) (by simp)
 have e2:R.filterMap (Fg k m1)++(l.take 0).filterMap H6=R.filterMap (Fg k m1):=by simp
 rw [e2] at L2
 have:=bYp (Hs:=apL k m1 R l) cR hC hT L0 L1 L2 (by omega) A8 h1 hkk
 rw [fB] at this
 exact FV.frz this rfl
end KV
end Go.Proofs
end
section
namespace Go.Proofs
open Go.RowKit
namespace KV
open Tryz
abbrev cBt(a b c:Int):AO := .box 186 [.p (aB a),.p (aB b),.p (aB c)]
theorem bYn(a b c:Int):FMM Tp 108 [.arr 0 0 1] [some (cBt a b c)] (.p (.sl 1 [aB a])) [some (cBt a b c)]:=fun C w us hus hM n=>by
 cases hus with
 | cons _ u _ Hy hu hr =>
 cases hr;cases hu with
 | arr _ _ _ _ h0 ha h =>
 rcases h _ rfl rfl with ⟨h1,_⟩ | ⟨g,cap,rfl,h1,h2,h3⟩
 ·cases h1
 obtain ⟨g',arr,q0,q1,q2,q3,q4⟩:=hM.box 0 _ _ rfl;rw [h3] at q0;cases q0
 have hv:arr.getD 0 undef = .int .i64 a:=by
  have:=q3 0 (by simp)
  simp only [List.getElem_cons_zero] at this
  generalize arr.getD 0 undef=z at this ⊢
  cases this with | p _ _ h=>cases h;rfl
 have hcell:w.cell? ⟨g,0,none⟩=some (.int .i64 a):=by
  have hs:0<arr.size:=by rw [q2];simp
  unfold World.cell?;rw [q1];simp only [Option.isSome_none];rw [← hv];simp [Array.getD,hs]
 refine (callsIn_wide.2 (Tryz.slices_Clone_int g 0 1 cap [a] w (by simp) (by decide) (fun j hj => ?_))).mono ?_
 ·have:j=0:=by simpa using hj
  subst this;exact hcell
 ·rintro e w' ⟨v,rfl,⟨o1,o2⟩,hne,hB⟩
  obtain ⟨f1,m1⟩:=oR (C:=C) (kb:=none) hM hB.os hB.tape hB.output hB.size (fun k hk=>hB.block k hk)
  rcases o2 with ⟨_,e⟩ | ⟨g2,Np,cur,rfl,r1,r2,r3,r4,r5,r6⟩
  ·cases e
  refine ⟨_,rfl,_,f1,m1,.p _ _ (.sl 1 [aB a] _ Np (fun _ => .int .i64 a) r3 r4 (fun i hi => ?_) (fun i hi => ?_) (fun i hi=>rfl))⟩
  ·have:i=0:=by simpa using hi
   subst this;have hl:g2<w'.heap.size:=(lR.1 r2).1;refine ⟨g2,0,rfl,.inr ⟨r1,hl,by simp⟩,?_⟩
   unfold World.cell?;rw [show (0+0:Nat)=0 from rfl,r2]
   simp only [Option.isSome_none];have h6:=congrArg (fun l:List Value=>l[0]?) r6
   have hc:0<cur.size:=by rw [r5];omega
   simpa [List.getElem?_take,hc] using h6
  ·have:i=0:=by simpa using hi
   subst this;exact .v _
end KV
end Go.Proofs
end
namespace Go.Proofs
namespace KV
open Tryz
section
variable {x:Lqq}{i j q j' q':Nat}

noncomputable abbrev aKu:Code:=sub (cd Tryz.f20) [1,0,1,0,0]
noncomputable abbrev aSc:Code:=pS (cd Tryz.f20) 8 [0,1,0,0]
noncomputable abbrev bHz:Code:=pS (cd Tryz.f20) 6 [0,1,0,0]
theorem aSd:((0:Int) != 0)=false:=by first | decide | simp
def ixE(l:List Int):List PV:=[bK l]
def aBs(k:Int)(L:List Chg):List (Value × PV):=L.map fun c=>(iL k (crM c),.agg [aL c.1,aL c.2])
abbrev iN:=aBs 0
def jY(R A B:List (List Cel))(q:Nat):St:=⟨fr 132 [(3,(.ptr 0 0)),(4,(.ptr 1 0)),(5,(.ptr 2 0)),(6,(.ptr 3 0)),(30,(.p (.agg [(aB 0),(.sl R.length (R.map aL)),(aB 0),(.sl A.length (A.map aL)),(aB 0),(.sl B.length (B.map aL))]))),(31,(pI (q:Int)))],[some (.box 26 [(pI 0),(.p (.sl R.length (R.map aL)))]),some (.box 26 [(pI 0),(.p (.sl A.length (A.map aL)))]),some (.box 26 [(pI 0),(.p (.sl B.length (B.map aL)))]),some (.box 26 [(pI 0),(.p bM)])]⟩
def pY(R A B:List (List Cel))(i:Nat)(me:List (Value × PV))(mk:Nat):St:=⟨fr 132 [(3,(.ptr 0 0)),(5,(.ptr 1 0)),(6,(.ptr 2 0)),(12,(pI 0)),(14,(pI 1)),(15,(.mp 3)),(16,(.p (.sl ((dfM 0 R A).length) (((dfM 0 R A).map chE).flatten)))),(65,(.p (.sl ((dfM 0 R A).length) (((dfM 0 R A).map chE).flatten)))),(66,(pI ((dfM 0 R A).length:Int))),(67,(pI (i:Int)))],[some (.box 26 [(pI 0),(.p (.sl R.length (R.map aL)))]),some (.box 26 [(pI 0),(.p (.sl B.length (B.map aL)))]),some (.box 26 [(pI 0),(.p bM)]),some (.mp me mk)]⟩
def lZ(R B:List (List Cel))(Dt:List (List Cel × List Cel))(j xn:Nat)(xc:List PV):St:=⟨fr 132 [(3,(.ptr 0 0)),(6,(.ptr 1 0)),(12,(pI 0)),(14,(pI 1)),(15,(.mp 2)),(19,(.own 3)),(80,(.p (.sl ((dfM 0 R B).length) (((dfM 0 R B).map chE).flatten)))),(81,(pI ((dfM 0 R B).length:Int))),(82,(pI (j:Int)))],[some (.box 26 [(pI 0),(.p (.sl R.length (R.map aL)))]),some (.box 26 [(pI 0),(.p bM)]),some (.mp (iN Dt) Dt.length),some (.row 68 xn xc)]⟩
theorem bYm{R A B:List (List Cel)}{Hb Qr:Nat}{Dt:List (List Cel × List Cel)}{Qs:Nat}{Kr:Lqq}(hl0:aF Tp 0 aKu (jY R A B 0) (.exit 0) (jY R A B Hb))(Ls:fT 0 R)(I2:fT 0 A)(Nf:(dfL 0 R A).length≤12)(Nl:1≤(dfL 0 R A).length)(Cv:aF Tp 0 bHz (pY R A B 0 [] 0) (.exit 2) (pY R A B Qr (iN Dt) Dt.length))(Qt:fT 0 B)(Qu:(dfL 0 R B).length≤12)(Qv:1≤(dfL 0 R B).length)(Ks:aF Tp 0 aSc (lZ R B Dt 0 0 []) (.exit 4) (lZ R B Dt Qs Kr.length ((Kr.map ixE).flatten)))(Ba:(0:Int)<(Kr.length:Int)):FMM Tp 20 [(.p (.agg [(aB 0),(.sl R.length (R.map aL))])),(.p (.agg [(aB 0),(.sl A.length (A.map aL))])),(.p (.agg [(aB 0),(.sl B.length (B.map aL))]))] [] (.tup [(.p (.agg [(aB 0),bM])),(.p (.sl Kr.length ((Kr.map ixE).flatten))),(pI 0)]) []:=have k1:=fk 5 (FV.frz (aPj Ls I2 Nf Nl) rfl) rfl;have k2:=fk 4 (FV.frz (aPj Ls Qt Qu Qv) rfl) rfl;FMM.fi 0 ⟨[],[],[3],[]⟩ func20 ([hl0.k 6 (gI aq cn)]++rF 7++[.c (.tup [(.p (.sl 3 [(aB 0),(aB 1),(aB 0)])),(pI 1)]) [],k1.o,Cv.k 4 (gI ae [0,2,3,4]),k2.o,Ks.k 1 (gN af [0,2,3,4] [(19,68)]),bT]) (gc (cN Ba) (gc Ks.code (gc k2 (gc Cv.code (gc k1 (gt (FC Tp 103 [(pI 0)] [] 4 (.tup [(.p (.sl 3 [(aB 0),(aB 1),(aB 0)])),(pI 1)]) []) (FV.fc (bGk rfl) rfl) (Jp aSd (gc hl0.code gn))))))))
theorem bAb{R A B:List (List Cel)}(Ar:q=0)(E6:dW 0 R=0)(D7:q'=1):aA Tp 0 aKu (jY R A B q) .normal (jY R A B q'):=by
 subst Ar;subst D7;exact aA.fi (gI aq cn) [bT,.c (pI 0) [],bF] (gt (inR 1) (by show _∧_;omega) (gc aSd (gc (fk 5 (aGs 0 R E6) rfl) (gt (0+2≤[(aB 0),(.sl R.length (R.map aL)),(aB 0),(.sl A.length (A.map aL)),(aB 0),(.sl B.length (B.map aL))].length) (by first | decide | simp) (gt (0≤(0:Int)∧(0:Int)<3) (by first | decide | simp) (gt ((decide ((0:Int)<3))=true) (by first | decide | simp) gn))))))
theorem bAc{R A B:List (List Cel)}(Ar:q=1)(E6:dW 0 A=0)(D7:q'=2):aA Tp 0 aKu (jY R A B q) .normal (jY R A B q'):=by
 subst Ar;subst D7;exact aA.fi (gI aq cn) [bT,.c (pI 0) [],bF] (gt (inR 2) (by show _∧_;omega) (gc aSd (gc (fk 5 (aGs 0 A E6) rfl) (gt (2+2≤[(aB 0),(.sl R.length (R.map aL)),(aB 0),(.sl A.length (A.map aL)),(aB 0),(.sl B.length (B.map aL))].length) (by first | decide | simp) (gt (0≤(1:Int)∧(1:Int)<3) (by first | decide | simp) (gt ((decide ((1:Int)<3))=true) (by first | decide | simp) gn))))))
theorem bAd{R A B:List (List Cel)}(Ar:q=2)(E6:dW 0 B=0)(D7:q'=3):aA Tp 0 aKu (jY R A B q) .normal (jY R A B q'):=by
 subst Ar;subst D7;exact aA.fi (gI aq cn) [bT,.c (pI 0) [],bF] (gt (inR 3) (by show _∧_;omega) (gc aSd (gc (fk 5 (aGs 0 B E6) rfl) (gt (4+2≤[(aB 0),(.sl R.length (R.map aL)),(aB 0),(.sl A.length (A.map aL)),(aB 0),(.sl B.length (B.map aL))].length) (by first | decide | simp) (gt (0≤(2:Int)∧(2:Int)<3) (by first | decide | simp) (gt ((decide ((2:Int)<3))=true) (by first | decide | simp) gn))))))
theorem bAe{R A B:List (List Cel)}(Ar:q=3)(D7:q'=3):aA Tp 0 aKu (jY R A B q) (.exit 0) (jY R A B q'):=by
 subst Ar;subst D7;exact aA.fi (gI aq cn) [bF] (gt ((decide ((3:Int)<3))=false) (by first | decide | simp) gn)
theorem bAf{R A B:List (List Cel)}{m:List (List Cel × List Cel)}{Ay Az:List Cel}{i':Nat}{m':List (List Cel × List Cel)}(h0:(i:Int)<((dfM 0 R A).length:Int))(h1:(dfM 0 R A)[i]? = some (Ay,Az))(h2:aN (0:Int)≤((crM (Ay,Az)).length:Int))(h3:eH Tp 186 (iN m) (k3V (aK 0 (crM (Ay,Az)) 0) (aK 0 (crM (Ay,Az)) 1) (aK 0 (crM (Ay,Az)) 2)))(h4:(gQ (iN m) (k3V (aK 0 (crM (Ay,Az)) 0) (aK 0 (crM (Ay,Az)) 1) (aK 0 (crM (Ay,Az)) 2)))=false)(h5:co i)(Aj:i'=(i+1))(E2:iN m'=((iN m)++[((k3V (aK 0 (crM (Ay,Az)) 0) (aK 0 (crM (Ay,Az)) 1) (aK 0 (crM (Ay,Az)) 2)),(.agg [(.sl Ay.length ((Ay.map cE).flatten)),(.sl Az.length ((Az.map cE).flatten))]))]))(E3:m'.length=(m.length+1)):aA Tp 0 bHz (pY R A B i (iN m) m.length) .normal (pY R A B i' (iN m') m'.length):=by
 subst Aj;have k1:=fk 5 (mC (Ay,Az).1 (Ay,Az).2) rfl;have k2:=fk 13 (eC 0 (crM (Ay,Az)) h2) rfl;rw [E2,E3];exact aA.fi (gI ae cn) [bT,.x (.agg [(.sl Ay.length ((Ay.map cE).flatten)),(.sl Az.length ((Az.map cE).flatten))]),k1.o,k2.o,bF] (gc h5 (gc h4 (gc h3 (gc k2 (gc k1 (gc (bE (E:=chE) (i:=i) (k:=2) (fun _=>rfl) h1 rfl) (gc (cC (E:=chE) (i:=i) (k:=2) (fun _=>rfl) h1) (gc (bD (E:=chE) (k:=2) (i:=(i:Int)) (fun _=>rfl) (by decide) (Bu _) h1) (g0 h0)))))))))
theorem bAg{R A B:List (List Cel)}{m:List (List Cel × List Cel)}(h0:((dfM 0 R A).length:Int)≤(i:Int)):aA Tp 0 bHz (pY R A B i (iN m) m.length) (.exit 2) (pY R A B i (iN m) m.length):=aA.fi (gI ae cn) [bF] (gc (bC h0) gn)
section
variable{R B:List (List Cel)}{Dt:List (List Cel × List Cel)}{Au Ao:List Cel}{B3:Chg}(h0:(j:Int)<((dfM 0 R B).length:Int))(h1:(dfM 0 R B)[j]? = some (Au,Ao))(h2:aN (0:Int)≤((crM (Au,Ao)).length:Int))(h3:eH Tp 186 (iN Dt) (k3V (aK 0 (crM (Au,Ao)) 0) (aK 0 (crM (Au,Ao)) 1) (aK 0 (crM (Au,Ao)) 2)))(h4:(gQ (iN Dt) (k3V (aK 0 (crM (Au,Ao)) 0) (aK 0 (crM (Au,Ao)) 1) (aK 0 (crM (Au,Ao)) 2)))=true)(h5:gK (iN Dt) (k3V (aK 0 (crM (Au,Ao)) 0) (aK 0 (crM (Au,Ao)) 1) (aK 0 (crM (Au,Ao)) 2))=some (.agg [(.sl B3.1.length ((B3.1.map cE).flatten)),(.sl B3.2.length ((B3.2.map cE).flatten))]))(H5:B3.2.length≤100000)
include h0 h1 h2 h3 h4 h5 H5
theorem bAh{x':Lqq}(h7:(decide (B3.2=Ao))=false)(h8:[(PV.sl 1 [(aB (aK 0 (crM (Au,Ao)) 0))])].length=1*1∧x.length+1≤1000000)(h9:co j)(Bv:j'=(j+1))(Nm:x'.length=(x.length+1))(Nn:(x'.map ixE).flatten=(((x.map ixE).flatten)++[(PV.sl 1 [(aB (aK 0 (crM (Au,Ao)) 0))])])):aA Tp 0 aSc (lZ R B Dt j x.length ((x.map ixE).flatten)) .normal (lZ R B Dt j' x'.length ((x'.map ixE).flatten)):=by
 subst Bv;have k1:=fk 5 (mC (Au,Ao).1 (Au,Ao).2) rfl;have k2:=fk 5 (eC 0 (crM (Au,Ao)) h2) rfl;have k3:=fk 7 (pM B3.2 Ao H5) rfl;have k4:=mq [5] 7 (bYn (aK 0 (crM (Au,Ao)) 0) (aK 0 (crM (Au,Ao)) 1) (aK 0 (crM (Au,Ao)) 2));rw [Nm,Nn];exact aA.fi (gI af [0,1,2,8]) [bT,.x (.agg [(.sl Au.length ((Au.map cE).flatten)),(.sl Ao.length ((Ao.map cE).flatten))]),k1.o,k2.o,bT,.x (.agg [(.sl B3.1.length ((B3.1.map cE).flatten)),(.sl B3.2.length ((B3.2.map cE).flatten))]),k3.o,bT,k4.o] (gc h9 (gc h8 (gc k4 (gt (0≤(0:Int)∧(0:Int)≤1∧(1:Int)≤3∧3≤maxLen) (by unfold maxLen;omega) (gc (cZ h7) (gc k3 (gc h5 (gc h4 (gc h3 (gc k2 (gc k1 (gc (bE (E:=chE) (i:=j) (k:=2) (fun _=>rfl) h1 rfl) (gc (cC (E:=chE) (i:=j) (k:=2) (fun _=>rfl) h1) (gc (bD (E:=chE) (k:=2) (i:=(j:Int)) (fun _=>rfl) (by decide) (Bu _) h1) (g0 h0)))))))))))))))
theorem bAi(h7:(decide (B3.2=Ao))=true)(h8:co j)(Bv:j'=(j+1)):aA Tp 0 aSc (lZ R B Dt j x.length ((x.map ixE).flatten)) .normal (lZ R B Dt j' x.length ((x.map ixE).flatten)):=by
 subst Bv;have k1:=fk 5 (mC (Au,Ao).1 (Au,Ao).2) rfl;have k2:=fk 5 (eC 0 (crM (Au,Ao)) h2) rfl;have k3:=fk 7 (pM B3.2 Ao H5) rfl;exact aA.fi (gI af cn) [bT,.x (.agg [(.sl Au.length ((Au.map cE).flatten)),(.sl Ao.length ((Ao.map cE).flatten))]),k1.o,k2.o,bT,.x (.agg [(.sl B3.1.length ((B3.1.map cE).flatten)),(.sl B3.2.length ((B3.2.map cE).flatten))]),k3.o,bF] (gc h8 (gc (aX h7) (gc k3 (gc h5 (gc h4 (gc h3 (gc k2 (gc k1 (gc (bE (E:=chE) (i:=j) (k:=2) (fun _=>rfl) h1 rfl) (gc (cC (E:=chE) (i:=j) (k:=2) (fun _=>rfl) h1) (gc (bD (E:=chE) (k:=2) (i:=(j:Int)) (fun _=>rfl) (by decide) (Bu _) h1) (g0 h0))))))))))))
end
theorem bAj{R B:List (List Cel)}{Dt:List (List Cel × List Cel)}(h0:((dfM 0 R B).length:Int)≤(j:Int)):aA Tp 0 aSc (lZ R B Dt j x.length ((x.map ixE).flatten)) (.exit 4) (lZ R B Dt j x.length ((x.map ixE).flatten)):=aA.fi (gI af cn) [bF] (gc (bC h0) gn)
end
end KV
end Go.Proofs
section
namespace Go.Proofs
open Go.RowKit
namespace KV
open Tryz
set_option maxRecDepth 1000000
def rL(k:Int)(L:List Chg)(r:List Cel):Option Chg:=L.find? fun c=>decide (Av k (crM c)=Av k r)
theorem bHx(k:Int)(L:List Chg)(r:List Cel):gQ (aBs k L) (iL k r)=(rL k L r).isSome:=by
 unfold gQ aBs rL;rw [List.any_map,Bool.eq_iff_iff,List.find?_isSome,List.any_eq_true];rfl
theorem bNn(k:Int)(L:List Chg)(r:List Cel):gK (aBs k L) (iL k r)=(rL k L r).map fun c => .agg [aL c.1,aL c.2]:=by
 unfold gK aBs rL;rw [List.find?_map];have e:((fun e:Value × PV=>decide (jU e.1=jU (iL k r))) ∘ fun c:Chg=>(iL k (crM c),PV.agg [aL c.1,aL c.2]))=fun c=>decide (Av k (crM c)=Av k r):=rfl
 rw [e];cases List.find? (fun c:Chg=>decide (Av k (crM c)=Av k r)) L <;> rfl
structure aSa (k:Int) (L:List Chg):Prop where
 n:L.length≤400
 kk:∀ x∈L,aN k≤((crM x).length:Int)
 ky:∀ x∈L,kF k (crM x)
 nd:(L.map fun c=>Av k (crM c)).Nodup
 len:∀ x∈L,x.2.length≤1000
theorem aSb{k:Int}{L:List Chg}{r:List Cel}(h:∀ x∈L,kF k (crM x))(hn:(L.map fun c=>Av k (crM c)).Nodup)(hr:kF k r):eH Tp 186 (aBs k L) (iL k r):=by
 refine ⟨Eb,fun e he => ?_,kN hr,fun e he h => ?_,?_⟩
 ·obtain ⟨x,hx,rfl⟩:=tZ.1 he
  exact kN (h x hx)
 ·obtain ⟨x,hx,rfl⟩:=tZ.1 he
  exact aGy h
 ·unfold aBs
  rw [zW];exact hn
def Gv(L:List Chg)(c:Chg):Option (List Int):=match rL 0 L (crM c) with
 | some o=>if o.2=c.2 then none else some [aK 0 (crM c) 0]
 | none=>none
theorem bHy(L:Lqq)(x:List Int):((L++[x]).map ixE).flatten=(L.map ixE).flatten++[bK x]:=by simp [ixE]
theorem bYl{R A B:List (List Cel)}(cR:dW 0 R=0)(cA:dW 0 A=0)(cB:dW 0 B=0)(hR:fT 0 R)(hA:fT 0 A)(hB:fT 0 B)(Qp:(dfL 0 R A).length≤12)(a1:1≤(dfL 0 R A).length)(Qq:(dfL 0 R B).length≤12)(b1:1≤(dfL 0 R B).length)
  (hF:aSa 0 (dfM 0 R A)) (hG:aSa 0 (dfM 0 R B)) (hm:∀ c∈dfM 0 R B,(rL 0 (dfM 0 R A) (crM c)).isSome=true) (h1:0<((dfM 0 R B).filterMap (Gv (dfM 0 R A))).length) :
  FMM Tp 20 [.p (.agg [aB 0,bY R]),.p (.agg [aB 0,bY A]),.p (.agg [aB 0,bY B])] [] (.tup [.p (.agg [aB 0,bM]),.p (.sl ((dfM 0 R B).filterMap (Gv (dfM 0 R A))).length ((((dfM 0 R B).filterMap (Gv (dfM 0 R A))).map ixE).flatten)),.p (aB 0)]) []:=by
 have hFn:=hF.n;have hGn:=hG.n;have L0:aF Tp 0 (sub (cd Tryz.f20) bz) (jY R A B 0) (.exit 0) (jY R A B 3) := .step (bAb rfl cR rfl) (.step (bAc rfl cA rfl) (.step (bAd rfl cB rfl) (.exit (bAe rfl rfl) (by simp))))
 have L1:=aF.count (P:=Tp) (k:=0) (b:=(sub (cd Tryz.f20) ba)) (e := .exit 2) (R:=pY R A B (dfM 0 R A).length (iN (dfM 0 R A)) (dfM 0 R A).length) (dfM 0 R A).length
  (fun i=>pY R A B i (iN ((dfM 0 R A).take i)) ((dfM 0 R A).take i).length)
  (fun i hi=>by
   have hx:(dfM 0 R A)[i]? = some (dfM 0 R A)[i]:=B4 hi;have et:(dfM 0 R A).take (i+1)=(dfM 0 R A).take i++[(dfM 0 R A)[i]]:=by rw [List.take_add_one,hx];rfl
   have hc:=gR hi;have hnt:(((dfM 0 R A).take i).map fun c=>Av 0 (crM c)).Nodup:=by rw [List.map_take];exact hF.nd.sublist (List.take_sublist i _)
   have hno:rL 0 ((dfM 0 R A).take i) (crM (dfM 0 R A)[i])=none:=by
    unfold rL;rw [List.find?_eq_none];intro y hy hd;obtain ⟨j,hj,e⟩:=List.mem_iff_getElem.1 hy;rw [mQ] at hj
    rw [List.getElem_take] at e
    have hd:=of_decide_eq_true hd;rw [← e] at hd
    have:=List.pairwise_iff_getElem.1 hF.nd j i (by rw [mR];omega) (by rw [mR];omega) (by omega)
    rw [gS,gS] at this
    exact this hd
   have hK:=aSb (r:=crM (dfM 0 R A)[i]) (fun x hx=>hF.ky x (List.mem_of_mem_take hx)) hnt (hF.ky _ hc)
   have hhit:=bHx 0 ((dfM 0 R A).take i) (crM (dfM 0 R A)[i]);rw [hno] at hhit
   exact bAf (Ay:=(dfM 0 R A)[i].1) (Az:=(dfM 0 R A)[i].2) (m:=(dfM 0 R A).take i) (m':=(dfM 0 R A).take (i+1)) (by omega) hx (hF.kk _ hc) hK hhit (aT (by omega)) rfl (by rw [et];show aBs 0 _=aBs 0 _++_;unfold aBs;rw [rB];rfl) (by simp;omega))
  (by rw [List.take_length];exact bAg (by omega)) (by simp)
 have L2:=aF.count (P:=Tp) (k:=0) (b:=(sub (cd Tryz.f20) [1,1,1,1,1,1,1,1,0,1,0,0])) (e := .exit 4) (R:=lZ R B (dfM 0 R A) (dfM 0 R B).length ((dfM 0 R B).filterMap (Gv (dfM 0 R A))).length ((((dfM 0 R B).filterMap (Gv (dfM 0 R A))).map ixE).flatten)) (dfM 0 R B).length
  (fun j=>lZ R B (dfM 0 R A) j (((dfM 0 R B).take j).filterMap (Gv (dfM 0 R A))).length (((((dfM 0 R B).take j).filterMap (Gv (dfM 0 R A))).map ixE).flatten))
  (fun j hj=>by
   have hx:(dfM 0 R B)[j]? = some (dfM 0 R B)[j]:=B4 hj;have hc:=gR hj;have hfl:=aBa (Gv (dfM 0 R A)) (dfM 0 R B) j;rw [uQ (Gv (dfM 0 R A)) hx];have hmt:=hm _ hc;have kk:=hG.kk _ hc;have ky:=hG.ky _ hc;generalize (dfM 0 R B)[j]=c at hx hc hmt kk ky
   have hK:=aSb (r:=crM c) hF.ky hF.nd ky;have hhit:=bHx 0 (dfM 0 R A) (crM c);have hlook:=bNn 0 (dfM 0 R A) (crM c);have hfx:Gv (dfM 0 R A) c=match rL 0 (dfM 0 R A) (crM c) with | some o=>if o.2=c.2 then none else some [aK 0 (crM c) 0] | none=>none:=rfl
   rw [hfx];generalize ((dfM 0 R B).take j).filterMap (Gv (dfM 0 R A))=x at hfl
   cases hlk:rL 0 (dfM 0 R A) (crM c) with
   | none=>rw [hlk] at hmt;cases hmt
   | some o =>
    rw [hlk] at hhit hlook
    have ho:=hF.len o (bKf hlk);dsimp only
    by_cases he:o.2=c.2
    ·rw [if_pos he,Option.toList_none,List.append_nil]
     exact bAi (Au:=c.1) (Ao:=c.2) (by omega) hx kk hK hhit hlook (by omega) (by simp [he]) (aT (by omega)) rfl
    ·rw [if_neg he]
     exact bAh (Au:=c.1) (Ao:=c.2) (x':=x++[[aK 0 (crM c) 0]]) (by omega) hx kk hK hhit hlook (by omega) (by simp [he]) ⟨rfl,by omega⟩ (aT (by omega)) rfl (by simp) (bHy x _))
  (by rw [List.take_length];exact bAj (by omega)) (by simp)
 exact bYm L0 hR hA Qp a1 L1 hB Qq b1 L2 (by omega)
end KV
end Go.Proofs
end
namespace Go.Proofs
namespace KV
open Tryz
section
variable {z Jg:Int}{i n rn Lr Lq pos base:Nat}{g:PV}

noncomputable abbrev aRv:Code:=pS (cd Tryz.f165) 6 [0,1,0,0]
noncomputable abbrev aRw:Code:=sub (cd Tryz.f165) [1,1,1,0,1,0,0,1,1]
noncomputable abbrev bQf:Code:=sub (cd Tryz.f165) [1,1,1,0]
theorem bQg:0≤(0:Int)∧(0:Int)≤32∧(32:Int)≤1000000:=by first | decide | simp
theorem bYe{cs:List UInt8}{r:Nat}{r0:Bool}(h0:r<128)(Al:r0=(aAu cs r)):FV Tp 164 [(.p (aD cs)),(.p (.v (.int .i32 (r:Int))))] base (pB r0) []:=by
 subst Al;exact FV.fi func164 [.c (pB (aAu cs r)) []] (gc (fk 0 (bYh cs r h0) rfl) gn)
theorem aGq(cs:List UInt8)(r:Nat)(h:r<128){v:Bool}(hv:aAu cs r=v){base:Nat}:FV Tp 164 [.p (aD cs),.p (.v (.int .i32 (r:Int)))] base (pB v) []:=bYe (r0:=v) h hv.symm
def spE(x:Int × Int):List PV:=[aB x.1,aB x.2]
def sP(s cs:List UInt8)(pn:Nat)(pc:List PV)(z:Int):St:=⟨fr 65 [(0,(.p (aD s))),(1,(.fn 164 [(.p (aD cs))] [])),(4,(.p bM)),(5,(.own 0)),(6,(pI z))],[some (.row 302 pn pc)]⟩
def lX(s:List UInt8)(n i qn:Nat)(qc:List PV)(rn:Nat)(rc:List PV):St:=⟨fr 65 [(0,(.p (aD s))),(4,(.p bM)),(9,(.own 1)),(47,(.own 0)),(48,(pI (n:Int))),(49,(pI (i:Int)))],[some (.row 302 qn qc),some (.row 9 rn rc)]⟩
section
variable{s cs:List UInt8}{Dy:List (Int × Int)}(hl0:aA Tp 0 bQf (sP s cs 0 [] (-1)) .normal (sP s cs Dy.length ((Dy.map spE).flatten) Jg))
include hl0
theorem bYf{Jf:List (Int × Int)}{Hh:List (List UInt8)}(h1:(0:Int)≤Jg)(h2:[(aB Jg),(aB (s.length:Int))].length=1*2∧Dy.length+1≤1000000)(h3:0≤(((Dy.length+1):Nat):Int)∧(((Dy.length+1):Nat):Int)≤(((Dy.length+1):Nat):Int)∧(((Dy.length+1):Nat):Int)≤1000000)(Fb:aF Tp 0 aRv (lX s (Dy.length+1) 0 (Dy.length+1) (((Dy.map spE).flatten)++[(aB Jg),(aB (s.length:Int))]) (Dy.length+1) (List.replicate (Dy.length+1) (aD ([]:List UInt8)))) (.exit 2) (lX s Lq Lr Jf.length ((Jf.map spE).flatten) Hh.length ((Hh.map stE).flatten))):FV Tp 165 [(.p (aD s)),(.fn 164 [(.p (aD cs))] [])] base (.own base) [(base,(.row 9 Hh.length ((Hh.map stE).flatten)))]:=FV.fi func165 [hl0.k 7 (gI [2,2,7,2,12,23] [0]),bT,Fb.k 7 (gI bb [2,3])] (gc Fb.code (gc h3 (gc h2 (gt ([(aB Jg),(aB (s.length:Int))].length=2) (by first | decide | simp) (gc (mD h1) (gc hl0 (gc bQg gn)))))))
theorem bYg{Jf:List (Int × Int)}{Hh:List (List UInt8)}(h1:Jg<(0:Int))(h2:0≤(Dy.length:Int)∧(Dy.length:Int)≤(Dy.length:Int)∧(Dy.length:Int)≤1000000)(Ej:aF Tp 0 aRv (lX s Dy.length 0 Dy.length ((Dy.map spE).flatten) Dy.length (List.replicate Dy.length (aD ([]:List UInt8)))) (.exit 2) (lX s Lq Lr Jf.length ((Jf.map spE).flatten) Hh.length ((Hh.map stE).flatten))):FV Tp 165 [(.p (aD s)),(.fn 164 [(.p (aD cs))] [])] base (.own base) [(base,(.row 9 Hh.length ((Hh.map stE).flatten)))]:=FV.fi func165 [hl0.k 7 (gI [2,2,7,2,12,23] [0]),bF,Ej.k 6 (gI bb [0,1])] (gc Ej.code (gc h2 (gc (eE h1) (gc hl0 (gc bQg gn)))))
end
theorem aZs{s:List UInt8}{q:List (Int × Int)}{r:List (List UInt8)}{Bm Bj:Int}{i':Nat}{r':List (List UInt8)}(h0:(i:Int)<(n:Int))(h1:0≤(i:Int)∧(i:Int)<(q.length:Int))(h2:q[i]? = some (Bm,Bj))(h3:0≤Bm∧Bm≤Bj∧Bj≤(s.length:Int))(h4:0≤(i:Int)∧(i:Int)<(r.length:Int))(h5:(i*1)<((r.map stE).flatten).length)(h6:co i)(Aj:i'=(i+1))(Di:r'.length=r.length)(Dj:(r'.map stE).flatten=(((r.map stE).flatten).set (i*1) (aD ((s.drop Bm.toNat).take (Bj.toNat-Bm.toNat))))):aA Tp 0 aRv (lX s n i q.length ((q.map spE).flatten) r.length ((r.map stE).flatten)) .normal (lX s n i' q.length ((q.map spE).flatten) r'.length ((r'.map stE).flatten)):=by
 subst Aj;rw [Di,Dj];exact aA.fi (gI bb [0,1]) [bT,.x (.agg [(aB Bm),(aB Bj)])] (gc h6 (gc h5 (gc h4 (gc h3 (gc (bE (E:=spE) (i:=i) (k:=2) (fun _=>rfl) h2 rfl) (gc (cC (E:=spE) (i:=i) (k:=2) (fun _=>rfl) h2) (gc h1 (g0 h0))))))))
theorem aZt{s:List UInt8}{q:List (Int × Int)}{r:List (List UInt8)}(h0:(n:Int)≤(i:Int)):aA Tp 0 aRv (lX s n i q.length ((q.map spE).flatten) r.length ((r.map stE).flatten)) (.exit 2) (lX s n i q.length ((q.map spE).flatten) r.length ((r.map stE).flatten)):=aA.fi (gI bb [0,1]) [bF] (gc (bC h0) gn)
def lY(s cs:List UInt8)(g:PV)(pos rn pn:Nat)(pc:List PV)(z:Int):St:=⟨fr 65 [(0,(.p (aD s))),(1,(.fn 164 [(.p (aD cs))] [])),(4,(.p bM)),(5,(.own 0)),(6,(pI z)),(14,(.p g)),(15,(.tup [(pB true),(pI (pos:Int)),(.p (.v (.int .i32 (rn:Int))))])),(16,(pB true))],[some (.row 302 pn pc)]⟩
def bHt(s cs:List UInt8)(g:PV)(pos rn:Nat)(p:List (Int × Int))(z y:Int):St:=⟨fr 65 [(0,(.p (aD s))),(1,(.fn 164 [(.p (aD cs))] [])),(4,(.p bM)),(5,(.own 2)),(6,(pI y)),(7,(pI (pos:Int))),(8,(.p (.v (.int .i32 (rn:Int))))),(14,(.p g)),(15,(.tup [(pB true),(pI (pos:Int)),(.p (.v (.int .i32 (rn:Int))))])),(16,(pB true)),(17,(pI (pos:Int))),(18,(.p (.v (.int .i32 (rn:Int))))),(19,(.fn 164 [(.p (aD cs))] [])),(20,(.p (.v (.int .i32 (rn:Int))))),(21,(pB true)),(22,(pI z)),(23,(pB (decide (z ≥ 0)))),(24,(.own 0)),(25,(pI z)),(26,(pI (pos:Int))),(27,(.p (.agg [(aB z),(aB (pos:Int))]))),(28,(.own 1)),(29,(.own 2))],[some .dead,some (.row 302 1 [(aB z),(aB (pos:Int))]),some (.row 302 (p.length+1) (((p.map spE).flatten)++[(aB z),(aB (pos:Int))]))]⟩
theorem aZu{s cs:List UInt8}{p:List (Int × Int)}{Ir:Int}{p':List (Int × Int)}(h0:rn<128)(Cu:aAu cs rn=true)(h2:(0:Int)≤z)(h3:[(aB z),(aB (pos:Int))].length=1*2∧p.length+1≤1000000)(Fb:aA Tp 0 (sub (cd Tryz.f165) [1,1,1,0,1,0,0,1,1,0,1,1,0,1,0,1]) (bHt s cs g pos rn p z z) .normal (bHt s cs g pos rn p z Ir))(Nj:p'.length=(p.length+1))(Nk:(p'.map spE).flatten=(((p.map spE).flatten)++[(aB z),(aB (pos:Int))])):aA Tp 0 aRw (lY s cs g pos rn p.length ((p.map spE).flatten) z) .normal (lY s cs g pos rn p'.length ((p'.map spE).flatten) Ir):=by
 rw [Nj,Nk];exact aA.fi (gI bg [2]) [.c (pB true) [],bT,bT,Fb.k 2 ⟨[2,3,12,13,30,31],[0,1,2],[],[]⟩] (gc Fb (gc h3 (gt ([(aB z),(aB (pos:Int))].length=2) (by first | decide | simp) (gc (mD h2) (gt (true=true) rfl (gc (fk 1 (aGq cs rn h0 Cu) rfl) gn))))))
theorem aZv{s cs:List UInt8}{p:List (Int × Int)}(h0:rn<128)(Cu:aAu cs rn=true)(h2:z<0):aA Tp 0 aRw (lY s cs g pos rn p.length ((p.map spE).flatten) z) .normal (lY s cs g pos rn p.length ((p.map spE).flatten) z):=aA.fi (gI bg [0]) [.c (pB true) [],bT,bF] (gc (eE h2) (gt (true=true) rfl (gc (fk 1 (aGq cs rn h0 Cu) rfl) gn)))
theorem aZw{s cs:List UInt8}{p:List (Int × Int)}{z':Int}(h0:rn<128)(Cu:aAu cs rn=false)(h2:z<0)(Kd:z'=(pos:Int)):aA Tp 0 aRw (lY s cs g pos rn p.length ((p.map spE).flatten) z) .normal (lY s cs g pos rn p.length ((p.map spE).flatten) z'):=by
 subst Kd;exact aA.fi (gI bg [0]) [.c (pB false) [],bF,bT] (gc (cN h2) (gf (gc (fk 1 (aGq cs rn h0 Cu) rfl) gn)))
theorem aZx{s cs:List UInt8}{p:List (Int × Int)}(h0:rn<128)(Cu:aAu cs rn=false)(h2:(0:Int)≤z):aA Tp 0 aRw (lY s cs g pos rn p.length ((p.map spE).flatten) z) .normal (lY s cs g pos rn p.length ((p.map spE).flatten) z):=aA.fi (gI bg [0]) [.c (pB false) [],bF,bF] (gc (bC h2) (gf (gc (fk 1 (aGq cs rn h0 Cu) rfl) gn)))
end
end KV
end Go.Proofs
section
namespace Go.Proofs
open Go.RowKit
namespace KV
open Tryz
theorem aRu{α β:Type}{Inv:Nat→β→Prop}{f:β→α→β}{b0:β}{L:List α}(h0:Inv 0 b0)(hs:∀ (i:Nat) (x:α) (b:β),L[i]? = some x→Inv i b→Inv (i+1) (f b x)):∀ n,n≤L.length→Inv n ((L.take n).foldl f b0)
 | 0,_=>h0
 | n+1,h=>by
  have hx:L[n]? = some L[n]:=B4 (by omega)
  rw [List.take_add_one,hx,bKh];exact hs n _ _ hx (aRu h0 hs n (by omega))
abbrev FSt:=List (Int × Int) × Int
def kY(cs:List UInt8)(x:FSt)(q:Nat × Nat):FSt:=if aAu cs q.2 then (if 0≤x.2 then (x.1++[(x.2,(q.1:Int))],-1-x.2) else x) else (if x.2<0 then (x.1,(q.1:Int)) else x)
def aGo:FSt:=([],-1)
def bHq(s:List UInt8)(x:FSt):List (Int × Int):=if 0≤x.2 then x.1++[(x.2,(s.length:Int))] else x.1
def bYc(cs s:List UInt8):List (Int × Int):=bHq s ((fZ 0 s).foldl (kY cs) aGo)
def aAt(s:List UInt8)(x:Int × Int):List UInt8:=(s.drop x.1.toNat).take (x.2.toNat-x.1.toNat)
def aKs(cs s:List UInt8):List (List UInt8):=(bYc cs s).map (aAt s)
theorem vW:∀ (l:List UInt8) (j i:Nat) (x:Nat × Nat),(fZ j l)[i]? = some x→x.1=j+i∧i<l.length∧∃ b∈l,x.2=b.toNat
 | [],_,_,_,h=>by cases h
 | b::r,j,0,x,h=>by
  cases h;exact ⟨rfl,by simp,b,by simp,rfl⟩
 | b::r,j,i+1,x,h=>by
  obtain ⟨h1,h2,b',h3,h4⟩:=vW r (j+1) i x h;exact ⟨by omega,by simp;omega,b',by simp [h3],h4⟩
theorem sO:∀ (l:List UInt8) (j:Nat),(fZ j l).length=l.length
 | [],_=>rfl
 | _::r,j=>by simp [fZ,sO r (j+1)]
structure bYd (N i:Nat) (x:FSt):Prop where
 len:x.1.length≤i
 lo : -1-(i:Int)≤x.2
 hi:x.2<0∨x.2<(i:Int)
 sp:∀ y∈x.1,0≤y.1∧y.1≤y.2∧y.2≤(N:Int)
theorem bHr(cs s:List UInt8)(n:Nat)(hn:n≤(fZ 0 s).length):bYd s.length n (((fZ 0 s).take n).foldl (kY cs) aGo):=by
 refine aRu (Inv:=bYd s.length) ⟨by simp [aGo],by simp [aGo],by simp [aGo],fun y h=>by cases h⟩ (fun i x b hx hI => ?_) n hn
 obtain ⟨h1,h2,_⟩:=vW s 0 i x hx;obtain ⟨q1,q2,q3,q4⟩:=hI;rw [iT] at h1
 unfold kY
 split
 ·split
  ·refine ⟨by simp;omega,by show _ ≤ -1-b.2;omega,.inl (by show -1-b.2<0;omega),fun y hy => ?_⟩
   rcases tY.1 hy with hy | hy
   ·exact q4 y hy
   ·rw [List.mem_singleton] at hy
    subst hy;exact ⟨by assumption,by show b.2≤(x.1:Int);omega,by show (x.1:Int)≤_;omega⟩
  ·exact ⟨by omega,by omega,by omega,q4⟩
 ·split
  ·exact ⟨by show b.1.length≤_;omega,by show _≤(x.1:Int);omega,.inr (by show (x.1:Int)<_;omega),q4⟩
  ·exact ⟨by omega,by omega,by omega,q4⟩
def ffG(s cs:List UInt8)(x:FSt)(g:PV):St:=⟨fr 65 [(0,(.p (aD s))),(1,(.fn 164 [(.p (aD cs))] [])),(4,(.p bM)),(5,(.own 0)),(6,(.p (aB x.2))),(14,(.p g))],[some (.row 302 x.1.length ((x.1.map spE).flatten))]⟩
abbrev ffS(s cs:List UInt8)(x:FSt):St:=sP s cs x.1.length ((x.1.map spE).flatten) x.2
theorem bHs(s cs:List UInt8)(hs:s.length≤90000)(x:FSt)(g:PV)(q:Nat × Nat)(i:Nat)(hI:bYd s.length i x)(hi:i<s.length)(h1:q.2<128) :
  aA Tp 0 (sub (cd Tryz.f165) [1,1,1,0,1,0,0,1,1]) ⟨nxT (ffG s cs x g).t 15 16 q.1 q.2,(ffG s cs x g).m⟩ .normal (ffG s cs (kY cs x q) g):=by
 obtain ⟨p,z⟩:=x;obtain ⟨pos,rn⟩:=q;obtain ⟨q1,q2,q3,q4⟩:=hI;dsimp only at q1 q2 q3 q4 h1
 refine aA.post (st1:=lY s cs g pos rn (kY cs (p,z) (pos,rn)).1.length (((kY cs (p,z) (pos,rn)).1.map spE).flatten) (kY cs (p,z) (pos,rn)).2) (g:=⟨[15,16],[0],[],[]⟩) (by kernel_rfl) ?_
 show aA Tp 0 _ (lY s cs g pos rn p.length ((p.map spE).flatten) z) .normal _;unfold kY;dsimp only
 by_cases hb:aAu cs rn=true
 ·rw [if_pos hb]
  by_cases hz:0≤z
  ·rw [if_pos hz]
   refine aZu h1 hb hz ⟨rfl, by omega⟩ (bYi (id := 9) (i := 6) (j := 30) (k := 31) (Em := 3) (Ek := 3) (Je := 3) (p1 := "strings.go:443") (p2 := "strings.go:443") (p3 := "strings.go:443") (q := #[{ on := 1, ground := Ground.data }, { on := 0, ground := Ground.phase }, { on := 1, ground := Ground.phase }]) (v := z) (by kernel_rfl) rfl (by show 30 < 65; omega) (by show 31 < 65; omega) ⟨hz, by omega⟩ rfl rfl) (by simp) (by simp [spE])
  ·rw [if_neg hz]
   exact aZv h1 hb (Int.not_le.1 hz)
 ·rw [if_neg hb]
  have Ap:aAu cs rn=false:=by simpa using hb
  by_cases hz:z<0
  ·rw [if_pos hz]
   exact aZw h1 Ap hz rfl
  ·rw [if_neg hz]
   exact aZx h1 Ap (Int.not_lt.1 hz)
theorem bNl(s cs:List UInt8)(hs:s.length≤90000)(ha:∀ b∈s,b.toNat<128) :
  aA Tp 0 (sub (cd Tryz.f165) [1,1,1,0]) (ffS s cs aGo) .normal (ffS s cs ((fZ 0 s).foldl (kY cs) aGo)):=by
 refine bHw (i0 := 0) (m := 13) (Oo := 3) (id := 4) (gi := 14) (d := 15) (c := 16) (Em := 0) (Ek := 4) (Je := 9) (Oq := 0) (e0 := 0) (p1 := "strings.go:436") (p2 := "strings.go:436") (p3 := "strings.go:436") (p4 := "strings.go:436") (body := sub (cd Tryz.f165) [1, 1, 1, 0, 1, 0, 0, 1, 1]) s (ffS s cs) (ffG s cs) (kY cs) aGo (fZ 0 s) (aEb s ha s 0 rfl)
  (by kernel_rfl) (by kernel_rfl) rfl (by show 13<65;omega) (fun g=>rfl) (fun b g=>rfl) (fun b g=>rfl) (fun b g=>rfl) (fun b g=>by show 14<65;omega) (fun b g=>by show 15<65;omega) (fun b g=>by show 16<65;omega) (fun b g=>rfl) (fun b=>(eL (by rfl)).2) (fun pre x g hp => ?_)
 obtain ⟨l,hl⟩:=hp;have hlen:pre.length<(fZ 0 s).length:=by rw [← hl];simp
 have hx:(fZ 0 s)[pre.length]? = some x:=by rw [← hl];simp
 have ht:(fZ 0 s).take pre.length=pre:=by rw [← hl];simp
 obtain ⟨_,h2,b,h3,h4⟩:=vW s 0 _ x hx;refine bHs s cs hs _ g x pre.length ?_ h2 (by rw [h4];exact ha b h3)
 have:=bHr cs s pre.length (by omega)
 rw [ht] at this
 exact this
theorem aGp(s:List UInt8)(q:List (Int × Int))(hq:∀ y∈q,0≤y.1∧y.1≤y.2∧y.2≤(s.length:Int))(hl:q.length≤100001):∀ (m i:Nat) (r:List (List UInt8)),i+m=q.length→r.length=q.length→r=(q.take i).map (aAt s)++List.replicate m [] →
  aF Tp 0 (sub (cd Tryz.f165) ba) (lX s q.length i q.length ((q.map spE).flatten) r.length ((r.map stE).flatten)) (.exit 2) (lX s q.length q.length q.length ((q.map spE).flatten) (q.map (aAt s)).length (((q.map (aAt s)).map stE).flatten))
 | 0,i,r,hi,hr,he=>by
  have:i=q.length:=by omega
  subst this;rw [List.take_length,List.replicate_zero,List.append_nil] at he
  subst he;exact .exit (aZt (aUq _)) (by simp)
 | m+1,i,r,hi,hr,he=>by
  have hlt:i<q.length:=by omega
  have hx:q[i]? = some q[i]:=B4 hlt;have hm:=hq _ (gR hlt);have hz:(q[i]).1=(q[i]).1:=rfl;obtain ⟨a,z,hay⟩:∃ a z,q[i]=(a,z):=⟨_,_,rfl⟩;rw [hay] at hx hm
  have hnx:r.set i (aAt s (a,z))=(q.take (i+1)).map (aAt s)++List.replicate m []:=by
   have hli:((q.take i).map (aAt s)).length=i:=by simp;omega
   rw [he,List.set_append,if_neg (by omega),hli,aNf,List.take_add_one,hx]
   simp [List.replicate_succ]
  refine .step (aZs (r':=r.set i (aAt s (a,z))) (by omega) (by omega) hx hm (by omega) (by rw [jG];simp;omega) (aT (by omega)) rfl (by simp) (by rw [jG,jG,List.map_set,Nat.mul_one];rfl)) (aGp s q hq hl m (i+1) _ (by omega) (by simpa using hr) hnx)
theorem pX(s cs:List UInt8)(hs:s.length≤90000)(ha:∀ b∈s,b.toNat<128){base:Nat}:FV Tp 165 [.p (aD s),.fn 164 [.p (aD cs)] []] base (.own base) [(base,.row 9 (aKs cs s).length (((aKs cs s).map stE).flatten))]:=by
 have hN:=bNl s cs hs ha;have hI:=bHr cs s (fZ 0 s).length (Bb _);rw [List.take_length] at hI
 unfold aKs bYc;generalize (fZ 0 s).foldl (kY cs) aGo=x at hN hI
 obtain ⟨p,z⟩:=x;rw [sO] at hI
 obtain ⟨q1,q2,q3,q4⟩:=hI;dsimp only at q1 q2 q3 q4
 unfold bHq;dsimp only;have hN:aA Tp 0 (sub (cd Tryz.f165) [1,1,1,0]) (sP s cs 0 [] (-1:Int)) .normal (sP s cs p.length ((p.map spE).flatten) z):=hN;have hrep:∀ n:Nat,List.replicate n (aD ([]:List UInt8))=((List.replicate n ([]:List UInt8)).map stE).flatten:=fun n=>by rw [jG];simp
 by_cases hz:0≤z
 ·rw [if_pos hz]
  have hL:=aGp s (p++[(z,(s.length:Int))]) (fun y hy=>by
   rcases tY.1 hy with hy | hy
   ·exact q4 y hy
   ·rw [List.mem_singleton] at hy
    subst hy;exact ⟨hz,by show z≤_;omega,aUq _⟩) (by simp;omega) (p.length+1) 0 (List.replicate (p.length+1) []) (by simp) (by simp) rfl
  have e1:(p++[(z,(s.length:Int))]).length=p.length+1:=by simp
  have e2:(((p++[(z,(s.length:Int))]).map spE).flatten)=((p.map spE).flatten)++[(aB z),(aB (s.length:Int))]:=by simp [spE]
  refine bYf hN hz ⟨rfl,by omega⟩ (by omega) (Lq:=p.length+1) (Lr:=p.length+1) (Jf:=p++[(z,(s.length:Int))]) (Hh:=(p++[(z,(s.length:Int))]).map (aAt s)) ?_
  rw [hrep];rw [e1,List.length_replicate,e2] at hL
  rw [e1,e2];exact hL
 ·rw [if_neg hz]
  have hL:=aGp s p q4 (by omega) p.length 0 (List.replicate p.length []) (by simp) (by simp) rfl
  refine bYg hN (Int.not_le.1 hz) (by omega) (Lq:=p.length) (Lr:=p.length) (Jf:=p) (Hh:=p.map (aAt s)) ?_
  rw [hrep];rw [List.length_replicate] at hL
  exact hL
end KV
end Go.Proofs
end
namespace Go.Proofs
namespace KV
open Tryz
section

noncomputable abbrev aKq:Code:=sub (cd Tryz.f166) [1,0,0,0]
abbrev cF(s:List UInt8):List (List UInt8):=aKs [9,13,32] s
def lW(u:List UInt8):St:=⟨fr 14 [(0,(.p (aD u))),(2,(.p (aD ([]:List UInt8))))],[]⟩
theorem bYa{s On:List UInt8}(hl0:aF Tp 0 aKq (lW  s) (.exit 0) (lW  On)){base:Nat}:FV Tp 166 [(.p (aD s))] base (.p (aD On)) []:=FV.fi func166 [hl0.k 4 ⟨[1,3,4,5,6,7,8,9,10,11,12],[],[],[]⟩] (gc hl0.code gn)
section
variable{u:List UInt8}{Ea:UInt8}(h0:(1:Int)<(u.length:Int))(h1:u[0]? = some Ea)
include h0 h1
theorem aZq{u':List UInt8}(h2:(Ea.toNat:Int)=48)(h3:0≤(1:Int)∧(1:Int)≤(u.length:Int)∧(u.length:Int)≤(u.length:Int))(Qk:u'=(u.drop 1)):aA Tp 0 aKq (lW  u) .normal (lW  u'):=by
 subst Qk;exact aA.fi ⟨[1,3,4,5,6,7,8,9,10,11,12],[],[],[]⟩ [bT,bT,.x (.v (.int .u8 (Ea.toNat:Int))),bT,bT,bT] (gc h3 (gc (dF h2) (A9 (cN h0) (gt ((u[0]?).map (fun b:UInt8=>PV.v (.int .u8 (b.toNat:Int)))=some (.v (.int .u8 (Ea.toNat:Int)))) (xV h1) (gt (0≤(0:Int)) (by decide) (gc (cN h0) (g0 h0)))))))
theorem aZr(h2:(Ea.toNat:Int)≠48):aA Tp 0 aKq (lW  u) (.exit 0) (lW  u):=aA.fi ⟨[1,3,4,5,6,7,8,9,10,11,12],[],[],[]⟩ [bT,bT,.x (.v (.int .u8 (Ea.toNat:Int))),bT,bT,bF] (gc (bL h2) (A9 (cN h0) (gt ((u[0]?).map (fun b:UInt8=>PV.v (.int .u8 (b.toNat:Int)))=some (.v (.int .u8 (Ea.toNat:Int)))) (xV h1) (gt (0≤(0:Int)) (by decide) (gc (cN h0) (g0 h0))))))
end
theorem aEa{u:List UInt8}(h0:(u.length:Int)≤1):aA Tp 0 aKq (lW  u) (.exit 0) (lW  u):=aA.fi ⟨[1,3,4,5,6,7,8,9,10,11,12],[],[],[]⟩ [bF,bF,bF,bF] (F6 (bC h0) gn)
def fI:List UInt8→List UInt8
 | []=>[]
 | b::r=>if 0<r.length∧b=48 then fI r else b::r
theorem aKr:∀ u:List UInt8,aF Tp 0 aKq (lW u) (.exit 0) (lW (fI u))
 | [] => .exit (aEa (by simp)) (by simp)
 | b::r=>by
  by_cases h0:0<r.length
  ·by_cases hb:b=48
   ·have e:fI (b::r)=fI r:=by simp only [fI];rw [if_pos ⟨h0,hb⟩]
    rw [e];exact .step (aZq (u':=r) (Ea:=b) (by simp;omega) rfl (by rw [hb];rfl) (by simp;omega) (by simp)) (aKr r)
   ·have e:fI (b::r)=b::r:=by simp only [fI];rw [if_neg (fun h=>hb h.2)]
    rw [e];exact .exit (aZr (Ea:=b) (by simp;omega) rfl (fun h=>hb (UInt8.toNat_inj.1 (Int.ofNat.inj h)))) (by simp)
  ·have e:fI (b::r)=b::r:=by simp only [fI];rw [if_neg (fun h=>h0 h.1)]
   rw [e];exact .exit (aEa (by simp;omega)) (by simp)
theorem bYb(s:List UInt8){base:Nat}:FV Tp 166 [.p (aD s)] base (.p (aD (fI s))) []:=bYa (aKr s)
end
section
variable {xb:Bool}{k Ac:Int}{i i' nl Ff Cr:Nat}

noncomputable abbrev kD:Code:=pS (cd Tryz.f79) 7 [0,1,0,1]
noncomputable abbrev uP:Code:=pS (cd Tryz.f79) 7 [0,1,0,1,0,1,1,1,0,1,0,0]
def cY(k:Int)(nl Rn:Nat)(Rc:List PV)(me:List (Value × PV))(mk:Nat):St:=⟨fr 176 [(2,(.ptr 0 0)),(4,(.ptr 1 0)),(5,(.ptr 2 0)),(6,(.ptr 3 0)),(7,(.ptr 4 0)),(8,(.ptr 6 0)),(9,(.ptr 7 0)),(10,(.ptr 8 0)),(11,(pI (aN k))),(12,(.ptr 10 0)),(13,(.ptr 11 0)),(35,(.ptr 5 0)),(44,(.fn 175 [] [(.ptr 12 0)]))],[some (.box 23 [(pI k)]),some (.box 26 [(pI 0),(.p bM)]),some (.box 3 [(pI 0)]),some (.box 3 [(pI 0)]),some (.box 27 [(pI 0)]),some (.box 158 [(pI k),(.own 13),(pI 0),(pI 0),(pI 0)]),some (.box 156 [(.ptr 5 0)]),some (.box 260 [(.fn 164 [(.p (aD ([9,13,32]:List UInt8)))] [])]),some (.box 65 [(.p (bK (aJ k)))]),some (.mp me mk),some (.box 247 [(.mp 9)]),some (.box 3 [(pI (nl:Int))]),some .dead,some (.row 78 Rn Rc)]⟩
def vV(k:Int)(s:List UInt8):St:=⟨fr 176 [(2,(.ptr 0 0)),(4,(.ptr 1 0)),(5,(.ptr 2 0)),(6,(.ptr 3 0)),(7,(.ptr 4 0)),(8,(.ptr 6 0)),(9,(.ptr 7 0)),(10,(.ptr 8 0)),(11,(pI (aN k))),(12,(.ptr 10 0)),(13,(.ptr 11 0)),(35,(.ptr 5 0)),(44,(.fn 175 [] [(.ptr 12 0)]))],[some (.box 23 [(pI k)]),some (.box 26 [(pI 0),(.p bM)]),some (.box 3 [(pI 0)]),some (.box 3 [(pI 0)]),some (.box 27 [(pI 0)]),some (.box 158 [(pI k),(.p bM),(pI 0),(pI 0),(pI 0)]),some (.box 156 [(.ptr 5 0)]),some (.box 260 [(.fn 164 [(.p (aD ([9,13,32]:List UInt8)))] [])]),some (.box 65 [(.p (bK (aJ k)))]),some (.mp [] 0),some (.box 247 [(.mp 9)]),some (.box 3 [(pI 0)]),some (.box 9 [(.p (aD s))])]⟩
theorem bXz{s:List UInt8}{Ng:Nat}{R'1 Dt:List (List Cel)}(h0:(within k 0 4)=true)(h1:(s.length:Int)≤65536)(Bp:aA Tp 0 (sub (cd Tryz.f79) bc) (vV k s) .normal (cY k Ng R'1.length ((R'1.map rwE).flatten) ((bN k) Dt) Dt.length))(h3:(R'1.length:Int)≤200)(Jd:R'1.length≤12)(Qj:1≤R'1.length)(Nh:∀ x∈R'1,aN k≤(x.length:Int)):FMM Tp 79 [(pI k),(.p (aD s))] [] (.tup [(.p (.agg [(aB k),(.sl ((isG (bR k) R'1).length) (((isG (bR k) R'1).map rwE).flatten))])),(pI 0),(pI 0),(pI 0)]) []:=have k1:=fk 5 (pQ k) rfl;have k2:=fk 8 (eY k) rfl;have k3:=mq [13,0] 14 (bZp (D:=R'1) (k:=k) Jd Qj Nh);have k4:=mq [5,13] 14 (bHd (k:=k) (l:=(0:Int)) (f:=(0:Int)) (e:=0) (n:=((isG (bR k) R'1).length)) (cs:=(((isG (bR k) R'1).map rwE).flatten)) rfl);FMM.fi 0 ⟨[],[],[13],[]⟩ func79 [k1.o,bF,bF,k2.o,.c (.fn 175 [] [(.ptr 12 0)]) [(12,(.box 9 [(.p (aD s))]))],Bp.k 1 ⟨(rng [(0,2),(3,1),(14,21),(36,8),(45,110),(169,1)]),(rng [(0,13)]),[],[]⟩,bF,k3.o,k4.o] (gc k4 (gc k3 (gc (bC h3) (gc Bp (gt (FC Tp 88 [(.p (aD s))] [] 12 (.fn 175 [] [(.ptr 12 0)]) [(12,(.box 9 [(.p (aD s))]))]) (FMM.fcN (k:=1) rfl (ids:=[]) (aGk (s:=s)) (by kernel_rfl)) (gc k2 (gc (bC h1) (gc (aX h0) (gc k1 gn)))))))))
def dP(k:Int)(nl:Nat)(R m:List (List Cel))(xl Aa:List UInt8)(i fsn:Nat)(fsc:List PV):St:=⟨fr 176 [(2,(.ptr 0 0)),(4,(.ptr 1 0)),(5,(.ptr 2 0)),(6,(.ptr 3 0)),(7,(.ptr 4 0)),(8,(.ptr 6 0)),(9,(.ptr 7 0)),(10,(.ptr 8 0)),(11,(pI (aN k))),(12,(.ptr 10 0)),(13,(.ptr 11 0)),(14,(.p (aD xl))),(15,(.own 14)),(35,(.ptr 5 0)),(44,(.fn 175 [] [(.ptr 12 0)])),(45,(.p (aD xl))),(47,(pI (nl:Int))),(48,(pI (((nl+1):Nat):Int))),(49,(.p (aD xl))),(50,(.fn 164 [(.p (aD ([9,13,32]:List UInt8)))] [])),(51,(.own 14)),(52,(.own 14)),(53,(pI ((cF xl).length:Int))),(54,(pB (((cF xl).length:Int) == 0))),(55,(pB (((cF xl).length:Int) == 0))),(56,(.own 14)),(57,(.ptr 14 0)),(58,(.p (aD Aa))),(59,(pB (decide (Aa=([107,108,105,115,116,101,114]:List UInt8))))),(60,(pB (decide (Aa=([107,108,105,115,116,101,114]:List UInt8))))),(61,(pB (decide (Aa=([107,108,105,115,116,101,114]:List UInt8))))),(62,(.own 14)),(63,(.ptr 14 0)),(64,(.p (aD Aa))),(65,(pB (decide (Aa=([115,117,109]:List UInt8))))),(66,(pB (decide (Aa=([115,117,109]:List UInt8))))),(67,(.own 14)),(68,(pI ((cF xl).length:Int))),(69,(pI (i:Int)))],[some (.box 23 [(pI k)]),some (.box 26 [(pI 0),(.p bM)]),some (.box 3 [(pI 0)]),some (.box 3 [(pI 0)]),some (.box 27 [(pI 0)]),some (.box 158 [(pI k),(.own 13),(pI 0),(pI 0),(pI 0)]),some (.box 156 [(.ptr 5 0)]),some (.box 260 [(.fn 164 [(.p (aD ([9,13,32]:List UInt8)))] [])]),some (.box 65 [(.p (bK (aJ k)))]),some (.mp ((bN k) m) m.length),some (.box 247 [(.mp 9)]),some (.box 3 [(pI (((nl+1):Nat):Int))]),some .dead,some (.row 78 R.length ((R.map rwE).flatten)),some (.row 9 fsn fsc)]⟩
theorem aZe{R m:List (List Cel)}{xl:List UInt8}(h0:inR (((nl+1):Nat):Int))(Da:xl.length≤90000)(Ey:∀ b∈xl,b.toNat<128)(h3:((cF xl).length:Int)=0)(Cw:Ff=(nl+1)):bU Tp 14 13 kD (oQ (cY k nl R.length ((R.map rwE).flatten) ((bN k) m) m.length) 45 46 14 xl xb) .normal (cY k Ff R.length ((R.map rwE).flatten) ((bN k) m) m.length).m:=by
 subst Cw;have raw:bU Tp 14 13 kD (oQ (cY k nl R.length ((R.map rwE).flatten) ((bN k) m) m.length) 45 46 14 xl xb) .normal (cY k (nl+1) R.length ((R.map rwE).flatten) ((bN k) m) m.length).m:=⟨⟨fr 176 [(2,(.ptr 0 0)),(4,(.ptr 1 0)),(5,(.ptr 2 0)),(6,(.ptr 3 0)),(7,(.ptr 4 0)),(8,(.ptr 6 0)),(9,(.ptr 7 0)),(10,(.ptr 8 0)),(11,(pI (aN k))),(12,(.ptr 10 0)),(13,(.ptr 11 0)),(35,(.ptr 5 0)),(44,(.fn 175 [] [(.ptr 12 0)]))],[some (.box 23 [(pI k)]),some (.box 26 [(pI 0),(.p bM)]),some (.box 3 [(pI 0)]),some (.box 3 [(pI 0)]),some (.box 27 [(pI 0)]),some (.box 158 [(pI k),(.own 13),(pI 0),(pI 0),(pI 0)]),some (.box 156 [(.ptr 5 0)]),some (.box 260 [(.fn 164 [(.p (aD ([9,13,32]:List UInt8)))] [])]),some (.box 65 [(.p (bK (aJ k)))]),some (.mp ((bN k) m) m.length),some (.box 247 [(.mp 9)]),some (.box 3 [(pI (((nl+1):Nat):Int))]),some .dead,some (.row 78 R.length ((R.map rwE).flatten))]⟩,⟨[],[13],[],[]⟩,aA.fin (g:=⟨(rng [(0,2),(3,1),(14,21),(36,8),(45,110),(169,1)]),[],[],[]⟩) (o:=[.c (.own 14) [(14,(.row 9 ((cF xl).length) (((cF xl).map stE).flatten)))],bT,bT,bT,bT,bT]) (l:=[_,_,_,_,_,_,_]) (by kernel_rfl) (Cy (dF h3) (gc (fk 14 (pX xl [9,13,32] Da Ey) rfl) (gc h0 gn))),by kernel_rfl,(⟨fr 176 [(2,(.ptr 0 0)),(4,(.ptr 1 0)),(5,(.ptr 2 0)),(6,(.ptr 3 0)),(7,(.ptr 4 0)),(8,(.ptr 6 0)),(9,(.ptr 7 0)),(10,(.ptr 8 0)),(11,(pI (aN k))),(12,(.ptr 10 0)),(13,(.ptr 11 0)),(35,(.ptr 5 0)),(44,(.fn 175 [] [(.ptr 12 0)]))],[some (.box 23 [(pI k)]),some (.box 26 [(pI 0),(.p bM)]),some (.box 3 [(pI 0)]),some (.box 3 [(pI 0)]),some (.box 27 [(pI 0)]),some (.box 158 [(pI k),(.own 13),(pI 0),(pI 0),(pI 0)]),some (.box 156 [(.ptr 5 0)]),some (.box 260 [(.fn 164 [(.p (aD ([9,13,32]:List UInt8)))] [])]),some (.box 65 [(.p (bK (aJ k)))]),some (.mp ((bN k) m) m.length),some (.box 247 [(.mp 9)]),some (.box 3 [(pI (((nl+1):Nat):Int))]),some .dead,some (.row 78 R.length ((R.map rwE).flatten))]⟩:St).t,by kernel_rfl⟩
 exact raw
theorem aZf{R m:List (List Cel)}{xl Aa:List UInt8}(h0:inR (((nl+1):Nat):Int))(Da:xl.length≤90000)(Ey:∀ b∈xl,b.toNat<128)(h3:((cF xl).length:Int)≠0)(h4:0≤(0:Int)∧(0:Int)<((cF xl).length:Int))(h5:(cF xl)[0]? = some (Aa))(h6:Aa=([107,108,105,115,116,101,114]:List UInt8))(Cw:Ff=(nl+1)):bU Tp 14 13 kD (oQ (cY k nl R.length ((R.map rwE).flatten) ((bN k) m) m.length) 45 46 14 xl xb) .normal (cY k Ff R.length ((R.map rwE).flatten) ((bN k) m) m.length).m:=by
 subst Cw
 have raw:bU Tp 14 13 kD (oQ (cY k nl R.length ((R.map rwE).flatten) ((bN k) m) m.length) 45 46 14 xl xb) .normal (cY k (nl+1) R.length ((R.map rwE).flatten) ((bN k) m) m.length).m:=⟨⟨fr 176 [(2,(.ptr 0 0)),(4,(.ptr 1 0)),(5,(.ptr 2 0)),(6,(.ptr 3 0)),(7,(.ptr 4 0)),(8,(.ptr 6 0)),(9,(.ptr 7 0)),(10,(.ptr 8 0)),(11,(pI (aN k))),(12,(.ptr 10 0)),(13,(.ptr 11 0)),(35,(.ptr 5 0)),(44,(.fn 175 [] [(.ptr 12 0)]))],[some (.box 23 [(pI k)]),some (.box 26 [(pI 0),(.p bM)]),some (.box 3 [(pI 0)]),some (.box 3 [(pI 0)]),some (.box 27 [(pI 0)]),some (.box 158 [(pI k),(.own 13),(pI 0),(pI 0),(pI 0)]),some (.box 156 [(.ptr 5 0)]),some (.box 260 [(.fn 164 [(.p (aD ([9,13,32]:List UInt8)))] [])]),some (.box 65 [(.p (bK (aJ k)))]),some (.mp ((bN k) m) m.length),some (.box 247 [(.mp 9)]),some (.box 3 [(pI (((nl+1):Nat):Int))]),some .dead,some (.row 78 R.length ((R.map rwE).flatten))]⟩,⟨[],[13],[],[]⟩,aA.fin (g:=⟨(rng [(0,2),(3,1),(14,21),(36,8),(45,110),(169,1)]),[],[],[]⟩) (o:=[.c (.own 14) [(14,(.row 9 ((cF xl).length) (((cF xl).map stE).flatten)))],bF,bF,bF,.x (aD Aa),bF,bF,bT,bT,bT,bT,bT]) (l:=[(decide (Aa=([107,108,105,115,116,101,114]:List UInt8)))=true,(decide (Aa=([107,108,105,115,116,101,114]:List UInt8)))=true,(decide (Aa=([107,108,105,115,116,101,114]:List UInt8)))=true,(decide (Aa=([107,108,105,115,116,101,114]:List UInt8)))=true,(decide (Aa=([107,108,105,115,116,101,114]:List UInt8)))=true,_,_,(((cF xl).map stE).flatten)[0]? = some (aD Aa),_,_,_,_,_,_]) (by kernel_rfl) (Cy (decide_eq_true h6) (A9 (bL h3) (gc (aM (E:=stE) (i:=0) (f:=0) (k:=1) (fun _=>rfl) h5 rfl) (gc (bL h3) (gc h4 (A9 (bL h3) (gc (fk 14 (pX xl [9,13,32] Da Ey) rfl) (gc h0 gn)))))))),by kernel_rfl,(⟨fr 176 [(2,(.ptr 0 0)),(4,(.ptr 1 0)),(5,(.ptr 2 0)),(6,(.ptr 3 0)),(7,(.ptr 4 0)),(8,(.ptr 6 0)),(9,(.ptr 7 0)),(10,(.ptr 8 0)),(11,(pI (aN k))),(12,(.ptr 10 0)),(13,(.ptr 11 0)),(35,(.ptr 5 0)),(44,(.fn 175 [] [(.ptr 12 0)]))],[some (.box 23 [(pI k)]),some (.box 26 [(pI 0),(.p bM)]),some (.box 3 [(pI 0)]),some (.box 3 [(pI 0)]),some (.box 27 [(pI 0)]),some (.box 158 [(pI k),(.own 13),(pI 0),(pI 0),(pI 0)]),some (.box 156 [(.ptr 5 0)]),some (.box 260 [(.fn 164 [(.p (aD ([9,13,32]:List UInt8)))] [])]),some (.box 65 [(.p (bK (aJ k)))]),some (.mp ((bN k) m) m.length),some (.box 247 [(.mp 9)]),some (.box 3 [(pI (((nl+1):Nat):Int))]),some .dead,some (.row 78 R.length ((R.map rwE).flatten))]⟩:St).t,by kernel_rfl⟩
 exact raw
theorem aZg{R m:List (List Cel)}{xl Aa:List UInt8}(h0:inR (((nl+1):Nat):Int))(Da:xl.length≤90000)(Ey:∀ b∈xl,b.toNat<128)(h3:((cF xl).length:Int)≠0)(h4:0≤(0:Int)∧(0:Int)<((cF xl).length:Int))(h5:(cF xl)[0]? = some (Aa))(h6:Aa≠([107,108,105,115,116,101,114]:List UInt8))(h7:Aa=([115,117,109]:List UInt8))(Cw:Ff=(nl+1)):bU Tp 14 13 kD (oQ (cY k nl R.length ((R.map rwE).flatten) ((bN k) m) m.length) 45 46 14 xl xb) .normal (cY k Ff R.length ((R.map rwE).flatten) ((bN k) m) m.length).m:=by
 subst Cw
 have raw:bU Tp 14 13 kD (oQ (cY k nl R.length ((R.map rwE).flatten) ((bN k) m) m.length) 45 46 14 xl xb) .normal (cY k (nl+1) R.length ((R.map rwE).flatten) ((bN k) m) m.length).m:=⟨⟨fr 176 [(2,(.ptr 0 0)),(4,(.ptr 1 0)),(5,(.ptr 2 0)),(6,(.ptr 3 0)),(7,(.ptr 4 0)),(8,(.ptr 6 0)),(9,(.ptr 7 0)),(10,(.ptr 8 0)),(11,(pI (aN k))),(12,(.ptr 10 0)),(13,(.ptr 11 0)),(35,(.ptr 5 0)),(44,(.fn 175 [] [(.ptr 12 0)]))],[some (.box 23 [(pI k)]),some (.box 26 [(pI 0),(.p bM)]),some (.box 3 [(pI 0)]),some (.box 3 [(pI 0)]),some (.box 27 [(pI 0)]),some (.box 158 [(pI k),(.own 13),(pI 0),(pI 0),(pI 0)]),some (.box 156 [(.ptr 5 0)]),some (.box 260 [(.fn 164 [(.p (aD ([9,13,32]:List UInt8)))] [])]),some (.box 65 [(.p (bK (aJ k)))]),some (.mp ((bN k) m) m.length),some (.box 247 [(.mp 9)]),some (.box 3 [(pI (((nl+1):Nat):Int))]),some .dead,some (.row 78 R.length ((R.map rwE).flatten))]⟩,⟨[],[13],[],[]⟩,aA.fin (g:=⟨(rng [(0,2),(3,1),(14,21),(36,8),(45,110),(169,1)]),[],[],[]⟩) (o:=[.c (.own 14) [(14,(.row 9 ((cF xl).length) (((cF xl).map stE).flatten)))],bF,bF,bF,.x (aD Aa),bF,bF,bF,bF,bF,.x (aD Aa),bF,bF,bT]) (l:=[(decide (Aa=([115,117,109]:List UInt8)))=true,(decide (Aa=([107,108,105,115,116,101,114]:List UInt8)))=false,(decide (Aa=([107,108,105,115,116,101,114]:List UInt8)))=false,(((cF xl).map stE).flatten)[0]? = some (aD Aa),(decide (Aa=([107,108,105,115,116,101,114]:List UInt8)))=false,_,(decide (Aa=([107,108,105,115,116,101,114]:List UInt8)))=false,(decide (Aa=([107,108,105,115,116,101,114]:List UInt8)))=false,_,_,(((cF xl).map stE).flatten)[0]? = some (aD Aa),_,_,_,_,_,_]) (by kernel_rfl) (gc (decide_eq_true h7) (A9 (decide_eq_false h6) (gc (aM (E:=stE) (i:=0) (f:=0) (k:=1) (fun _=>rfl) h5 rfl) (gc (decide_eq_false h6) (gc h4 (A9 (decide_eq_false h6) (A9 (bL h3) (gc (aM (E:=stE) (i:=0) (f:=0) (k:=1) (fun _=>rfl) h5 rfl) (gc (bL h3) (gc h4 (A9 (bL h3) (gc (fk 14 (pX xl [9,13,32] Da Ey) rfl) (gc h0 gn))))))))))))),by kernel_rfl,(⟨fr 176 [(2,(.ptr 0 0)),(4,(.ptr 1 0)),(5,(.ptr 2 0)),(6,(.ptr 3 0)),(7,(.ptr 4 0)),(8,(.ptr 6 0)),(9,(.ptr 7 0)),(10,(.ptr 8 0)),(11,(pI (aN k))),(12,(.ptr 10 0)),(13,(.ptr 11 0)),(35,(.ptr 5 0)),(44,(.fn 175 [] [(.ptr 12 0)]))],[some (.box 23 [(pI k)]),some (.box 26 [(pI 0),(.p bM)]),some (.box 3 [(pI 0)]),some (.box 3 [(pI 0)]),some (.box 27 [(pI 0)]),some (.box 158 [(pI k),(.own 13),(pI 0),(pI 0),(pI 0)]),some (.box 156 [(.ptr 5 0)]),some (.box 260 [(.fn 164 [(.p (aD ([9,13,32]:List UInt8)))] [])]),some (.box 65 [(.p (bK (aJ k)))]),some (.mp ((bN k) m) m.length),some (.box 247 [(.mp 9)]),some (.box 3 [(pI (((nl+1):Nat):Int))]),some .dead,some (.row 78 R.length ((R.map rwE).flatten))]⟩:St).t,by kernel_rfl⟩
 exact raw
theorem aZh{R m:List (List Cel)}{xl Aa:List UInt8}{Af:List (List UInt8)}{Ad Cl:List Cel}(h0:inR (((nl+1):Nat):Int))(Da:xl.length≤90000)(Ey:∀ b∈xl,b.toNat<128)(h3:((cF xl).length:Int)≠0)(h4:0≤(0:Int)∧(0:Int)<((cF xl).length:Int))(h5:(cF xl)[0]? = some (Aa))(h6:Aa≠([107,108,105,115,116,101,114]:List UInt8))(h7:Aa≠([115,117,109]:List UInt8))(H4:aF Tp 14 uP (dP k nl R m xl Aa 0 ((cF xl).length) (((cF xl).map stE).flatten)) (.exit 3) (dP k nl R m xl Aa Cr Af.length ((Af.map stE).flatten)))(Fy:∀ u∈Af,u.length≤90000)(E1:rdL (aJ k) Af 0 = .inl Ad)(Fz:Af.length=(aJ k).length)(A8:aN k≤(Ad.length:Int))(Cm:eH Tp 186 ((bN k) m) (k3V (aK k Ad 0) (aK k Ad 1) (aK k Ad 2)))(Dh:(gQ ((bN k) m) (k3V (aK k Ad 0) (aK k Ad 1) (aK k Ad 2)))=true)(Eo:gK ((bN k) m) (k3V (aK k Ad 0) (aK k Ad 1) (aK k Ad 2))=some (.sl Cl.length ((Cl.map cE).flatten)))(Gu:Cl.length≤100000)(Gm:(decide (Cl=Ad))=false)(Cw:Ff=(nl+1)):bU Tp 14 13 kD (oQ (cY k nl R.length ((R.map rwE).flatten) ((bN k) m) m.length) 45 46 14 xl xb) .ret (bS (bS (bS (bS (cY k Ff R.length ((R.map rwE).flatten) ((bN k) m) m.length) 5 (some (.box 158 [(pI k),(.own 13),(pI (((nl+1):Nat):Int)),(pI 1),(pI 5)]))) 2 (some (.box 3 [(pI (((nl+1):Nat):Int))]))) 3 (some (.box 3 [(pI 1)]))) 4 (some (.box 27 [(pI 5)]))).m:=by
 subst Cw
 have raw:bU Tp 14 13 kD (oQ (cY k nl R.length ((R.map rwE).flatten) ((bN k) m) m.length) 45 46 14 xl xb) .ret (bS (bS (bS (bS (cY k (nl+1) R.length ((R.map rwE).flatten) ((bN k) m) m.length) 5 (some (.box 158 [(pI k),(.own 13),(pI (((nl+1):Nat):Int)),(pI 1),(pI 5)]))) 2 (some (.box 3 [(pI (((nl+1):Nat):Int))]))) 3 (some (.box 3 [(pI 1)]))) 4 (some (.box 27 [(pI 5)]))).m:=⟨⟨fr 176 [(2,(.ptr 0 0)),(4,(.ptr 1 0)),(5,(.ptr 2 0)),(6,(.ptr 3 0)),(7,(.ptr 4 0)),(8,(.ptr 6 0)),(9,(.ptr 7 0)),(10,(.ptr 8 0)),(11,(pI (aN k))),(12,(.ptr 10 0)),(13,(.ptr 11 0)),(35,(.ptr 5 0))],[some (.box 23 [(pI k)]),some (.box 26 [(pI 0),(.p bM)]),some (.box 3 [(pI (((nl+1):Nat):Int))]),some (.box 3 [(pI 1)]),some (.box 27 [(pI 5)]),some (.box 158 [(pI k),(.own 13),(pI (((nl+1):Nat):Int)),(pI 1),(pI 5)]),some (.box 156 [(.ptr 5 0)]),some (.box 260 [(.fn 164 [(.p (aD ([9,13,32]:List UInt8)))] [])]),some (.box 65 [(.p (bK (aJ k)))]),some (.mp ((bN k) m) m.length),some (.box 247 [(.mp 9)]),some (.box 3 [(pI (((nl+1):Nat):Int))]),some .dead,some (.row 78 R.length ((R.map rwE).flatten))]⟩,⟨[],[13],[],[]⟩,aA.fin (g:=⟨(rng [(0,2),(3,1),(14,21),(36,8),(45,110),(169,1)]),[],[],[]⟩) (o:=[.c (.own 14) [(14,(.row 9 ((cF xl).length) (((cF xl).map stE).flatten)))],bF,bF,bF,.x (aD Aa),bF,bF,bF,bF,bF,.x (aD Aa),bF,bF,bF,.k 4 ⟨(rng [(0,2),(3,1),(16,1),(22,13),(36,8),(46,1),(70,22),(169,1)]),[14],[],[]⟩ (.exit 3) (dP k nl R m xl Aa Cr Af.length ((Af.map stE).flatten)),.c (.fn 176 [] [(.ptr 15 0),(.ptr 16 0)]) [(5,(.box 158 [(pI k),(.own 13),(pI 0),(pI 0),(pI 0)])),(13,(.row 78 R.length ((R.map rwE).flatten))),(15,(.box 156 [(.ptr 5 0)])),(16,(.box 3 [(pI (((nl+1):Nat):Int))]))],.g 1 ⟨[44],[15,16],[14],[]⟩,.c (.tup [(.own 16),(pB true)]) [(5,(.box 158 [(pI k),(.own 13),(pI 0),(pI 0),(pI 0)])),(13,(.row 78 R.length ((R.map rwE).flatten))),(14,(.box 156 [(.ptr 5 0)])),(15,(.box 3 [(pI (((nl+1):Nat):Int))])),(16,(.row 80 Ad.length ((Ad.map cE).flatten)))],bF,.g 1 ⟨[],[14,15],[16],[]⟩,.c (.p (.agg [(aB (aK k Ad 0)),(aB (aK k Ad 1)),(aB (aK k Ad 2))])) [],bT,.x (.sl Cl.length ((Cl.map cE).flatten)),.c (pB (decide (Cl=Ad))) [],bT,bT,.c (pB false) [(14,(.box 156 [(.ptr 5 0)])),(15,(.box 3 [(pI (((nl+1):Nat):Int))])),(5,(.box 158 [(pI k),(.own 13),(pI (((nl+1):Nat):Int)),(pI 1),(pI 5)])),(13,(.row 78 R.length ((R.map rwE).flatten)))],bT,bT,bT,.c (.tup [(.p (.agg [(aB 0),bM])),(pI (((nl+1):Nat):Int)),(pI 1),(pI 5)]) [(5,(.box 158 [(pI k),(.own 13),(pI (((nl+1):Nat):Int)),(pI 1),(pI 5)])),(13,(.row 78 R.length ((R.map rwE).flatten)))]]) (l:=[FC Tp 94 [(.ptr 5 0)] [(5,(.box 158 [(pI k),(.own 13),(pI (((nl+1):Nat):Int)),(pI 1),(pI 5)])),(13,(.row 78 R.length ((R.map rwE).flatten)))] 16 (.tup [(.p (.agg [(aB 0),bM])),(pI (((nl+1):Nat):Int)),(pI 1),(pI 5)]) [(5,(.box 158 [(pI k),(.own 13),(pI (((nl+1):Nat):Int)),(pI 1),(pI 5)])),(13,(.row 78 R.length ((R.map rwE).flatten)))],true=true,_,_,FC Tp 176 [(pI 1),(pI 5),(.ptr 14 0),(.ptr 15 0)] [(14,(.box 156 [(.ptr 5 0)])),(15,(.box 3 [(pI (((nl+1):Nat):Int))])),(5,(.box 158 [(pI k),(.own 13),(pI 0),(pI 0),(pI 0)])),(13,(.row 78 R.length ((R.map rwE).flatten)))] 16 (pB false) [(14,(.box 156 [(.ptr 5 0)])),(15,(.box 3 [(pI (((nl+1):Nat):Int))])),(5,(.box 158 [(pI k),(.own 13),(pI (((nl+1):Nat):Int)),(pI 1),(pI 5)])),(13,(.row 78 R.length ((R.map rwE).flatten)))],_,_,_,_,_,_,_,false=false,FC Tp 91 [(.ptr 5 0),(.p (.sl Af.length ((Af.map stE).flatten))),(.fn 176 [] [(.ptr 14 0),(.ptr 15 0)])] [(5,(.box 158 [(pI k),(.own 13),(pI 0),(pI 0),(pI 0)])),(14,(.box 156 [(.ptr 5 0)])),(15,(.box 3 [(pI (((nl+1):Nat):Int))])),(13,(.row 78 R.length ((R.map rwE).flatten)))] 16 (.tup [(.own 16),(pB true)]) [(5,(.box 158 [(pI k),(.own 13),(pI 0),(pI 0),(pI 0)])),(13,(.row 78 R.length ((R.map rwE).flatten))),(14,(.box 156 [(.ptr 5 0)])),(15,(.box 3 [(pI (((nl+1):Nat):Int))])),(16,(.row 80 Ad.length ((Ad.map cE).flatten)))],FC Tp 89 [(.ptr 5 0),(pI (((nl+1):Nat):Int))] [(5,(.box 158 [(pI k),(.own 13),(pI 0),(pI 0),(pI 0)])),(13,(.row 78 R.length ((R.map rwE).flatten)))] 15 (.fn 176 [] [(.ptr 15 0),(.ptr 16 0)]) [(5,(.box 158 [(pI k),(.own 13),(pI 0),(pI 0),(pI 0)])),(13,(.row 78 R.length ((R.map rwE).flatten))),(15,(.box 156 [(.ptr 5 0)])),(16,(.box 3 [(pI (((nl+1):Nat):Int))]))],_,(decide (Aa=([115,117,109]:List UInt8)))=false,(decide (Aa=([107,108,105,115,116,101,114]:List UInt8)))=false,(decide (Aa=([107,108,105,115,116,101,114]:List UInt8)))=false,(((cF xl).map stE).flatten)[0]? = some (aD Aa),(decide (Aa=([107,108,105,115,116,101,114]:List UInt8)))=false,_,(decide (Aa=([107,108,105,115,116,101,114]:List UInt8)))=false,(decide (Aa=([107,108,105,115,116,101,114]:List UInt8)))=false,_,_,(((cF xl).map stE).flatten)[0]? = some (aD Aa),_,_,_,_,_,_]) (by kernel_rfl) (gc (FMM.fc (ids:=[5,13]) (jX (k:=k) (l:=(((nl+1):Nat):Int)) (f:=(1:Int)) (e:=(5:Int)) (n:=R.length) (cs:=((R.map rwE).flatten)) (by decide)) (by kernel_rfl)) (gc rfl (A9 (cZ Gm) (gc (FMM.fc (ids:=[14,15,5,13]) (cO 1 5 (((nl+1):Nat):Int) k 0 0 0 R) (by kernel_rfl)) (A9 (cZ Gm) (gc (fk 16 (bEt Cl Ad Gu) rfl) (gc Eo (gc Dh (gc Cm (gc (fk 16 (eC k Ad A8) rfl) (gc rfl (gc (FMM.fcN (k:=1) rfl (ids:=[5,13,14,15]) (kU (((nl+1):Nat):Int) R 0 0 Fy E1 Fz) (by kernel_rfl)) (gc (FMM.fcN (k:=2) rfl (ids:=[5,13]) (eU (ln:=(((nl+1):Nat):Int)) (k:=k) (l:=(0:Int)) (f:=(0:Int)) (e:=(0:Int)) (R:=R)) (by kernel_rfl)) (gc H4.code (gc (decide_eq_false h7) (A9 (decide_eq_false h6) (gc (aM (E:=stE) (i:=0) (f:=0) (k:=1) (fun _=>rfl) h5 rfl) (gc (decide_eq_false h6) (gc h4 (A9 (decide_eq_false h6) (A9 (bL h3) (gc (aM (E:=stE) (i:=0) (f:=0) (k:=1) (fun _=>rfl) h5 rfl) (gc (bL h3) (gc h4 (A9 (bL h3) (gc (fk 14 (pX xl [9,13,32] Da Ey) rfl) (gc h0 gn))))))))))))))))))))))))))),by kernel_rfl,(⟨fr 176 [(2,(.ptr 0 0)),(4,(.ptr 1 0)),(5,(.ptr 2 0)),(6,(.ptr 3 0)),(7,(.ptr 4 0)),(8,(.ptr 6 0)),(9,(.ptr 7 0)),(10,(.ptr 8 0)),(11,(pI (aN k))),(12,(.ptr 10 0)),(13,(.ptr 11 0)),(35,(.ptr 5 0))],[some (.box 23 [(pI k)]),some (.box 26 [(pI 0),(.p bM)]),some (.box 3 [(pI (((nl+1):Nat):Int))]),some (.box 3 [(pI 1)]),some (.box 27 [(pI 5)]),some (.box 158 [(pI k),(.own 13),(pI (((nl+1):Nat):Int)),(pI 1),(pI 5)]),some (.box 156 [(.ptr 5 0)]),some (.box 260 [(.fn 164 [(.p (aD ([9,13,32]:List UInt8)))] [])]),some (.box 65 [(.p (bK (aJ k)))]),some (.mp ((bN k) m) m.length),some (.box 247 [(.mp 9)]),some (.box 3 [(pI (((nl+1):Nat):Int))]),some .dead,some (.row 78 R.length ((R.map rwE).flatten))]⟩:St).t,by kernel_rfl⟩
 exact raw
theorem aZi{R m:List (List Cel)}{xl Aa:List UInt8}{Af:List (List UInt8)}{Ad Cl:List Cel}(h0:inR (((nl+1):Nat):Int))(Da:xl.length≤90000)(Ey:∀ b∈xl,b.toNat<128)(h3:((cF xl).length:Int)≠0)(h4:0≤(0:Int)∧(0:Int)<((cF xl).length:Int))(h5:(cF xl)[0]? = some (Aa))(h6:Aa≠([107,108,105,115,116,101,114]:List UInt8))(h7:Aa≠([115,117,109]:List UInt8))(H4:aF Tp 14 uP (dP k nl R m xl Aa 0 ((cF xl).length) (((cF xl).map stE).flatten)) (.exit 3) (dP k nl R m xl Aa Cr Af.length ((Af.map stE).flatten)))(Fy:∀ u∈Af,u.length≤90000)(E1:rdL (aJ k) Af 0 = .inl Ad)(Fz:Af.length=(aJ k).length)(A8:aN k≤(Ad.length:Int))(Cm:eH Tp 186 ((bN k) m) (k3V (aK k Ad 0) (aK k Ad 1) (aK k Ad 2)))(Dh:(gQ ((bN k) m) (k3V (aK k Ad 0) (aK k Ad 1) (aK k Ad 2)))=true)(Eo:gK ((bN k) m) (k3V (aK k Ad 0) (aK k Ad 1) (aK k Ad 2))=some (.sl Cl.length ((Cl.map cE).flatten)))(Gu:Cl.length≤100000)(Gm:(decide (Cl=Ad))=true)(Cw:Ff=(nl+1)):bU Tp 14 13 kD (oQ (cY k nl R.length ((R.map rwE).flatten) ((bN k) m) m.length) 45 46 14 xl xb) .normal (cY k Ff R.length ((R.map rwE).flatten) ((bN k) m) m.length).m:=by
 subst Cw
 have raw:bU Tp 14 13 kD (oQ (cY k nl R.length ((R.map rwE).flatten) ((bN k) m) m.length) 45 46 14 xl xb) .normal (cY k (nl+1) R.length ((R.map rwE).flatten) ((bN k) m) m.length).m:=⟨⟨fr 176 [(2,(.ptr 0 0)),(4,(.ptr 1 0)),(5,(.ptr 2 0)),(6,(.ptr 3 0)),(7,(.ptr 4 0)),(8,(.ptr 6 0)),(9,(.ptr 7 0)),(10,(.ptr 8 0)),(11,(pI (aN k))),(12,(.ptr 10 0)),(13,(.ptr 11 0)),(35,(.ptr 5 0))],[some (.box 23 [(pI k)]),some (.box 26 [(pI 0),(.p bM)]),some (.box 3 [(pI 0)]),some (.box 3 [(pI 0)]),some (.box 27 [(pI 0)]),some (.box 158 [(pI k),(.own 13),(pI 0),(pI 0),(pI 0)]),some (.box 156 [(.ptr 5 0)]),some (.box 260 [(.fn 164 [(.p (aD ([9,13,32]:List UInt8)))] [])]),some (.box 65 [(.p (bK (aJ k)))]),some (.mp ((bN k) m) m.length),some (.box 247 [(.mp 9)]),some (.box 3 [(pI (((nl+1):Nat):Int))]),some .dead,some (.row 78 R.length ((R.map rwE).flatten))]⟩,⟨[],[13],[],[]⟩,aA.fin (g:=⟨(rng [(0,2),(3,1),(14,21),(36,8),(45,110),(169,1)]),[],[],[]⟩) (o:=[.c (.own 14) [(14,(.row 9 ((cF xl).length) (((cF xl).map stE).flatten)))],bF,bF,bF,.x (aD Aa),bF,bF,bF,bF,bF,.x (aD Aa),bF,bF,bF,.k 4 ⟨(rng [(0,2),(3,1),(16,1),(22,13),(36,8),(46,1),(70,22),(169,1)]),[14],[],[]⟩ (.exit 3) (dP k nl R m xl Aa Cr Af.length ((Af.map stE).flatten)),.c (.fn 176 [] [(.ptr 15 0),(.ptr 16 0)]) [(5,(.box 158 [(pI k),(.own 13),(pI 0),(pI 0),(pI 0)])),(13,(.row 78 R.length ((R.map rwE).flatten))),(15,(.box 156 [(.ptr 5 0)])),(16,(.box 3 [(pI (((nl+1):Nat):Int))]))],.g 1 ⟨[44],[15,16],[14],[]⟩,.c (.tup [(.own 16),(pB true)]) [(5,(.box 158 [(pI k),(.own 13),(pI 0),(pI 0),(pI 0)])),(13,(.row 78 R.length ((R.map rwE).flatten))),(14,(.box 156 [(.ptr 5 0)])),(15,(.box 3 [(pI (((nl+1):Nat):Int))])),(16,(.row 80 Ad.length ((Ad.map cE).flatten)))],bF,.g 1 ⟨[],[14,15],[16],[]⟩,.c (.p (.agg [(aB (aK k Ad 0)),(aB (aK k Ad 1)),(aB (aK k Ad 2))])) [],bT,.x (.sl Cl.length ((Cl.map cE).flatten)),.c (pB (decide (Cl=Ad))) [],bF,bF,bF,bF]) (l:=[_,_,_,_,_,_,_,_,_,false=false,FC Tp 91 [(.ptr 5 0),(.p (.sl Af.length ((Af.map stE).flatten))),(.fn 176 [] [(.ptr 14 0),(.ptr 15 0)])] [(5,(.box 158 [(pI k),(.own 13),(pI 0),(pI 0),(pI 0)])),(14,(.box 156 [(.ptr 5 0)])),(15,(.box 3 [(pI (((nl+1):Nat):Int))])),(13,(.row 78 R.length ((R.map rwE).flatten)))] 16 (.tup [(.own 16),(pB true)]) [(5,(.box 158 [(pI k),(.own 13),(pI 0),(pI 0),(pI 0)])),(13,(.row 78 R.length ((R.map rwE).flatten))),(14,(.box 156 [(.ptr 5 0)])),(15,(.box 3 [(pI (((nl+1):Nat):Int))])),(16,(.row 80 Ad.length ((Ad.map cE).flatten)))],FC Tp 89 [(.ptr 5 0),(pI (((nl+1):Nat):Int))] [(5,(.box 158 [(pI k),(.own 13),(pI 0),(pI 0),(pI 0)])),(13,(.row 78 R.length ((R.map rwE).flatten)))] 15 (.fn 176 [] [(.ptr 15 0),(.ptr 16 0)]) [(5,(.box 158 [(pI k),(.own 13),(pI 0),(pI 0),(pI 0)])),(13,(.row 78 R.length ((R.map rwE).flatten))),(15,(.box 156 [(.ptr 5 0)])),(16,(.box 3 [(pI (((nl+1):Nat):Int))]))],_,(decide (Aa=([115,117,109]:List UInt8)))=false,(decide (Aa=([107,108,105,115,116,101,114]:List UInt8)))=false,(decide (Aa=([107,108,105,115,116,101,114]:List UInt8)))=false,(((cF xl).map stE).flatten)[0]? = some (aD Aa),(decide (Aa=([107,108,105,115,116,101,114]:List UInt8)))=false,_,(decide (Aa=([107,108,105,115,116,101,114]:List UInt8)))=false,(decide (Aa=([107,108,105,115,116,101,114]:List UInt8)))=false,_,_,(((cF xl).map stE).flatten)[0]? = some (aD Aa),_,_,_,_,_,_]) (by kernel_rfl) (F6 (aX Gm) (gc (fk 16 (bEt Cl Ad Gu) rfl) (gc Eo (gc Dh (gc Cm (gc (fk 16 (eC k Ad A8) rfl) (gc rfl (gc (FMM.fcN (k:=1) rfl (ids:=[5,13,14,15]) (kU (((nl+1):Nat):Int) R 0 0 Fy E1 Fz) (by kernel_rfl)) (gc (FMM.fcN (k:=2) rfl (ids:=[5,13]) (eU (ln:=(((nl+1):Nat):Int)) (k:=k) (l:=(0:Int)) (f:=(0:Int)) (e:=(0:Int)) (R:=R)) (by kernel_rfl)) (gc H4.code (gc (decide_eq_false h7) (A9 (decide_eq_false h6) (gc (aM (E:=stE) (i:=0) (f:=0) (k:=1) (fun _=>rfl) h5 rfl) (gc (decide_eq_false h6) (gc h4 (A9 (decide_eq_false h6) (A9 (bL h3) (gc (aM (E:=stE) (i:=0) (f:=0) (k:=1) (fun _=>rfl) h5 rfl) (gc (bL h3) (gc h4 (A9 (bL h3) (gc (fk 14 (pX xl [9,13,32] Da Ey) rfl) (gc h0 gn))))))))))))))))))))))),by kernel_rfl,(⟨fr 176 [(2,(.ptr 0 0)),(4,(.ptr 1 0)),(5,(.ptr 2 0)),(6,(.ptr 3 0)),(7,(.ptr 4 0)),(8,(.ptr 6 0)),(9,(.ptr 7 0)),(10,(.ptr 8 0)),(11,(pI (aN k))),(12,(.ptr 10 0)),(13,(.ptr 11 0)),(35,(.ptr 5 0))],[some (.box 23 [(pI k)]),some (.box 26 [(pI 0),(.p bM)]),some (.box 3 [(pI 0)]),some (.box 3 [(pI 0)]),some (.box 27 [(pI 0)]),some (.box 158 [(pI k),(.own 13),(pI 0),(pI 0),(pI 0)]),some (.box 156 [(.ptr 5 0)]),some (.box 260 [(.fn 164 [(.p (aD ([9,13,32]:List UInt8)))] [])]),some (.box 65 [(.p (bK (aJ k)))]),some (.mp ((bN k) m) m.length),some (.box 247 [(.mp 9)]),some (.box 3 [(pI (((nl+1):Nat):Int))]),some .dead,some (.row 78 R.length ((R.map rwE).flatten))]⟩:St).t,by kernel_rfl⟩
 exact raw
theorem aZj{R m:List (List Cel)}{xl Aa:List UInt8}{Af:List (List UInt8)}{Ad:List Cel}{R' m':List (List Cel)}(h0:inR (((nl+1):Nat):Int))(Da:xl.length≤90000)(Ey:∀ b∈xl,b.toNat<128)(h3:((cF xl).length:Int)≠0)(h4:0≤(0:Int)∧(0:Int)<((cF xl).length:Int))(h5:(cF xl)[0]? = some (Aa))(h6:Aa≠([107,108,105,115,116,101,114]:List UInt8))(h7:Aa≠([115,117,109]:List UInt8))(H4:aF Tp 14 uP (dP k nl R m xl Aa 0 ((cF xl).length) (((cF xl).map stE).flatten)) (.exit 3) (dP k nl R m xl Aa Cr Af.length ((Af.map stE).flatten)))(Fy:∀ u∈Af,u.length≤90000)(E1:rdL (aJ k) Af 0 = .inl Ad)(Fz:Af.length=(aJ k).length)(A8:aN k≤(Ad.length:Int))(Cm:eH Tp 186 ((bN k) m) (k3V (aK k Ad 0) (aK k Ad 1) (aK k Ad 2)))(Dh:(gQ ((bN k) m) (k3V (aK k Ad 0) (aK k Ad 1) (aK k Ad 2)))=false)(Eo:[(PV.sl Ad.length ((Ad.map cE).flatten))].length=1*1∧R.length+1≤1000000)(Cw:Ff=(nl+1))(D5:R'.length=(R.length+1))(D6:(R'.map rwE).flatten=(((R.map rwE).flatten)++[(PV.sl Ad.length ((Ad.map cE).flatten))]))(E2:(bN k) m'=(((bN k) m)++[((k3V (aK k Ad 0) (aK k Ad 1) (aK k Ad 2)),(.sl Ad.length ((Ad.map cE).flatten)))]))(E3:m'.length=(m.length+1)):bU Tp 14 13 kD (oQ (cY k nl R.length ((R.map rwE).flatten) ((bN k) m) m.length) 45 46 14 xl xb) .normal (cY k Ff R'.length ((R'.map rwE).flatten) ((bN k) m') m'.length).m:=by
 subst Cw
 have raw:bU Tp 14 13 kD (oQ (cY k nl R.length ((R.map rwE).flatten) ((bN k) m) m.length) 45 46 14 xl xb) .normal (cY k (nl+1) (R.length+1) (((R.map rwE).flatten)++[(PV.sl Ad.length ((Ad.map cE).flatten))]) (((bN k) m)++[((k3V (aK k Ad 0) (aK k Ad 1) (aK k Ad 2)),(.sl Ad.length ((Ad.map cE).flatten)))]) (m.length+1)).m:=⟨⟨fr 176 [(2,(.ptr 0 0)),(4,(.ptr 1 0)),(5,(.ptr 2 0)),(6,(.ptr 3 0)),(7,(.ptr 4 0)),(8,(.ptr 6 0)),(9,(.ptr 7 0)),(10,(.ptr 8 0)),(11,(pI (aN k))),(12,(.ptr 10 0)),(13,(.ptr 11 0)),(35,(.ptr 5 0))],[some (.box 23 [(pI k)]),some (.box 26 [(pI 0),(.p bM)]),some (.box 3 [(pI 0)]),some (.box 3 [(pI 0)]),some (.box 27 [(pI 0)]),some (.box 158 [(pI k),(.own 14),(pI 0),(pI 0),(pI 0)]),some (.box 156 [(.ptr 5 0)]),some (.box 260 [(.fn 164 [(.p (aD ([9,13,32]:List UInt8)))] [])]),some (.box 65 [(.p (bK (aJ k)))]),some (.mp (((bN k) m)++[((k3V (aK k Ad 0) (aK k Ad 1) (aK k Ad 2)),(.sl Ad.length ((Ad.map cE).flatten)))]) (m.length+1)),some (.box 247 [(.mp 9)]),some (.box 3 [(pI (((nl+1):Nat):Int))]),some .dead,some .dead,some (.row 78 (R.length+1) (((R.map rwE).flatten)++[(PV.sl Ad.length ((Ad.map cE).flatten))]))]⟩,⟨[],[14],[],[]⟩,aA.fin (g:=⟨(rng [(0,2),(3,1),(14,21),(36,8),(45,110),(169,1)]),[17],[],[]⟩) (o:=[.c (.own 14) [(14,(.row 9 ((cF xl).length) (((cF xl).map stE).flatten)))],bF,bF,bF,.x (aD Aa),bF,bF,bF,bF,bF,.x (aD Aa),bF,bF,bF,.k 4 ⟨(rng [(0,2),(3,1),(16,1),(22,13),(36,8),(46,1),(70,22),(169,1)]),[14],[],[]⟩ (.exit 3) (dP k nl R m xl Aa Cr Af.length ((Af.map stE).flatten)),.c (.fn 176 [] [(.ptr 15 0),(.ptr 16 0)]) [(5,(.box 158 [(pI k),(.own 13),(pI 0),(pI 0),(pI 0)])),(13,(.row 78 R.length ((R.map rwE).flatten))),(15,(.box 156 [(.ptr 5 0)])),(16,(.box 3 [(pI (((nl+1):Nat):Int))]))],.g 1 ⟨[44],[15,16],[14],[]⟩,.c (.tup [(.own 16),(pB true)]) [(5,(.box 158 [(pI k),(.own 13),(pI 0),(pI 0),(pI 0)])),(13,(.row 78 R.length ((R.map rwE).flatten))),(14,(.box 156 [(.ptr 5 0)])),(15,(.box 3 [(pI (((nl+1):Nat):Int))])),(16,(.row 80 Ad.length ((Ad.map cE).flatten)))],bF,.g 1 ⟨[],[14,15],[16],[]⟩,.c (.p (.agg [(aB (aK k Ad 0)),(aB (aK k Ad 1)),(aB (aK k Ad 2))])) [],bF,.c (.p (.agg [(aB (aK k Ad 0)),(aB (aK k Ad 1)),(aB (aK k Ad 2))])) [],bF]) (l:=[_,_,_,_,_,_,_,false=false,FC Tp 91 [(.ptr 5 0),(.p (.sl Af.length ((Af.map stE).flatten))),(.fn 176 [] [(.ptr 14 0),(.ptr 15 0)])] [(5,(.box 158 [(pI k),(.own 13),(pI 0),(pI 0),(pI 0)])),(14,(.box 156 [(.ptr 5 0)])),(15,(.box 3 [(pI (((nl+1):Nat):Int))])),(13,(.row 78 R.length ((R.map rwE).flatten)))] 16 (.tup [(.own 16),(pB true)]) [(5,(.box 158 [(pI k),(.own 13),(pI 0),(pI 0),(pI 0)])),(13,(.row 78 R.length ((R.map rwE).flatten))),(14,(.box 156 [(.ptr 5 0)])),(15,(.box 3 [(pI (((nl+1):Nat):Int))])),(16,(.row 80 Ad.length ((Ad.map cE).flatten)))],FC Tp 89 [(.ptr 5 0),(pI (((nl+1):Nat):Int))] [(5,(.box 158 [(pI k),(.own 13),(pI 0),(pI 0),(pI 0)])),(13,(.row 78 R.length ((R.map rwE).flatten)))] 15 (.fn 176 [] [(.ptr 15 0),(.ptr 16 0)]) [(5,(.box 158 [(pI k),(.own 13),(pI 0),(pI 0),(pI 0)])),(13,(.row 78 R.length ((R.map rwE).flatten))),(15,(.box 156 [(.ptr 5 0)])),(16,(.box 3 [(pI (((nl+1):Nat):Int))]))],_,(decide (Aa=([115,117,109]:List UInt8)))=false,(decide (Aa=([107,108,105,115,116,101,114]:List UInt8)))=false,(decide (Aa=([107,108,105,115,116,101,114]:List UInt8)))=false,(((cF xl).map stE).flatten)[0]? = some (aD Aa),(decide (Aa=([107,108,105,115,116,101,114]:List UInt8)))=false,_,(decide (Aa=([107,108,105,115,116,101,114]:List UInt8)))=false,(decide (Aa=([107,108,105,115,116,101,114]:List UInt8)))=false,_,_,(((cF xl).map stE).flatten)[0]? = some (aD Aa),_,_,_,_,_,_]) (by kernel_rfl) (gc Eo (gc Dh (gc Cm (gc (fk 16 (eC k Ad A8) rfl) (gc Dh (gc Cm (gc (fk 16 (eC k Ad A8) rfl) (gc rfl (gc (FMM.fcN (k:=1) rfl (ids:=[5,13,14,15]) (kU (((nl+1):Nat):Int) R 0 0 Fy E1 Fz) (by kernel_rfl)) (gc (FMM.fcN (k:=2) rfl (ids:=[5,13]) (eU (ln:=(((nl+1):Nat):Int)) (k:=k) (l:=(0:Int)) (f:=(0:Int)) (e:=(0:Int)) (R:=R)) (by kernel_rfl)) (gc H4.code (gc (decide_eq_false h7) (A9 (decide_eq_false h6) (gc (aM (E:=stE) (i:=0) (f:=0) (k:=1) (fun _=>rfl) h5 rfl) (gc (decide_eq_false h6) (gc h4 (A9 (decide_eq_false h6) (A9 (bL h3) (gc (aM (E:=stE) (i:=0) (f:=0) (k:=1) (fun _=>rfl) h5 rfl) (gc (bL h3) (gc h4 (A9 (bL h3) (gc (fk 14 (pX xl [9,13,32] Da Ey) rfl) (gc h0 gn)))))))))))))))))))))))),by kernel_rfl,(⟨fr 176 [(2,(.ptr 0 0)),(4,(.ptr 1 0)),(5,(.ptr 2 0)),(6,(.ptr 3 0)),(7,(.ptr 4 0)),(8,(.ptr 6 0)),(9,(.ptr 7 0)),(10,(.ptr 8 0)),(11,(pI (aN k))),(12,(.ptr 10 0)),(13,(.ptr 11 0)),(35,(.ptr 5 0))],[some (.box 23 [(pI k)]),some (.box 26 [(pI 0),(.p bM)]),some (.box 3 [(pI 0)]),some (.box 3 [(pI 0)]),some (.box 27 [(pI 0)]),some (.box 158 [(pI k),(.own 14),(pI 0),(pI 0),(pI 0)]),some (.box 156 [(.ptr 5 0)]),some (.box 260 [(.fn 164 [(.p (aD ([9,13,32]:List UInt8)))] [])]),some (.box 65 [(.p (bK (aJ k)))]),some (.mp (((bN k) m)++[((k3V (aK k Ad 0) (aK k Ad 1) (aK k Ad 2)),(.sl Ad.length ((Ad.map cE).flatten)))]) (m.length+1)),some (.box 247 [(.mp 9)]),some (.box 3 [(pI (((nl+1):Nat):Int))]),some .dead,some .dead,some (.row 78 (R.length+1) (((R.map rwE).flatten)++[(PV.sl Ad.length ((Ad.map cE).flatten))]))]⟩:St).t,by kernel_rfl⟩
 exact raw.cast (by rw [D5,D6,E2,E3])
theorem aZk{R m:List (List Cel)}{xl Aa:List UInt8}{Af:List (List UInt8)}{Ad:List Cel}(h0:inR (((nl+1):Nat):Int))(Da:xl.length≤90000)(Ey:∀ b∈xl,b.toNat<128)(h3:((cF xl).length:Int)≠0)(h4:0≤(0:Int)∧(0:Int)<((cF xl).length:Int))(h5:(cF xl)[0]? = some (Aa))(h6:Aa≠([107,108,105,115,116,101,114]:List UInt8))(h7:Aa≠([115,117,109]:List UInt8))(H4:aF Tp 14 uP (dP k nl R m xl Aa 0 ((cF xl).length) (((cF xl).map stE).flatten)) (.exit 3) (dP k nl R m xl Aa Cr Af.length ((Af.map stE).flatten)))(Fy:∀ u∈Af,u.length≤90000)(E1:rdL (aJ k) Af 0 = .inl Ad)(Fz:Af.length≠(aJ k).length)(Cw:Ff=(nl+1)):bU Tp 14 13 kD (oQ (cY k nl R.length ((R.map rwE).flatten) ((bN k) m) m.length) 45 46 14 xl xb) .ret (bS (bS (bS (bS (cY k Ff R.length ((R.map rwE).flatten) ((bN k) m) m.length) 5 (some (.box 158 [(pI k),(.own 13),(pI (((nl+1):Nat):Int)),(pI (((aJ k).length+1:Nat):Int)),(pI 11)]))) 2 (some (.box 3 [(pI (((nl+1):Nat):Int))]))) 3 (some (.box 3 [(pI (((aJ k).length+1:Nat):Int))]))) 4 (some (.box 27 [(pI 11)]))).m:=by
 subst Cw
 have raw:bU Tp 14 13 kD (oQ (cY k nl R.length ((R.map rwE).flatten) ((bN k) m) m.length) 45 46 14 xl xb) .ret (bS (bS (bS (bS (cY k (nl+1) R.length ((R.map rwE).flatten) ((bN k) m) m.length) 5 (some (.box 158 [(pI k),(.own 13),(pI (((nl+1):Nat):Int)),(pI (((aJ k).length+1:Nat):Int)),(pI 11)]))) 2 (some (.box 3 [(pI (((nl+1):Nat):Int))]))) 3 (some (.box 3 [(pI (((aJ k).length+1:Nat):Int))]))) 4 (some (.box 27 [(pI 11)]))).m:=⟨⟨fr 176 [(2,(.ptr 0 0)),(4,(.ptr 1 0)),(5,(.ptr 2 0)),(6,(.ptr 3 0)),(7,(.ptr 4 0)),(8,(.ptr 6 0)),(9,(.ptr 7 0)),(10,(.ptr 8 0)),(11,(pI (aN k))),(12,(.ptr 10 0)),(13,(.ptr 11 0)),(35,(.ptr 5 0))],[some (.box 23 [(pI k)]),some (.box 26 [(pI 0),(.p bM)]),some (.box 3 [(pI (((nl+1):Nat):Int))]),some (.box 3 [(pI (((aJ k).length+1:Nat):Int))]),some (.box 27 [(pI 11)]),some (.box 158 [(pI k),(.own 13),(pI (((nl+1):Nat):Int)),(pI (((aJ k).length+1:Nat):Int)),(pI 11)]),some (.box 156 [(.ptr 5 0)]),some (.box 260 [(.fn 164 [(.p (aD ([9,13,32]:List UInt8)))] [])]),some (.box 65 [(.p (bK (aJ k)))]),some (.mp ((bN k) m) m.length),some (.box 247 [(.mp 9)]),some (.box 3 [(pI (((nl+1):Nat):Int))]),some .dead,some (.row 78 R.length ((R.map rwE).flatten))]⟩,⟨[],[13],[],[]⟩,aA.fin (g:=⟨(rng [(0,2),(3,1),(14,21),(36,8),(45,110),(169,1)]),[],[],[]⟩) (o:=[.c (.own 14) [(14,(.row 9 ((cF xl).length) (((cF xl).map stE).flatten)))],bF,bF,bF,.x (aD Aa),bF,bF,bF,bF,bF,.x (aD Aa),bF,bF,bF,.k 4 ⟨(rng [(0,2),(3,1),(16,1),(22,13),(36,8),(46,1),(70,22),(169,1)]),[14],[],[]⟩ (.exit 3) (dP k nl R m xl Aa Cr Af.length ((Af.map stE).flatten)),.c (.fn 176 [] [(.ptr 15 0),(.ptr 16 0)]) [(5,(.box 158 [(pI k),(.own 13),(pI 0),(pI 0),(pI 0)])),(13,(.row 78 R.length ((R.map rwE).flatten))),(15,(.box 156 [(.ptr 5 0)])),(16,(.box 3 [(pI (((nl+1):Nat):Int))]))],.g 1 ⟨[44],[15,16],[14],[]⟩,.c (.tup [(.own 16),(pB false)]) [(5,(.box 158 [(pI k),(.own 13),(pI (((nl+1):Nat):Int)),(pI (((aJ k).length+1:Nat):Int)),(pI 11)])),(13,(.row 78 R.length ((R.map rwE).flatten))),(14,(.box 156 [(.ptr 5 0)])),(15,(.box 3 [(pI (((nl+1):Nat):Int))])),(16,(.row 80 Ad.length ((Ad.map cE).flatten)))],bT,.c (.tup [(.p (.agg [(aB 0),bM])),(pI (((nl+1):Nat):Int)),(pI (((aJ k).length+1:Nat):Int)),(pI 11)]) [(5,(.box 158 [(pI k),(.own 13),(pI (((nl+1):Nat):Int)),(pI (((aJ k).length+1:Nat):Int)),(pI 11)])),(13,(.row 78 R.length ((R.map rwE).flatten)))]]) (l:=[FC Tp 94 [(.ptr 5 0)] [(5,(.box 158 [(pI k),(.own 13),(pI (((nl+1):Nat):Int)),(pI (((aJ k).length+1:Nat):Int)),(pI 11)])),(13,(.row 78 R.length ((R.map rwE).flatten)))] 17 (.tup [(.p (.agg [(aB 0),bM])),(pI (((nl+1):Nat):Int)),(pI (((aJ k).length+1:Nat):Int)),(pI 11)]) [(5,(.box 158 [(pI k),(.own 13),(pI (((nl+1):Nat):Int)),(pI (((aJ k).length+1:Nat):Int)),(pI 11)])),(13,(.row 78 R.length ((R.map rwE).flatten)))],true=true,FC Tp 91 [(.ptr 5 0),(.p (.sl Af.length ((Af.map stE).flatten))),(.fn 176 [] [(.ptr 14 0),(.ptr 15 0)])] [(5,(.box 158 [(pI k),(.own 13),(pI 0),(pI 0),(pI 0)])),(14,(.box 156 [(.ptr 5 0)])),(15,(.box 3 [(pI (((nl+1):Nat):Int))])),(13,(.row 78 R.length ((R.map rwE).flatten)))] 16 (.tup [(.own 16),(pB false)]) [(5,(.box 158 [(pI k),(.own 13),(pI (((nl+1):Nat):Int)),(pI (((aJ k).length+1:Nat):Int)),(pI 11)])),(13,(.row 78 R.length ((R.map rwE).flatten))),(14,(.box 156 [(.ptr 5 0)])),(15,(.box 3 [(pI (((nl+1):Nat):Int))])),(16,(.row 80 Ad.length ((Ad.map cE).flatten)))],FC Tp 89 [(.ptr 5 0),(pI (((nl+1):Nat):Int))] [(5,(.box 158 [(pI k),(.own 13),(pI 0),(pI 0),(pI 0)])),(13,(.row 78 R.length ((R.map rwE).flatten)))] 15 (.fn 176 [] [(.ptr 15 0),(.ptr 16 0)]) [(5,(.box 158 [(pI k),(.own 13),(pI 0),(pI 0),(pI 0)])),(13,(.row 78 R.length ((R.map rwE).flatten))),(15,(.box 156 [(.ptr 5 0)])),(16,(.box 3 [(pI (((nl+1):Nat):Int))]))],_,(decide (Aa=([115,117,109]:List UInt8)))=false,(decide (Aa=([107,108,105,115,116,101,114]:List UInt8)))=false,(decide (Aa=([107,108,105,115,116,101,114]:List UInt8)))=false,(((cF xl).map stE).flatten)[0]? = some (aD Aa),(decide (Aa=([107,108,105,115,116,101,114]:List UInt8)))=false,_,(decide (Aa=([107,108,105,115,116,101,114]:List UInt8)))=false,(decide (Aa=([107,108,105,115,116,101,114]:List UInt8)))=false,_,_,(((cF xl).map stE).flatten)[0]? = some (aD Aa),_,_,_,_,_,_]) (by kernel_rfl) (gc (FMM.fc (ids:=[5,13]) (jX (k:=k) (l:=(((nl+1):Nat):Int)) (f:=(((aJ k).length+1:Nat):Int)) (e:=(11:Int)) (n:=R.length) (cs:=((R.map rwE).flatten)) (by decide)) (by kernel_rfl)) (gc rfl (gc (FMM.fcN (k:=1) rfl (ids:=[5,13,14,15]) (aJh (((nl+1):Nat):Int) R 0 0 Fy E1 Fz) (by kernel_rfl)) (gc (FMM.fcN (k:=2) rfl (ids:=[5,13]) (eU (ln:=(((nl+1):Nat):Int)) (k:=k) (l:=(0:Int)) (f:=(0:Int)) (e:=(0:Int)) (R:=R)) (by kernel_rfl)) (gc H4.code (gc (decide_eq_false h7) (A9 (decide_eq_false h6) (gc (aM (E:=stE) (i:=0) (f:=0) (k:=1) (fun _=>rfl) h5 rfl) (gc (decide_eq_false h6) (gc h4 (A9 (decide_eq_false h6) (A9 (bL h3) (gc (aM (E:=stE) (i:=0) (f:=0) (k:=1) (fun _=>rfl) h5 rfl) (gc (bL h3) (gc h4 (A9 (bL h3) (gc (fk 14 (pX xl [9,13,32] Da Ey) rfl) (gc h0 gn)))))))))))))))))),by kernel_rfl,(⟨fr 176 [(2,(.ptr 0 0)),(4,(.ptr 1 0)),(5,(.ptr 2 0)),(6,(.ptr 3 0)),(7,(.ptr 4 0)),(8,(.ptr 6 0)),(9,(.ptr 7 0)),(10,(.ptr 8 0)),(11,(pI (aN k))),(12,(.ptr 10 0)),(13,(.ptr 11 0)),(35,(.ptr 5 0))],[some (.box 23 [(pI k)]),some (.box 26 [(pI 0),(.p bM)]),some (.box 3 [(pI (((nl+1):Nat):Int))]),some (.box 3 [(pI (((aJ k).length+1:Nat):Int))]),some (.box 27 [(pI 11)]),some (.box 158 [(pI k),(.own 13),(pI (((nl+1):Nat):Int)),(pI (((aJ k).length+1:Nat):Int)),(pI 11)]),some (.box 156 [(.ptr 5 0)]),some (.box 260 [(.fn 164 [(.p (aD ([9,13,32]:List UInt8)))] [])]),some (.box 65 [(.p (bK (aJ k)))]),some (.mp ((bN k) m) m.length),some (.box 247 [(.mp 9)]),some (.box 3 [(pI (((nl+1):Nat):Int))]),some .dead,some (.row 78 R.length ((R.map rwE).flatten))]⟩:St).t,by kernel_rfl⟩
 exact raw
theorem aZl{R m:List (List Cel)}{xl Aa:List UInt8}{Af:List (List UInt8)}{Bt Bo:Int}(h0:inR (((nl+1):Nat):Int))(Da:xl.length≤90000)(Ey:∀ b∈xl,b.toNat<128)(h3:((cF xl).length:Int)≠0)(h4:0≤(0:Int)∧(0:Int)<((cF xl).length:Int))(h5:(cF xl)[0]? = some (Aa))(h6:Aa≠([107,108,105,115,116,101,114]:List UInt8))(h7:Aa≠([115,117,109]:List UInt8))(H4:aF Tp 14 uP (dP k nl R m xl Aa 0 ((cF xl).length) (((cF xl).map stE).flatten)) (.exit 3) (dP k nl R m xl Aa Cr Af.length ((Af.map stE).flatten)))(Fy:∀ u∈Af,u.length≤90000)(E1:rdL (aJ k) Af 0 = .inr (Bt,Bo))(Ni:Bo≠0)(Cw:Ff=(nl+1)):bU Tp 14 13 kD (oQ (cY k nl R.length ((R.map rwE).flatten) ((bN k) m) m.length) 45 46 14 xl xb) .ret (bS (bS (bS (bS (cY k Ff R.length ((R.map rwE).flatten) ((bN k) m) m.length) 5 (some (.box 158 [(pI k),(.own 13),(pI (((nl+1):Nat):Int)),(pI Bt),(pI Bo)]))) 2 (some (.box 3 [(pI (((nl+1):Nat):Int))]))) 3 (some (.box 3 [(pI Bt)]))) 4 (some (.box 27 [(pI Bo)]))).m:=by
 subst Cw
 have raw:bU Tp 14 13 kD (oQ (cY k nl R.length ((R.map rwE).flatten) ((bN k) m) m.length) 45 46 14 xl xb) .ret (bS (bS (bS (bS (cY k (nl+1) R.length ((R.map rwE).flatten) ((bN k) m) m.length) 5 (some (.box 158 [(pI k),(.own 13),(pI (((nl+1):Nat):Int)),(pI Bt),(pI Bo)]))) 2 (some (.box 3 [(pI (((nl+1):Nat):Int))]))) 3 (some (.box 3 [(pI Bt)]))) 4 (some (.box 27 [(pI Bo)]))).m:=⟨⟨fr 176 [(2,(.ptr 0 0)),(4,(.ptr 1 0)),(5,(.ptr 2 0)),(6,(.ptr 3 0)),(7,(.ptr 4 0)),(8,(.ptr 6 0)),(9,(.ptr 7 0)),(10,(.ptr 8 0)),(11,(pI (aN k))),(12,(.ptr 10 0)),(13,(.ptr 11 0)),(35,(.ptr 5 0))],[some (.box 23 [(pI k)]),some (.box 26 [(pI 0),(.p bM)]),some (.box 3 [(pI (((nl+1):Nat):Int))]),some (.box 3 [(pI Bt)]),some (.box 27 [(pI Bo)]),some (.box 158 [(pI k),(.own 13),(pI (((nl+1):Nat):Int)),(pI Bt),(pI Bo)]),some (.box 156 [(.ptr 5 0)]),some (.box 260 [(.fn 164 [(.p (aD ([9,13,32]:List UInt8)))] [])]),some (.box 65 [(.p (bK (aJ k)))]),some (.mp ((bN k) m) m.length),some (.box 247 [(.mp 9)]),some (.box 3 [(pI (((nl+1):Nat):Int))]),some .dead,some (.row 78 R.length ((R.map rwE).flatten))]⟩,⟨[],[13],[],[]⟩,aA.fin (g:=⟨(rng [(0,2),(3,1),(14,21),(36,8),(45,110),(169,1)]),[],[],[]⟩) (o:=[.c (.own 14) [(14,(.row 9 ((cF xl).length) (((cF xl).map stE).flatten)))],bF,bF,bF,.x (aD Aa),bF,bF,bF,bF,bF,.x (aD Aa),bF,bF,bF,.k 4 ⟨(rng [(0,2),(3,1),(16,1),(22,13),(36,8),(46,1),(70,22),(169,1)]),[14],[],[]⟩ (.exit 3) (dP k nl R m xl Aa Cr Af.length ((Af.map stE).flatten)),.c (.fn 176 [] [(.ptr 15 0),(.ptr 16 0)]) [(5,(.box 158 [(pI k),(.own 13),(pI 0),(pI 0),(pI 0)])),(13,(.row 78 R.length ((R.map rwE).flatten))),(15,(.box 156 [(.ptr 5 0)])),(16,(.box 3 [(pI (((nl+1):Nat):Int))]))],.g 1 ⟨[44],[15,16],[14],[]⟩,.c (.tup [(.p bM),(pB false)]) [(5,(.box 158 [(pI k),(.own 13),(pI (((nl+1):Nat):Int)),(pI Bt),(pI Bo)])),(13,(.row 78 R.length ((R.map rwE).flatten))),(14,(.box 156 [(.ptr 5 0)])),(15,(.box 3 [(pI (((nl+1):Nat):Int))]))],bT,.c (.tup [(.p (.agg [(aB 0),bM])),(pI (((nl+1):Nat):Int)),(pI Bt),(pI Bo)]) [(5,(.box 158 [(pI k),(.own 13),(pI (((nl+1):Nat):Int)),(pI Bt),(pI Bo)])),(13,(.row 78 R.length ((R.map rwE).flatten)))]]) (l:=[FC Tp 94 [(.ptr 5 0)] [(5,(.box 158 [(pI k),(.own 13),(pI (((nl+1):Nat):Int)),(pI Bt),(pI Bo)])),(13,(.row 78 R.length ((R.map rwE).flatten)))] 16 (.tup [(.p (.agg [(aB 0),bM])),(pI (((nl+1):Nat):Int)),(pI Bt),(pI Bo)]) [(5,(.box 158 [(pI k),(.own 13),(pI (((nl+1):Nat):Int)),(pI Bt),(pI Bo)])),(13,(.row 78 R.length ((R.map rwE).flatten)))],true=true,FC Tp 91 [(.ptr 5 0),(.p (.sl Af.length ((Af.map stE).flatten))),(.fn 176 [] [(.ptr 14 0),(.ptr 15 0)])] [(5,(.box 158 [(pI k),(.own 13),(pI 0),(pI 0),(pI 0)])),(14,(.box 156 [(.ptr 5 0)])),(15,(.box 3 [(pI (((nl+1):Nat):Int))])),(13,(.row 78 R.length ((R.map rwE).flatten)))] 16 (.tup [(.p bM),(pB false)]) [(5,(.box 158 [(pI k),(.own 13),(pI (((nl+1):Nat):Int)),(pI Bt),(pI Bo)])),(13,(.row 78 R.length ((R.map rwE).flatten))),(14,(.box 156 [(.ptr 5 0)])),(15,(.box 3 [(pI (((nl+1):Nat):Int))]))],FC Tp 89 [(.ptr 5 0),(pI (((nl+1):Nat):Int))] [(5,(.box 158 [(pI k),(.own 13),(pI 0),(pI 0),(pI 0)])),(13,(.row 78 R.length ((R.map rwE).flatten)))] 15 (.fn 176 [] [(.ptr 15 0),(.ptr 16 0)]) [(5,(.box 158 [(pI k),(.own 13),(pI 0),(pI 0),(pI 0)])),(13,(.row 78 R.length ((R.map rwE).flatten))),(15,(.box 156 [(.ptr 5 0)])),(16,(.box 3 [(pI (((nl+1):Nat):Int))]))],_,(decide (Aa=([115,117,109]:List UInt8)))=false,(decide (Aa=([107,108,105,115,116,101,114]:List UInt8)))=false,(decide (Aa=([107,108,105,115,116,101,114]:List UInt8)))=false,(((cF xl).map stE).flatten)[0]? = some (aD Aa),(decide (Aa=([107,108,105,115,116,101,114]:List UInt8)))=false,_,(decide (Aa=([107,108,105,115,116,101,114]:List UInt8)))=false,(decide (Aa=([107,108,105,115,116,101,114]:List UInt8)))=false,_,_,(((cF xl).map stE).flatten)[0]? = some (aD Aa),_,_,_,_,_,_]) (by kernel_rfl) (gc (FMM.fc (ids:=[5,13]) (jX (k:=k) (l:=(((nl+1):Nat):Int)) (f:=Bt) (e:=Bo) (n:=R.length) (cs:=((R.map rwE).flatten)) Ni) (by kernel_rfl)) (gc rfl (gc (FMM.fcN (k:=0) rfl (ids:=[5,13,14,15]) (aQo (((nl+1):Nat):Int) R 0 0 Fy E1).2 (by kernel_rfl)) (gc (FMM.fcN (k:=2) rfl (ids:=[5,13]) (eU (ln:=(((nl+1):Nat):Int)) (k:=k) (l:=(0:Int)) (f:=(0:Int)) (e:=(0:Int)) (R:=R)) (by kernel_rfl)) (gc H4.code (gc (decide_eq_false h7) (A9 (decide_eq_false h6) (gc (aM (E:=stE) (i:=0) (f:=0) (k:=1) (fun _=>rfl) h5 rfl) (gc (decide_eq_false h6) (gc h4 (A9 (decide_eq_false h6) (A9 (bL h3) (gc (aM (E:=stE) (i:=0) (f:=0) (k:=1) (fun _=>rfl) h5 rfl) (gc (bL h3) (gc h4 (A9 (bL h3) (gc (fk 14 (pX xl [9,13,32] Da Ey) rfl) (gc h0 gn)))))))))))))))))),by kernel_rfl,(⟨fr 176 [(2,(.ptr 0 0)),(4,(.ptr 1 0)),(5,(.ptr 2 0)),(6,(.ptr 3 0)),(7,(.ptr 4 0)),(8,(.ptr 6 0)),(9,(.ptr 7 0)),(10,(.ptr 8 0)),(11,(pI (aN k))),(12,(.ptr 10 0)),(13,(.ptr 11 0)),(35,(.ptr 5 0))],[some (.box 23 [(pI k)]),some (.box 26 [(pI 0),(.p bM)]),some (.box 3 [(pI (((nl+1):Nat):Int))]),some (.box 3 [(pI Bt)]),some (.box 27 [(pI Bo)]),some (.box 158 [(pI k),(.own 13),(pI (((nl+1):Nat):Int)),(pI Bt),(pI Bo)]),some (.box 156 [(.ptr 5 0)]),some (.box 260 [(.fn 164 [(.p (aD ([9,13,32]:List UInt8)))] [])]),some (.box 65 [(.p (bK (aJ k)))]),some (.mp ((bN k) m) m.length),some (.box 247 [(.mp 9)]),some (.box 3 [(pI (((nl+1):Nat):Int))]),some .dead,some (.row 78 R.length ((R.map rwE).flatten))]⟩:St).t,by kernel_rfl⟩
 exact raw
section
variable{xl:List UInt8}(h0:(i:Int)<((cF xl).length:Int))(h1:(i:Int)<((aJ k).length:Int))(h2:(aJ k)[i]? = some Ac)
include h0 h1 h2
theorem aZm{R m:List (List Cel)}{Aa:List UInt8}{fs:List (List UInt8)}{Hg:List UInt8}{Lp:List (List UInt8)}(h3:Ac=0)(h4:0≤(i:Int)∧(i:Int)<(fs.length:Int))(h5:fs[i]? = some (Hg))(h6:(i*1)<((fs.map stE).flatten).length)(h7:co i)(Aj:i'=(i+1))(Ko:Lp.length=fs.length)(Kq:(Lp.map stE).flatten=(((fs.map stE).flatten).set (i*1) (aD (fI Hg)))):aA Tp 14 uP (dP k nl R m xl Aa i fs.length ((fs.map stE).flatten)) .normal (dP k nl R m xl Aa i' Lp.length ((Lp.map stE).flatten)):=by
 subst Aj;have k1:=fk 15 (bYb Hg) rfl;rw [Ko,Kq];exact aA.fi (gI ab [14]) (rT 5++[.x (aB Ac),bT,bT,bT,.x (aD Hg),k1.o]) (gc h7 (gc h6 (gc h4 (gc k1 (gt (((fs.map stE).flatten)[(i*1)]? = some (aD Hg)) (aM (E:=stE) (i:=i) (f:=0) (k:=1) (fun _=>rfl) h5 rfl) (gc h4 (gc (dF h3) (A9 (cN h1) (gc (atm aB h2) (gc (cN h1) (gc (ixn aB h2) (A1 (cN h1) (g0 h0)))))))))))))
theorem aZn{R m:List (List Cel)}{Aa:List UInt8}{fs:List (List UInt8)}(h3:Ac≠0)(h4:co i)(Aj:i'=(i+1)):aA Tp 14 uP (dP k nl R m xl Aa i fs.length ((fs.map stE).flatten)) .normal (dP k nl R m xl Aa i' fs.length ((fs.map stE).flatten)):=by
 subst Aj;exact aA.fi (gI ab [14]) (rT 5++[.x (aB Ac),bT,bT,bF]) (gc h4 (gc (bL h3) (A9 (cN h1) (gc (atm aB h2) (gc (cN h1) (gc (ixn aB h2) (A1 (cN h1) (g0 h0))))))))
end
theorem aZo{R m:List (List Cel)}{xl Aa:List UInt8}{fs:List (List UInt8)}(h0:(i:Int)<((cF xl).length:Int))(h1:((aJ k).length:Int)≤(i:Int))(h2:co i)(Aj:i'=(i+1)):aA Tp 14 uP (dP k nl R m xl Aa i fs.length ((fs.map stE).flatten)) .normal (dP k nl R m xl Aa i' fs.length ((fs.map stE).flatten)):=by
 subst Aj;exact aA.fi (gI ab [14]) ([bT]++rF 6) (gc h2 (Ht (bC h1) (g0 h0)))
theorem aZp{R m:List (List Cel)}{xl Aa:List UInt8}{fs:List (List UInt8)}(h0:((cF xl).length:Int)≤(i:Int)):aA Tp 14 uP (dP k nl R m xl Aa i fs.length ((fs.map stE).flatten)) (.exit 3) (dP k nl R m xl Aa i fs.length ((fs.map stE).flatten)):=aA.fi (gI ab [14]) [bF] (gc (bC h0) gn)
end
end KV
end Go.Proofs
section
set_option maxRecDepth 1000000
namespace Go.Proofs
open Go.RowKit Go.Maps
namespace KV
open Tryz
theorem bNk(s p:List UInt8):(∀ b∈(Lib.cut s p).1,b∈s)∧(Lib.cut s p).1.length≤s.length∧∀ b∈(Lib.cut s p).2.1,b∈s:=by
 unfold Lib.cut
 split
 ·exact ⟨fun b hb=>List.mem_of_mem_take hb,by rw [mQ];omega,fun b hb=>List.mem_of_mem_drop hb⟩
 ·exact ⟨fun b hb=>hb,Bb _,fun b hb=>(by cases hb)⟩
theorem aKn:∀ (k:Nat) (s:List UInt8),s.length≤k→∀ x∈cG s,x.1.length≤s.length∧∀ b∈x.1,b∈s
 | k,s,h,x,hx=>by
  by_cases hs:s=[]
  ·subst hs;rw [oC] at hx;cases hx
  ·rw [gP hs] at hx
   obtain ⟨c1,c2,c3⟩:=bNk s [10];have hlt:=vT (s:=s) (x:=[10]) hs (by simp)
   rcases lA.1 hx with rfl | hx
   ·exact ⟨c2,c1⟩
   ·match k,h with
    | 0,h=>exact absurd (pF (by omega)) hs
    | k+1,h =>
     obtain ⟨h1,h2⟩:=aKn k (Lib.cut s [10]).2.1 (by omega) x hx
     exact ⟨by omega,fun b hb=>c3 b (h2 b hb)⟩
def oE:List Int→List (List UInt8)→List (List UInt8)
 | [],us=>us
 | _::_,[]=>[]
 | t::ts,u::us=>(if t=0 then fI u else u)::oE ts us
theorem aKo:∀ (ts:List Int) (us:List (List UInt8)),(oE ts us).length=us.length
 | [],us=>rfl
 | _::_,[]=>rfl
 | t::ts,u::us=>by simp [oE,aKo ts us]
theorem aAq:∀ u:List UInt8,(fI u).length≤u.length
 | []=>Bb _
 | b::r=>by
  simp only [fI]
  split
  ·have:=aAq r;simp;omega
  ·exact Bb _
theorem aKp:∀ (ts:List Int) (us:List (List UInt8)) (N:Nat),(∀ u∈us,u.length≤N)→∀ u∈oE ts us,u.length≤N
 | [],us,N,h,u,hu=>h u hu
 | _::_,[],N,h,u,hu=>by cases hu
 | t::ts,v::us,N,h,u,hu=>by
  rcases lA.1 hu with rfl | hu
  ·have:=h v (by simp)
   split
   ·exact iE (aAq v) this
   ·exact this
  ·exact aKp ts us N (fun u hu=>h u (C7 _ hu)) u hu
theorem bXv{cs s u:List UInt8}(h:u∈aKs cs s):u.length≤s.length:=by
 unfold aKs at h
 obtain ⟨x,_,rfl⟩:=tZ.1 h;unfold aAt;rw [mQ,sI];omega
theorem cBn{cs s:List UInt8}:(aKs cs s).length≤s.length+1:=by
 have hI:=bHr cs s (fZ 0 s).length (Bb _);rw [List.take_length] at hI
 have h1:=hI.len;rw [sO] at h1
 unfold aKs bYc bHq;rw [mR]
 split
 ·rw [Bz];simp;omega
 ·omega
theorem xT{k:Int}{nl:Nat}{R m:List (List Cel)}{xl Aa:List UInt8}(hn:xl.length≤90000):∀ (us:List (List UInt8)) (ts:List Int) (dn:List (List UInt8)) (fs:List (List UInt8)),fs=dn++us→fs.length=(cF xl).length→(aJ k).drop dn.length=ts →
  aF Tp 14 (sub (cd Tryz.f79) [1,1,1,1,1,1,1,0,1,0,1,0,1,1,1,0,1,0,0]) (dP k nl R m xl Aa dn.length fs.length ((fs.map stE).flatten)) (.exit 3) (dP k nl R m xl Aa (cF xl).length (dn++oE ts us).length (((dn++oE ts us).map stE).flatten))
 | [],ts,dn,fs,he,hl,hd=>by
  subst he;rw [List.append_nil] at hl ⊢
  have:oE ts []=[]:=by cases ts <;> rfl
  rw [this,List.append_nil,hl];have hx:=aZp (k:=k) (nl:=nl) (R:=R) (m:=m) (xl:=xl) (Aa:=Aa) (i:=dn.length) (fs:=dn) (by omega)
  rw [hl] at hx
  exact .exit hx (by simp)
 | u::us,ts,dn,fs,he,hl,hd=>by
  subst he;have h0:(dn.length:Int)<((cF xl).length:Int):=by rw [← hl];simp;omega
  have hN:(cF xl).length≤xl.length+1:=cBn;have hi:inR (((dn.length+1:Nat)):Int):=aT (by omega)
  have hat:(dn++u::us)[dn.length]? = some u:=by simp
  have hset:∀ v,(dn++u::us).set dn.length v=(dn++[v])++us:=fun v=>by
   rw [List.set_append,if_neg (by omega),aNf];simp
  match ts,hd with
  | [],hd =>
   have h1:((aJ k).length:Int)≤(dn.length:Int):=by
    have:=congrArg List.length hd;simp at this;omega
   have:=xT (k:=k) (nl:=nl) (R:=R) (m:=m) (Aa:=Aa) hn us [] (dn++[u]) ((dn++[u])++us) rfl (by rw [← hl];simp) (by
    rw [List.drop_eq_nil_iff] at hd ⊢
    simp;omega)
   have e:(dn++[u])++us=dn++u::us:=by simp
   rw [e,Bz,List.length_singleton] at this
   have e2:(dn++[u])++oE [] us=dn++oE [] (u::us):=by simp [oE]
   rw [e2] at this
   exact .step (aZo h0 h1 hi rfl) this
  | t::ts,hd =>
   have hlt:dn.length<(aJ k).length:=by
    have:=congrArg List.length hd;simp at this;omega
   have ht:(aJ k)[dn.length]? = some t:=by
    have:=congrArg (·[0]?) hd
    simpa using this
   have Fl:(aJ k).drop (dn.length+1)=ts:=by rw [← List.tail_drop,hd];rfl
   by_cases hz:t=0
   ·have:=xT (k:=k) (nl:=nl) (R:=R) (m:=m) (Aa:=Aa) hn us ts (dn++[fI u]) ((dn++[fI u])++us) rfl (by rw [← hl];simp) (by simpa using Fl)
    rw [← hset,Bz,List.length_singleton] at this
    have e2:(dn++[fI u])++oE ts us=dn++oE (t::ts) (u::us):=by simp [oE,hz]
    rw [e2] at this
    exact .step (aZm h0 (by omega) ht hz (by simp;omega) hat (by rw [jG];simp) hi rfl (by simp) (by rw [jG,jG,List.map_set,Nat.mul_one])) this
   ·have:=xT (k:=k) (nl:=nl) (R:=R) (m:=m) (Aa:=Aa) hn us ts (dn++[u]) ((dn++[u])++us) rfl (by rw [← hl];simp) (by simpa using Fl)
    have e:(dn++[u])++us=dn++u::us:=by simp
    rw [e,Bz,List.length_singleton] at this
    have e2:(dn++[u])++oE ts us=dn++oE (t::ts) (u::us):=by simp [oE,hz]
    rw [e2] at this
    exact .step (aZn h0 (by omega) ht hz hi rfl) this
theorem bXw(s:List UInt8):0≤(paM s).1∧(paM s).1≤360000:=by
 unfold paM
 split
 ·rename_i h
  obtain ⟨_,_,h7,h8,_⟩:=h;have b1:=aFz (by omega) h7
  have b2:=aFz (by omega) h8
  have bn:=uI (Lib.cut s [58]).1 360000 (by omega)
  split
  ·exact ⟨aUq _,by decide⟩
  ·rename_i h2
   have h3:=fun q=>h2 (.inr q)
   dsimp only;constructor <;> omega
 ·exact ⟨aUq _,by decide⟩
theorem bXx(t:Int)(u:List UInt8) : -1000000000≤(rdM t u).1.1∧(rdM t u).1.1≤1000000000:=by
 unfold rdM;have h1:=uI u 999999 (by omega)
 have h2:=bXw u
 split
 ·dsimp only;omega
 ·split
  ·dsimp only;omega
  ·by_cases hh:(if t=2 then mY u else mZ u)=true
   ·rw [if_pos hh];exact (by decide : -1000000000≤(0:Int)∧(0:Int)≤1000000000)
   ·rw [if_neg hh];exact (by decide : -1000000000≤(0:Int)∧(0:Int)≤1000000000)
theorem aOz:∀ (ts:List Int) (us:List (List UInt8)) (i:Nat) (cs:List Cel),rdL ts us i = .inl cs→∀ c∈cs,-1000000000≤c.1∧c.1≤1000000000
 | [],us,i,cs,h,c,hc=>by cases h;cases hc
 | t::ts,[],i,cs,h,c,hc=>by cases h
 | t::ts,u::us,i,cs,h,c,hc=>by
  unfold rdL at h
  split at h
  ·cases h
  ·split at h
   ·rename_i Bh he
    cases h
    rcases lA.1 hc with rfl | hc
    ·exact bXx t u
    ·exact aOz ts us (i+1) Bh he c hc
   ·cases h
theorem bHm{k:Int}{r:List Cel}(h:∀ c∈r,-1000000000≤c.1∧c.1≤1000000000):kF k r:=by
 have hj:∀ j,-1000000000≤aK k r j∧aK k r j≤1000000000:=fun j=>by
  unfold aK
  split
  ·cases hr:r[j]? with
   | none=>simp
   | some c=>simpa using h c (Ch hr)
  ·simp
 intro x hx;simp only [Av,lA,List.not_mem_nil,or_false] at hx
 rcases hx with rfl | rfl | rfl <;> exact hj _
structure TSt where
 nl:Nat
 R:List (List Cel)
def wKl:List UInt8:=[107,108,105,115,116,101,114]
def cBo:List UInt8:=[115,117,109]
def tdF(k:Int)(a:TSt)(x:List UInt8 × Bool):Except (TSt × Int × Int × Int) TSt :=
 match (cF x.1)[0]? with
 | none => .ok ⟨a.nl+1,a.R⟩
 | some u=>if u=wKl then .ok ⟨a.nl+1,a.R⟩ else if u=cBo then .ok ⟨a.nl+1,a.R⟩ else
  match rdL (aJ k) (oE (aJ k) (cF x.1)) 0 with
  | .inr p => .error (⟨a.nl+1,a.R⟩,((a.nl+1:Nat):Int),p.1,p.2)
  | .inl cs=>if (cF x.1).length≠(aJ k).length then .error (⟨a.nl+1,a.R⟩,((a.nl+1:Nat):Int),(((aJ k).length+1:Nat):Int),11) else
   match kG k a.R cs with
   | none => .ok ⟨a.nl+1,a.R++[cs]⟩
   | some y=>if y=cs then .ok ⟨a.nl+1,a.R⟩ else .error (⟨a.nl+1,a.R⟩,((a.nl+1:Nat):Int),1,5)
structure aPa (k:Int) (pre:List (List UInt8 × Bool)) (a:TSt):Prop where
 nl:a.nl=pre.length
 Rn:a.R.length≤a.nl
 len:∀ r∈a.R,r.length=(aJ k).length
 ky:∀ r∈a.R,kF k r
 nd:(a.R.map (Av k)).Nodup
theorem aZb{k:Int}{R:List (List Cel)}{r y:List Cel}(h:kG k R r=some y):y∈R:=bKf h
theorem aZc{k:Int}{pre:List (List UInt8 × Bool)}{a a2:TSt}{x:List UInt8 × Bool}(h:aPa k pre a)(hf:tdF k a x = .ok a2):aPa k (pre++[x]) a2:=by
 obtain ⟨h1,h2,h3,h4,h5⟩:=h;have keep:aPa k (pre++[x]) ⟨a.nl+1,a.R⟩:=⟨by simp [h1],by show a.R.length≤a.nl+1;omega,h3,h4,h5⟩
 unfold tdF at hf
 split at hf
 ·cases hf;exact keep
 ·split at hf
  ·cases hf;exact keep
  ·split at hf
   ·cases hf;exact keep
   ·split at hf
    ·cases hf
    ·rename_i cs hr
     split at hf
     ·cases hf
     ·split at hf
      ·rename_i hl
       cases hf;refine ⟨by simp [h1],by simp;omega,fun r Dv => ?_,fun r Dv => ?_,?_⟩
       ·rcases tY.1 Dv with q | q
        ·exact h3 r q
        ·rw [List.mem_singleton] at q;subst q;exact qW _ _ _ _ hr
       ·rcases tY.1 Dv with q | q
        ·exact h4 r q
        ·rw [List.mem_singleton] at q;subst q;exact bHm (aOz _ _ _ _ hr)
       ·show ((a.R++[cs]).map (Av k)).Nodup
        rw [rB,List.nodup_append];refine ⟨h5,by simp,fun u hu v hv e => ?_⟩
        simp only [fV,List.map_nil,List.mem_singleton] at hv
        subst hv;subst e;obtain ⟨y,hy,hyk⟩:=tZ.1 hu;have:=List.find?_eq_none.1 hl y hy;simp [hyk] at this
      ·split at hf
       ·cases hf;exact keep
       ·cases hf
theorem aAr{k:Int}:∀ (l pre:List (List UInt8 × Bool)) (a a2:TSt),aPa k pre a→itB (tdF k) a l = .ok a2→aPa k (pre++l) a2
 | [],pre,a,a2,h,hi=>by cases hi;rw [List.append_nil];exact h
 | x::l,pre,a,a2,h,hi=>by
  cases hf:tdF k a x with
  | error e=>simp only [itB,hf] at hi;cases hi
  | ok a' =>
   simp only [itB,hf] at hi
   have:=aAr l (pre++[x]) a' a2 (aZc h hf) hi;rw [List.append_assoc] at this
   exact this
def tdA:TSt:=⟨0,[]⟩
theorem bHn(k:Int):aPa k [] tdA:=⟨rfl,Bb _,fun r h=>(by cases h),fun r h=>(by cases h),List.nodup_nil⟩
abbrev tdS(k:Int)(a:TSt):St:=cY k a.nl a.R.length ((a.R.map rwE).flatten) (bN k a.R) a.R.length
abbrev tdR(k:Int)(e:TSt × Int × Int × Int):St:=bS (bS (bS (bS (tdS k e.1) 5 (some (.box 158 [.p (aB k),.own 13,.p (aB e.2.1),.p (aB e.2.2.1),.p (aB e.2.2.2)]))) 2 (some (.box 3 [.p (aB e.2.1)]))) 3 (some (.box 3 [.p (aB e.2.2.1)]))) 4 (some (.box 27 [.p (aB e.2.2.2)]))
theorem bHo{k:Int}{s:List UInt8}(hs:s.length≤65536)(ha:∀ b∈s,b.toNat<128){pre:List (List UInt8 × Bool)}{x:List UInt8 × Bool}{a:TSt}(hp:pre++[x] <+: cG s)(h:aPa k pre a) :
  (∀ a',tdF k a x = .ok a'→bU Tp 14 13 (sub (cd Tryz.f79) [1,1,1,1,1,1,1,0,1,0,1]) (oQ (tdS k a) 45 46 14 x.1 x.2) .normal (tdS k a').m) ∧
  (∀ e,tdF k a x = .error e→bU Tp 14 13 (sub (cd Tryz.f79) [1,1,1,1,1,1,1,0,1,0,1]) (oQ (tdS k a) 45 46 14 x.1 x.2) .ret (tdR k e).m):=by
 have hxm:x∈cG s:=by
  obtain ⟨l,hl⟩:=hp;rw [← hl];simp
 obtain ⟨Gi,Fc⟩:=aKn _ s (Bb _) x hxm;have hpl:pre.length<s.length+1:=by
  have h1:=sM _ s (Bb _);obtain ⟨l,hl⟩:=hp;have:=congrArg List.length hl;simp at this;omega
 obtain ⟨xl,xb⟩:=x;obtain ⟨nl,R⟩:=a;obtain ⟨h1,h2,h3,h4,h5⟩:=h;dsimp only at h1 h2 h3 h4 h5 Gi Fc
 have i1:inR (((nl+1:Nat)):Int):=aT (by omega)
 have i2:xl.length≤90000:=by omega
 have i3:∀ b∈xl,b.toNat<128:=fun b hb=>ha b (Fc b hb)
 unfold tdF;dsimp only;cases hf:(cF xl)[0]? with
 | none =>
  refine ⟨fun _ h => ?_,fun _ h=>(by cases h)⟩
  cases h;have:(cF xl).length=0:=by simpa using hf
  exact aZe i1 i2 i3 (by omega) rfl
 | some u =>
  have hn:0<(cF xl).length:=bI hf;have z1:((cF xl).length:Int)≠(0:Int):=by omega
  have z2:0≤(0:Int)∧(0:Int)<((cF xl).length:Int):=by omega
  dsimp only
  by_cases hk:u=wKl
  ·rw [if_pos hk]
   refine ⟨fun _ h => ?_,fun _ h=>(by cases h)⟩
   cases h;exact aZf i1 i2 i3 z1 z2 hf hk rfl
  rw [if_neg hk]
  by_cases hu:u=cBo
  ·rw [if_pos hu]
   refine ⟨fun _ h => ?_,fun _ h=>(by cases h)⟩
   cases h;exact aZg i1 i2 i3 z1 z2 hf hk hu rfl
  rw [if_neg hu];have hL:=xT (k:=k) (nl:=nl) (R:=R) (m:=R) (xl:=xl) (Aa:=u) i2 (cF xl) (aJ k) [] (cF xl) rfl rfl rfl;rw [List.nil_append,List.length_nil] at hL
  have Fy:∀ v∈oE (aJ k) (cF xl),v.length≤90000:=aKp _ _ _ (fun v hv=>iE (bXv hv) i2)
  cases hr:rdL (aJ k) (oE (aJ k) (cF xl)) 0 with
  | inr p =>
   obtain ⟨fd,er⟩:=p;refine ⟨fun _ h=>(by cases h),fun _ h => ?_⟩
   cases h;exact aZl i1 i2 i3 z1 z2 hf hk hu hL Fy hr (aGh _ _ _ _ hr) rfl
  | inl cs =>
   have hcl:=qW _ _ _ _ hr;have hsl:=aKo (aJ k) (cF xl);dsimp only
   by_cases hfl:(cF xl).length=(aJ k).length
   ·rw [if_neg (by simp [hfl])]
    have hkc:aN k≤(cs.length:Int):=by rw [hcl];exact uE k
    have hki:=bHm (k:=k) (aOz _ _ _ _ hr);have hKA:=uR h4 hki h5;cases hlk:kG k R cs with
    | none =>
     refine ⟨fun _ h => ?_,fun _ h=>(by cases h)⟩
     cases h;exact aZj (R:=R) (m:=R) (R':=R++[cs]) (m':=R++[cs]) i1 i2 i3 z1 z2 hf hk hu hL Fy hr (by rw [hsl];exact hfl) hkc hKA (by rw [nH,nI,hlk];rfl) ⟨rfl,by omega⟩ rfl (by simp) (nE R cs) (aEg k R cs) (by simp)
    | some y =>
     have hy:=h3 y (aZb hlk);have hcol:(aJ k).length≤10:=by unfold aJ;(repeat' split) <;> decide
     dsimp only
     by_cases he:y=cs
     ·rw [if_pos he]
      refine ⟨fun _ h => ?_,fun _ h=>(by cases h)⟩
      cases h;exact aZi i1 i2 i3 z1 z2 hf hk hu hL Fy hr (by rw [hsl];exact hfl) hkc hKA (by rw [nH,nI,hlk];rfl) (by rw [qZ,hlk];rfl) (by omega) (decide_eq_true he) rfl
     ·rw [if_neg he]
      refine ⟨fun _ h=>(by cases h),fun _ h => ?_⟩
      cases h;exact aZh i1 i2 i3 z1 z2 hf hk hu hL Fy hr (by rw [hsl];exact hfl) hkc hKA (by rw [nH,nI,hlk];rfl) (by rw [qZ,hlk];rfl) (by omega) (decide_eq_false he) rfl
   ·rw [if_pos hfl]
    refine ⟨fun _ h=>(by cases h),fun _ h => ?_⟩
    cases h;exact aZk i1 i2 i3 z1 z2 hf hk hu hL Fy hr (by rw [hsl];exact hfl) rfl
theorem aAs{M A B:Mem}{es:List (Value × PV)}{cl:Nat}{o:AO}(hA:oB A=true)(hB:oB B=true)(ho:M[A.length]? = some (some o))(hv:∀ e∈es,nmP e.2=true):oA M (A++some (.mp es cl)::B):=by
 intro id E8 Jr h
 rcases Nat.lt_trichotomy id A.length with q | q | q
 ·rw [aFn q] at h
  exact absurd h ((eL hA).1 _ _ _)
 ·subst q
  rw [aBn (Bb _),aNf] at h
  simp at h
  obtain ⟨rfl,_⟩:=h;exact ⟨⟨o,ho⟩,fun j hj=>hv _ (gR hj)⟩
 ·rw [aBn (by omega)] at h
  obtain ⟨d,hd⟩:∃ d,id-A.length=d+1:=⟨id-A.length-1,by omega⟩
  rw [hd,List.getElem?_cons_succ] at h
  exact absurd h ((eL hB).1 _ _ _)
theorem bHp(k:Int)(R:List (List Cel)):∀ e∈bN k R,nmP e.2=true:=fun e he=>by
 obtain ⟨r,_,rfl⟩:=tZ.1 he;have:=aRn r;show nmP (aL r)=true;unfold rwE at this
 simpa [iK] using this
theorem vU:∀ l:List Int,iK (l.map aB)=true
 | []=>rfl
 | _::l=>vU l
theorem aZd{k:Int}{s:List UInt8}(hs:s.length≤65536)(ha:∀ b∈s,b.toNat<128) :
  (∀ a,itB (tdF k) tdA (cG s) = .ok a→aA Tp 0 (sub (cd Tryz.f79) bc) (vV k s) .normal (tdS k a))∧(∀ e,itB (tdF k) tdA (cG s) = .error e→aA Tp 0 (sub (cd Tryz.f79) bc) (vV k s) .ret (tdR k e)):=by
 refine aAo (k:=0) (kb:=14) (kk:=13) (gi:=44) (p1:=45) (p2:=46) (bx:=12) (g0:=⟨[],[13],[],[(105001,78)]⟩) s (by omega) (vV k s) (tdS k) (tdR k) (vV k s).t (tdF k) tdA
  (s1T 45 46 14) (Hf 45 46 14) (asg := aOx 11 45 14 9 "read.go:179") (body := (sub (cd Tryz.f79) [1, 1, 1, 1, 1, 1, 1, 0, 1, 0, 1])) (by kernel_rfl) rfl rfl rfl (by show 13 ≤ 13; omega) ⟨(vV k s).t, by kernel_rfl⟩ (fun _ => rfl) (fun _ => rfl)
  (fun a => ?_) (fun e => ?_) (fun a=>gH (by rfl)) (fun e=>gH (by rfl)) (gH (by rfl)) (fun a => ?_) (fun e => ?_) (fun a=>by show 14≤14;omega) (by kernel_rfl)
  (fun a x l K W h=>Nb a x l K W h) (fun a x C M W h=>aRp (fun _=>rfl) a x h) (fun _ _=>rfl) (fun pre x a hp hi=>bHo hs ha hp (by have:=aAr pre [] tdA a (bHn k) hi;exact this))
 ·exact aAs (A:=(tdS k a).m.take 9) (B:=(tdS k a).m.drop 10) (o := .mp [] 0) (by rfl) (by rfl) rfl (bHp k a.R)
 ·exact aAs (A:=(tdR k e).m.take 9) (B:=(tdR k e).m.drop 10) (o := .mp [] 0) (by rfl) (by rfl) rfl (bHp k e.1.R)
 ·show ((iK ((aJ k).map aB) && true) && (iK (a.R.map rwE).flatten && true))=true
  rw [pV,vU];rfl
 ·show ((iK ((aJ k).map aB) && true) && (iK (e.1.R.map rwE).flatten && true))=true
  rw [pV,vU];rfl
theorem bXy{k:Int}(hk:within k 0 4=true){s:List UInt8}(hs:s.length≤65536)(ha:∀ b∈s,b.toNat<128){a:TSt}(hi:itB (tdF k) tdA (cG s) = .ok a)(h1:1≤a.R.length)(A8:a.R.length≤12){base:Nat} :
  FV Tp 79 [.p (aB k),.p (aD s)] base (.tup [.p (.agg [aB k,bY (isG (bR k) a.R)]),.p (aB 0),.p (aB 0),.p (aB 0)]) []:=by
 have hok:=aAr (cG s) [] tdA a (bHn k) hi;have:=bXz (s:=s) hk (by omega) ((aZd hs ha).1 a hi) (by omega) A8 h1 (fun x hx=>by rw [hok.len x hx];exact uE k)
 rw [fB] at this
 exact FV.frz this (by rfl)
end KV
end Go.Proofs
end
namespace Go.Proofs
namespace KV
open Tryz
section
variable {Ab A2:Int}{R T Du El:List Int}{i i' Aq base:Nat}

noncomputable abbrev aEh:Code:=sub (cd Tryz.f49) [1,1,0,1,0,0]
noncomputable abbrev aEi:Code:=sub (cd Tryz.f23) [1,1,0,1,0,0]
def jC(R T:List Int)(i:Nat):St:=⟨fr 26 [(0,(.p (bK R))),(1,(.p (bK T))),(12,(pI (R.length:Int))),(13,(pI (i:Int)))],[]⟩
theorem cAa(h0:(R.length:Int)≠(T.length:Int)):FV Tp 49 [(.p (bK R)),(.p (bK T))] base (pB false) []:=FV.fi func49 [bT] (gc (fD h0) gn)
theorem cAb(h0:(R.length:Int)=(T.length:Int))(An:aF Tp 0 aEh (jC R T 0) (.exit 0) (jC R T Aq)):FV Tp 49 [(.p (bK R)),(.p (bK T))] base (pB true) []:=FV.fi func49 [bF,An.k 4 (gZ bv)] (gc An.code (gc (bV h0) gn))
theorem cAc(h0:(R.length:Int)=(T.length:Int))(An:aF Tp 0 aEh (jC R T 0) .ret (cK (jC R T Aq) [(4,(pB false))])):FV Tp 49 [(.p (bK R)),(.p (bK T))] base (pB false) []:=FV.fi func49 [bF,An.k 4 (gZ bv)] (gc An.code (gc (bV h0) gn))
section
variable(h0:(i:Int)<(R.length:Int))(h1:R[i]? = some Ab)(h2:T[i]? = some A2)
include h0 h1 h2
theorem bBr(h3:Ab≠A2):aA Tp 0 aEh (jC R T i) .ret (cK (jC R T i) [(4,(pB false))]):=aA.fi (gN bp [] [(4,0)]) [bT,.x (aB Ab),.x (aB A2),bT] (gc (fD h3) (gc (atm aB h2) (gc (ixn aB h2) (gc (atm aB h1) (gc (ixn aB h1) (g0 h0))))))
theorem bBs(h3:Ab=A2)(h4:co i)(Aj:i'=(i+1)):aA Tp 0 aEh (jC R T i) .normal (jC R T i'):=by
 subst Aj;exact aA.fi (gZ bv) [bT,.x (aB Ab),.x (aB A2),bF] (gc h4 (gc (bV h3) (gc (atm aB h2) (gc (ixn aB h2) (gc (atm aB h1) (gc (ixn aB h1) (g0 h0)))))))
end
theorem bBt(h0:(R.length:Int)≤(i:Int)):aA Tp 0 aEh (jC R T i) (.exit 0) (jC R T i):=aA.fi (gZ bv) [bF] (gc (bC h0) gn)
theorem bJd(R T:List Int)(h:R.length≤100000){base:Nat}:FV Tp 49 [(.p (bK R)),(.p (bK T))] base (pB (decide (R=T))) []:=by
 by_cases hl:R.length=T.length
 ·have hz:(R.zip T).length=R.length:=by rw [List.length_zip,hl,Nat.min_self]
  rcases aF.find (P:=Tp) (k:=0) (b:=aEh) (fun i=>jC R T i) (fun i _=>cK (jC R T i) [(4,.p (blP false))]) (jC R T R.length) .ret (.exit 0) (by simp) (by simp) (fun q:Int × Int => !(decide (q.1=q.2))) (R.zip T)
   (fun i q hx hp=>by
    obtain ⟨h1,h3⟩:=dV hx;have hi:=bI h1;have hp:=(Bool.not_eq_false' _).mp hp;exact bBs (by omega) h1 h3 (of_decide_eq_true hp) (aT (by omega)) rfl)
   (fun i q hx hp=>by
    obtain ⟨h1,h3⟩:=dV hx;have hi:=bI h1;have hp:=(Bool.not_eq_true' _).mp hp;exact bBr (by omega) h1 h3 (of_decide_eq_false hp))
   (by rw [hz];exact bBt (by omega)) with ⟨i,q,h1,h2,h3,h4⟩ | ⟨h1,h2,h3⟩
  ·have hne:decide (R=T)=false:=by
    apply decide_eq_false;intro e;subst e;obtain ⟨q1,q2⟩:=dV h1;rw [q1] at q2
    have:q.1=q.2:=by simpa using q2
    simp [this] at h3
   rw [hne];exact cAc (by omega) h4
  ·rw [decide_eq_true (iW R T hl h2)];exact cAb (by omega) h3
 ·have hne:decide (R=T)=false:=decide_eq_false (fun e=>hl (by rw [e]))
  rw [hne];exact cAa (by omega)
def jD(R T:Lqq)(i:Nat):St:=⟨fr 27 [(0,(.p (.sl R.length ((R.map ixE).flatten)))),(1,(.p (.sl T.length ((T.map ixE).flatten)))),(12,(pI (R.length:Int))),(13,(pI (i:Int)))],[]⟩
theorem cAd{R T:Lqq}(h0:(R.length:Int)≠(T.length:Int)):FV Tp 23 [(.p (.sl R.length ((R.map ixE).flatten))),(.p (.sl T.length ((T.map ixE).flatten)))] base (pB false) []:=FV.fi func23 [bT] (gc (fD h0) gn)
theorem cAe{R T:Lqq}(h0:(R.length:Int)=(T.length:Int))(An:aF Tp 0 aEi (jD R T 0) (.exit 0) (jD R T Aq)):FV Tp 23 [(.p (.sl R.length ((R.map ixE).flatten))),(.p (.sl T.length ((T.map ixE).flatten)))] base (pB true) []:=FV.fi func23 [bF,An.k 4 (gZ bw)] (gc An.code (gc (bV h0) gn))
theorem cAf{R T:Lqq}(h0:(R.length:Int)=(T.length:Int))(An:aF Tp 0 aEi (jD R T 0) .ret (cK (jD R T Aq) [(4,(pB false))])):FV Tp 23 [(.p (.sl R.length ((R.map ixE).flatten))),(.p (.sl T.length ((T.map ixE).flatten)))] base (pB false) []:=FV.fi func23 [bF,An.k 4 (gZ bw)] (gc An.code (gc (bV h0) gn))
section
variable{R T:Lqq}(h0:(i:Int)<(R.length:Int))(h1:R[i]? = some (Du))(h2:T[i]? = some (El))(Kv:Du.length≤100000)
include h0 h1 h2 Kv
theorem bBu(h4:(decide (Du=El))=false):aA Tp 0 aEi (jD R T i) .ret (cK (jD R T i) [(4,(pB false))]):=have k1:=fk 0 (bJd Du El Kv) rfl;aA.fi (gN [2,2,5,7,14,13] [] [(4,0)]) [bT,.x (bK Du),.x (bK El),k1.o,bT] (gc (cZ h4) (gc k1 (gt (((T.map ixE).flatten)[(i*1)]? = some (bK El)) (aM (E:=ixE) (i:=i) (f:=0) (k:=1) (fun _=>rfl) h2 rfl) (gc (bD (E:=ixE) (k:=1) (i:=(i:Int)) (fun _=>rfl) (by decide) (Bu _) h2) (gt (((R.map ixE).flatten)[(i*1)]? = some (bK Du)) (aM (E:=ixE) (i:=i) (f:=0) (k:=1) (fun _=>rfl) h1 rfl) (gc (bD (E:=ixE) (k:=1) (i:=(i:Int)) (fun _=>rfl) (by decide) (Bu _) h1) (g0 h0)))))))
theorem bBv(h4:(decide (Du=El))=true)(h5:co i)(Aj:i'=(i+1)):aA Tp 0 aEi (jD R T i) .normal (jD R T i'):=by
 subst Aj;have k1:=fk 0 (bJd Du El Kv) rfl;exact aA.fi (gZ bw) [bT,.x (bK Du),.x (bK El),k1.o,bF] (gc h5 (gc (aX h4) (gc k1 (gt (((T.map ixE).flatten)[(i*1)]? = some (bK El)) (aM (E:=ixE) (i:=i) (f:=0) (k:=1) (fun _=>rfl) h2 rfl) (gc (bD (E:=ixE) (k:=1) (i:=(i:Int)) (fun _=>rfl) (by decide) (Bu _) h2) (gt (((R.map ixE).flatten)[(i*1)]? = some (bK Du)) (aM (E:=ixE) (i:=i) (f:=0) (k:=1) (fun _=>rfl) h1 rfl) (gc (bD (E:=ixE) (k:=1) (i:=(i:Int)) (fun _=>rfl) (by decide) (Bu _) h1) (g0 h0))))))))
end
theorem bBw{R T:Lqq}(h0:(R.length:Int)≤(i:Int)):aA Tp 0 aEi (jD R T i) (.exit 0) (jD R T i):=aA.fi (gZ bw) [bF] (gc (bC h0) gn)
theorem cAg(R T:Lqq)(h:R.length≤100000)(h2:∀ r∈R,r.length≤100000){base:Nat}:FV Tp 23 [(.p (.sl R.length ((R.map ixE).flatten))),(.p (.sl T.length ((T.map ixE).flatten)))] base (pB (decide (R=T))) []:=by
 by_cases hl:R.length=T.length
 ·have hz:(R.zip T).length=R.length:=by rw [List.length_zip,hl,Nat.min_self]
  rcases aF.find (P:=Tp) (k:=0) (b:=aEi) (fun i=>jD R T i) (fun i _=>cK (jD R T i) [(4,.p (blP false))]) (jD R T R.length) .ret (.exit 0) (by simp) (by simp) (fun q:(List Int) × (List Int) => !(decide (q.1=q.2))) (R.zip T)
   (fun i q hx hp=>by
    obtain ⟨h1,h3⟩:=dV hx;have hi:=bI h1;have hp:=(Bool.not_eq_false' _).mp hp;exact bBv (by omega) h1 h3 (h2 _ (Ch h1)) hp (aT (by omega)) rfl)
   (fun i q hx hp=>by
    obtain ⟨h1,h3⟩:=dV hx;have hi:=bI h1;have hp:=(Bool.not_eq_true' _).mp hp;exact bBu (by omega) h1 h3 (h2 _ (Ch h1)) hp)
   (by rw [hz];exact bBw (by omega)) with ⟨i,q,h1,h2,h3,h4⟩ | ⟨h1,h2,h3⟩
  ·have hne:decide (R=T)=false:=by
    apply decide_eq_false;intro e;subst e;obtain ⟨q1,q2⟩:=dV h1;rw [q1] at q2
    have:q.1=q.2:=by simpa using q2
    simp [this] at h3
   rw [hne];exact cAf (by omega) h4
  ·rw [decide_eq_true (iW R T hl h2)];exact cAe (by omega) h3
 ·have hne:decide (R=T)=false:=decide_eq_false (fun e=>hl (by rw [e]))
  rw [hne];exact cAd (by omega)
end
end KV
end Go.Proofs
section
namespace Go.Proofs
open Go.RowKit
namespace KV
open Tryz
theorem xU:dW 0 lB=0:=by decide +kernel
theorem bBx{n:Nat}(h:n<10):Lib.itoa (n:Int)=[UInt8.ofNat (48+n)]:=by rw [Lib.itoa_nonneg,nB h]
theorem aLb{n:Nat}(h:¬ n<10):Lib.itoa (n:Int)=Lib.itoa ((n / 10:Nat):Int)++[UInt8.ofNat (48+n % 10)]:=by rw [Lib.itoa_nonneg,xP h,Lib.itoa_nonneg]
theorem Q7:Lib.itoa 2=[50]:=bBx (n:=2) (by omega)
theorem Q8:Lib.itoa 7=[55]:=bBx (n:=7) (by omega)
theorem Lw:Lib.itoa 1=[49]:=bBx (n:=1) (by omega)
theorem Ny:Lib.itoa 0=[48]:=bBx (n:=0) (by omega)
theorem Q9:Lib.itoa 5=[53]:=bBx (n:=5) (by omega)
theorem Nz:Lib.itoa 12=[49,50]:=by
 have:=aLb (n:=12) (by omega)
 rw [show ((12 / 10:Nat):Int)=1 from rfl,Lw] at this
 exact this
theorem K1:Lib.itoa 100=[49,48,48]:=by
 have Ba:=aLb (n:=10) (by omega)
 rw [show ((10 / 10:Nat):Int)=1 from rfl,Lw] at Ba
 have:=aLb (n:=100) (by omega)
 rw [show ((100 / 10:Nat):Int)=((10:Nat):Int) from rfl,Ba] at this
 exact this
theorem K4:Lib.itoa 130=[49,51,48]:=by
 have Ba:=aLb (n:=13) (by omega)
 rw [show ((13 / 10:Nat):Int)=1 from rfl,Lw] at Ba
 have:=aLb (n:=130) (by omega)
 rw [show ((130 / 10:Nat):Int)=((13:Nat):Int) from rfl,Ba] at this
 exact this
theorem Ra:(ptM 0).1=[48,58,48,48,46,48]:=by
 have e:ptM 0=((((((Lib.itoa 0)++[58])++((Lib.itoa 100).drop 1))++[46])++Lib.itoa 0),0):=by
  unfold ptM;rw [if_pos (by decide)];rfl
 rw [e,Ny,K1];rfl
theorem K5:(ptM 305).1=[48,58,51,48,46,53]:=by
 have e:ptM 305=((((((Lib.itoa 0)++[58])++((Lib.itoa 130).drop 1))++[46])++Lib.itoa 5),0):=by
  unfold ptM;rw [if_pos (by decide)];rfl
 rw [e,Ny,K4,Q9];rfl
def bOl:List UInt8:=[107,108,105,115,116,101,114,32,115,116,97,114,116,115,32,50,10,55,32,48,58,48,48,46,48,32,49,10,49,50,32,48,58,51,48,46,53,32,48,10]
theorem bJe:kC 0 lB=bOl:=by
 have e1:iG 0 [(7,[]),(0,[]),(1,[])]=[[55],[48,58,48,48,46,48],[49]]:=by
  show [Lib.itoa 7,(ptM 0).1,Lib.itoa 1]=_;rw [Q8,Ra,Lw]
 have e2:iG 0 [(12,[]),(305,[]),(0,[])]=[[49,50],[48,58,51,48,46,53],[48]]:=by
  show [Lib.itoa 12,(ptM 305).1,Lib.itoa 0]=_;rw [Nz,K5,Ny]
 have e0:lN 0 2=[107,108,105,115,116,101,114,32,115,116,97,114,116,115,32,50,10]:=by
  show lnM [_,_,Lib.itoa 2]=_;rw [Q7];rfl
 show (lN 0 2++lnM (iG 0 [(7,[]),(0,[]),(1,[])]))++lnM (iG 0 [(12,[]),(305,[]),(0,[])])=_;rw [e0,e1,e2];rfl
theorem bOm:bJ bOl=3900:=by decide +kernel
theorem N0:Lib.itoa 3=[51]:=bBx (n:=3) (by omega)
theorem K6:Lib.itoa 39=[51,57]:=by
 have:=aLb (n:=39) (by omega)
 rw [show ((39 / 10:Nat):Int)=3 from rfl,N0] at this
 exact this
theorem Jn:Lib.itoa 390=[51,57,48]:=by
 have:=aLb (n:=390) (by omega)
 rw [show ((390 / 10:Nat):Int)=39 from rfl,K6] at this
 exact this
theorem H9:Lib.itoa 3900=[51,57,48,48]:=by
 have:=aLb (n:=3900) (by omega)
 rw [show ((3900 / 10:Nat):Int)=390 from rfl,Jn] at this
 exact this
def aLc:List UInt8:=bOl++[115,117,109,32,51,57,48,48,10]
theorem bBy:pO 0 lB=(aLc,0):=by
 unfold pO;rw [if_neg (by rw [xU];simp),bJe]
 have e:kV bOl=3900:=by unfold kV;rw [if_pos (by decide),bOm]
 rw [e,H9];rfl
end KV
end Go.Proofs
end
section
set_option maxRecDepth 1000000
namespace Go.Proofs
open Go.RowKit
namespace KV
open Tryz
def bXk:List UInt8:=[107,108,105,115,116,101,114,32,115,116,97,114,116,115,32,50,10,55,32,54,48,49,58,48,48,46,48,32,49,10]
def bXl:List UInt8:=[48,49,50,32,32,32,48,58,51,48,46,53,32,48,10,10,55,32,48,58,48,48,46,48,32,49]
def oD:List (List Cel):=[[(7,[]),(10,[]),(1,[])],[(9,[]),(200,[]),(0,[])]]
def aGm:List (List Cel):=[[(7,[]),(0,[]),(2,[])],[(12,[]),(305,[]),(0,[])]]
theorem bNf:prM aLc=(0,lB,0,0,0):=by decide +kernel
theorem bNg:prM bXk=(0,[],2,2,3):=by decide +kernel
theorem bXm{base:Nat}:FV Tp 30 [.p (aD [97,98])] base (.tup [.p (aB 3105),.p (aB 0)]) []:=by
 have:=fO [97,98] (by decide) (base:=base)
 rw [show bJ [97,98]=3105 by decide +kernel] at this
 exact this
theorem bHj{base:Nat}:FV Tp 28 [.p (.agg [aB 0,bY lB])] base (.tup [.p (aD aLc),.p (aB 0)]) []:=by
 have:=aNr 0 lB (base:=base);rw [bBy] at this
 exact this
theorem bHk{base:Nat}:FV Tp 15 [.p (aD aLc)] base (.tup [.p (.agg [aB 0,bY lB]),.p (aB 0),.p (aB 0),.p (aB 0)]) []:=by
 have:=aGj aLc (base:=base);rw [bNf] at this
 exact this
theorem bXn{base:Nat}:FV Tp 15 [.p (aD bXk)] base (.tup [.p (.agg [aB 0,bY []]),.p (aB 2),.p (aB 2),.p (aB 3)]) []:=by
 have:=aGj bXk (base:=base);rw [bNg] at this
 exact this
theorem bXo:itB (tdF 0) tdA (cG bXl) = .ok ⟨3,[[(12,[]),(305,[]),(0,[])],[(7,[]),(0,[]),(1,[])]]⟩:=by kernel_rfl
theorem bNh{base:Nat}:FV Tp 79 [.p (aB 0),.p (aD bXl)] base (.tup [.p (.agg [aB 0,bY lB]),.p (aB 0),.p (aB 0),.p (aB 0)]) []:=by
 have:=bXy (k:=0) (by decide) (s:=bXl) (by decide) (by decide) bXo (by decide) (by decide) (base:=base)
 rw [show isG (bR 0) [[(12,[]),(305,[]),(0,[])],[(7,[]),(0,[]),(1,[])]]=lB by decide +kernel] at this
 exact this
theorem aRr{R:List (List Cel)}(h:R.length≤100000)(h2:∀ r∈R,r.length≤100000){base:Nat}:FV Tp 24 [.p (.agg [aB 0,bY R]),.p (.agg [aB 0,bY R])] base (.p (blP true)) []:=by
 have:=bEv 0 R 0 R h h2 (base:=base);rw [decide_eq_true ⟨rfl,rfl⟩] at this
 exact this
theorem aKm{base:Nat}:FV Tp 24 [.p (.agg [aB 0,bY lB]),.p (.agg [aB 0,bY lB])] base (.p (blP true)) []:=aRr (by decide) (by decide)
theorem bHl{base:Nat}:FV Tp 24 [.p (.agg [aB 0,bY oD]),.p (.agg [aB 0,bY oD])] base (.p (blP true)) []:=aRr (by decide) (by decide)
theorem aGn:fT 0 lB:=⟨by decide,by decide,by decide +kernel,by decide +kernel⟩
theorem aRs:fT 0 oD:=⟨by decide,by decide,by decide +kernel,by decide +kernel⟩
theorem bNi:fT 0 aGm:=⟨by decide,by decide,by decide +kernel,by decide +kernel⟩
theorem aRt:dW 0 oD=0:=by decide +kernel
theorem bNj:dW 0 aGm=0:=by decide +kernel
def aBr:List Chg:=[([(7,[]),(0,[]),(1,[])],[(7,[]),(10,[]),(1,[])]),([],[(9,[]),(200,[]),(0,[])]),([(12,[]),(305,[]),(0,[])],[])]
def bXp:List Chg:=[([(7,[]),(0,[]),(1,[])],[(7,[]),(0,[]),(2,[])])]
theorem uO:dfM 0 lB oD=aBr:=by decide +kernel
theorem xS:dfM 0 lB aGm=bXp:=by decide +kernel
theorem bXq{base:Nat}:FV Tp 56 [.p (.agg [aB 0,bY lB]),.p (.agg [aB 0,bY oD])] base (.tup [.p (.sl 3 ((aBr.map chE).flatten)),.p (aB 0)]) []:=by
 have:=bZa xU aRt aGn aRs (by decide +kernel) (by decide +kernel) (base:=base)
 rw [uO] at this
 exact this
theorem cBl:bNp 0 aBr:=⟨by decide +kernel,by decide,by decide +kernel,by decide +kernel,by decide +kernel,by unfold ckL;decide +kernel,by decide +kernel,by decide +kernel⟩
theorem bXr{base:Nat}:FV Tp 59 [.p (.agg [aB 0,bY lB]),.p (.sl 3 ((aBr.map chE).flatten))] base (.tup [.p (.agg [aB 0,bY oD]),.p (aB 0)]) []:=by
 have:=bYo (k:=0) (R:=lB) (l:=aBr) (m1:=((aBr.foldlM (apF 0) (lB.map fun r=>(r,r))).getD [])) xU aGn cBl (by decide +kernel) (by decide +kernel) (by decide +kernel) (by decide +kernel) (by decide +kernel) (by decide +kernel) (base:=base)
 rw [show isG (bR 0) (apL 0 ((aBr.foldlM (apF 0) (lB.map fun r=>(r,r))).getD []) lB aBr)=oD by decide +kernel] at this
 exact this
theorem bXs:aSa 0 aBr:=⟨by decide,by decide +kernel,by decide +kernel,by decide +kernel,by decide⟩
theorem bXt:aSa 0 bXp:=⟨by decide,by decide +kernel,by decide +kernel,by decide +kernel,by decide⟩
theorem bXu{base:Nat}:FV Tp 20 [.p (.agg [aB 0,bY lB]),.p (.agg [aB 0,bY oD]),.p (.agg [aB 0,bY aGm])] base (.tup [.p (.agg [aB 0,bM]),.p (.sl 1 [bK [7]]),.p (aB 0)]) []:=by
 have:=bYl xU aRt bNj aGn aRs bNi (by decide +kernel) (by decide +kernel) (by decide +kernel) (by decide +kernel) (by rw [uO];exact bXs) (by rw [xS];exact bXt) (by rw [uO,xS];decide +kernel) (by rw [uO,xS];decide +kernel)
 rw [uO,xS,show bXp.filterMap (Gv aBr)=[[7]] by decide +kernel] at this
 exact FV.frz this (by rfl)
theorem cBm{base:Nat}:FV Tp 23 [.p (.sl 1 [bK [7]]),.p (.sl 1 [bK [7]])] base (.p (blP true)) []:=by
 have:=cAg [[7]] [[7]] (by decide) (by decide) (base:=base)
 rw [decide_eq_true rfl] at this
 exact this
end KV
end Go.Proofs
end
namespace Go.Proofs
namespace KV
open Tryz
section

theorem wW:((0:Int) != 0)=false:=by first | decide | simp
theorem bQd:((0:Int) == 0)=true:=by first | decide | simp
theorem cBi:((2:Int) != 2)=false:=by first | decide | simp
theorem bQe:((3:Int) == 3)=true:=by first | decide | simp
theorem cBj:((3:Int) != 3)=false:=by first | decide | simp
theorem cBk:((3105:Int) != 3105)=false:=by first | decide | simp
theorem bXi{base:Nat}:FV Tp 32 [.p (aD aLc),.p (aD [107,108,105,115,116,101,114,32,115,116,97,114,116,115,32,50,10,55,32,48,58,48,48,46,48,32,49,10,49,50,32,48,58,51,48,46,53,32,48,10,115,117,109,32])] base (pB true) []:=by
 have:=bQo aLc [107,108,105,115,116,101,114,32,115,116,97,114,116,115,32,50,10,55,32,48,58,48,48,46,48,32,49,10,49,50,32,48,58,51,48,46,53,32,48,10,115,117,109,32] (base:=base);rw [show Lib.hasPrefix aLc [107,108,105,115,116,101,114,32,115,116,97,114,116,115,32,50,10,55,32,48,58,48,48,46,48,32,49,10,49,50,32,48,58,51,48,46,53,32,48,10,115,117,109,32]=true by decide +kernel] at this
 exact this
theorem bXj{base:Nat}:FV Tp 14 [] base (pB true) []:=by
 have k1:=fk 0 bXm rfl;have k2:=fk 0 (vK) rfl;have k3:=fk 0 bHj rfl;have k4:=fk 0 bHk rfl;have k5:=fk 1 (vK) rfl;have k6:=fk 1 bXn rfl;have k7:=fk 1 bNh rfl;have k8:=fk 1 (vK) rfl;have k9:=fk 1 (qR 7 10 1) rfl;have Oh:=fk 1 (qR 9 200 0) rfl;have Ii:=fk 2 (vK) rfl;have Ij:=fk 10 bXq rfl;have Ho:=fk 2 (vK) rfl;have E5:=fk 2 bXr rfl;have Oi:=fk 2 (qR 7 0 2) rfl;have Oj:=fk 2 (qR 12 305 0) rfl;have Ol:=fk 3 (vK) rfl;have Om:=fk 11 bXu rfl;exact FV.fi func14 ([k1.o,k2.o,k3.o,k4.o]++rF 17++[k5.o,bF,.c (pB true) [],bF,bF,bF,bF,.c (pB true) [],bF,bF,bF,k6.o,k7.o]++rF 11++[k8.o,bF,.c (pB true) [],bF,bF,bF,k9.o,Oh.o,.g 1 ⟨[],[0,2],[1],[]⟩,Ii.o,Ij.o,Ho.o,E5.o,Oi.o,Oj.o,.g 1 ⟨[],[0,1,3],[2],[]⟩,Ol.o,Om.o]++rT 13++[.c (pB true) []]++rT 5++[.c (pB true) [],bT]) (gt (true=true) rfl (gt (FC Tp 23 [(.p (.sl 1 [(bK [7])])),(.own 21)] [(21,(.row 68 1 [(PV.sl 1 [(aB 7)])]))] 22 (pB true) []) (fv cBm) (gt (true=true) rfl (gt (true=true) rfl (gt (true=true) rfl (gt (true=true) rfl (gc bQe (gc (fk 20 bHl rfl) (A1 bQe (Ib bQd (A9 bQd (gc Om (gc Ol (gc Oj (gc Oi (gc E5 (gc Ho (gc Ij (gc Ii (gc Oh (gc k9 (gf (A9 wW (gc (fk 9 aKm rfl) (gc wW (gc k8 (A9 wW (Ht cBi (A1 cBj (gc k7 (gc k6 (gf (gf (gf (gc (fk 17 bXi rfl) (gf (gf (A9 wW (gc (fk 9 aKm rfl) (gc wW (gc k5 (Cy wW (A1 cBk (Ib wW (gc wW (gc k4 (gc k3 (gc k2 (gc k1 gn)))))))))))))))))))))))))))))))))))))))))))))))))
end
end KV
end Go.Proofs
