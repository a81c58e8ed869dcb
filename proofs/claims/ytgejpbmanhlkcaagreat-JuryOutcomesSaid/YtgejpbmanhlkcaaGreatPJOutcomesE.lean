/- Parts of the proof of JOutcomes: laws of walks, contracts of functions, plain models. No condition. -/
import Derived.Test.YtgejpbmanhlkcaaGreatPJOutcomesD
set_option linter.unusedVariables false
set_option linter.unusedSimpArgs false
set_option maxRecDepth 100000
namespace Go.Proofs
namespace KV
open Tryz
abbrev kVL (a b c d e f:Nat):List AV:=[.fn 154 [] [.ptr a 0,.ptr b 0,.ptr c 0,.ptr d 0],.fn 156 [] [.ptr e 0],.fn 157 [] [.ptr d 0,.ptr f 0],.fn 160 [] [.ptr d 0],.fn 158 [] [.ptr e 0]]
section
variable {ou inn Bj:Bool}{t A0 Dh Di:Int}{o o' Cg:List Int}{i n s i' few base Ls many I7:Nat}

noncomputable abbrev uT:Code:=sub (cd Tryz.f142) [1,1,0,1,0,0]
noncomputable abbrev aHb:Code:=sub (cd Tryz.f141) [1,0,1,0,0]
noncomputable abbrev aHc:Code:=sub (cd Tryz.f141) [1,0,1,0,0,1,1,0,0,1,1,1,1,1,0,0]
theorem aOa:0≤(0:Int)∧(0:Int)<2:=by first | decide | simp
theorem aOb:0≤(1:Int)∧(1:Int)<2:=by first | decide | simp
def jP(al:List eU)(s:Nat)(t:Int)(few many i:Nat):St:=⟨fr 39 [(1,(pI (s:Int))),(2,(pI t)),(6,(pI 0)),(7,(pI 0)),(8,(pI (few:Int))),(9,(pI (many:Int))),(12,(.p (.sl al.length ((al.map hpE).flatten)))),(13,(pI (al.length:Int))),(14,(pI (i:Int)))],[]⟩
theorem cLc{al:List eU}{Mv Kd Dc:Nat}(hl0:aD Tp 0 uT (jP al s t 0 0 0) (.exit 0) (jP al s t Mv Kd Dc)):FV Tp 142 [(.p (.sl al.length ((al.map hpE).flatten))),(pI (s:Int)),(pI t)] base (.tup [(pI (Mv:Int)),(pI (Kd:Int))]) []:=FV.fi func142 [hl0.k 8 (gZ de)] (gc hl0.code gn)
theorem bMq{al:List eU}{Dt:List aV}(h0:(i:Int)<(al.length:Int))(h1:al[i]? = some (Dt,Dh,Di))(h2:(i:Int)=(s:Int))(h3:gk i)(Ai:i'=(i+1)):aC Tp 0 uT (jP al s t few many i) .normal (jP al s t few many i'):=by
 subst Ai;exact aC.fi (gZ de) [bT,.x (.agg [(.sl Dt.length ((Dt.map chE).flatten)),(aB Dh),(aB Di)]),bT] (gc h3 (gc (bX h2) (gc (dE (E:=hpE) (i:=i) (k:=3) (fun _=>rfl) h1 rfl) (gc (fJ (E:=hpE) (i:=i) (k:=3) (fun _=>rfl) h1) (gc (cN (E:=hpE) (k:=3) (i:=(i:Int)) (fun _=>rfl) (by decide) (Bp _) h1) (g0 h0))))))
section
variable{al:List eU}{Dt:List aV}(h0:(i:Int)<(al.length:Int))(h1:al[i]? = some (Dt,Dh,Di))(h2:(i:Int)≠(s:Int))
include h0 h1 h2
theorem bMr(h3:Di<t)(h4:gk few)(h5:Dh<t)(h6:gk many)(h7:gk i)(Ke:Ls=(few+1))(Iv:I7=(many+1))(Ai:i'=(i+1)):aC Tp 0 uT (jP al s t few many i) .normal (jP al s t Ls I7 i'):=by
 subst Ke Iv Ai;exact aC.fi (gZ de) [bT,.x (.agg [(.sl Dt.length ((Dt.map chE).flatten)),(aB Dh),(aB Di)]),bF,bT,bT] (gc h7 (gc h6 (gc (bI h5) (gc aOa (gc h4 (gc (bI h3) (gc aOb (gc (aS h2) (gc (dE (E:=hpE) (i:=i) (k:=3) (fun _=>rfl) h1 rfl) (gc (fJ (E:=hpE) (i:=i) (k:=3) (fun _=>rfl) h1) (gc (cN (E:=hpE) (k:=3) (i:=(i:Int)) (fun _=>rfl) (by decide) (Bp _) h1) (g0 h0))))))))))))
theorem bMs(h3:Di<t)(h4:gk few)(h5:t≤Dh)(h6:gk i)(Ke:Ls=(few+1))(Ai:i'=(i+1)):aC Tp 0 uT (jP al s t few many i) .normal (jP al s t Ls many i'):=by
 subst Ke Ai;exact aC.fi (gZ de) [bT,.x (.agg [(.sl Dt.length ((Dt.map chE).flatten)),(aB Dh),(aB Di)]),bF,bT,bF] (gc h6 (gc (aK h5) (gc aOa (gc h4 (gc (bI h3) (gc aOb (gc (aS h2) (gc (dE (E:=hpE) (i:=i) (k:=3) (fun _=>rfl) h1 rfl) (gc (fJ (E:=hpE) (i:=i) (k:=3) (fun _=>rfl) h1) (gc (cN (E:=hpE) (k:=3) (i:=(i:Int)) (fun _=>rfl) (by decide) (Bp _) h1) (g0 h0)))))))))))
theorem bMt(h3:t≤Di)(h4:Dh<t)(h5:gk many)(h6:gk i)(Iv:I7=(many+1))(Ai:i'=(i+1)):aC Tp 0 uT (jP al s t few many i) .normal (jP al s t few I7 i'):=by
 subst Iv Ai;exact aC.fi (gZ de) [bT,.x (.agg [(.sl Dt.length ((Dt.map chE).flatten)),(aB Dh),(aB Di)]),bF,bF,bT] (gc h6 (gc h5 (gc (bI h4) (gc aOa (gc (aK h3) (gc aOb (gc (aS h2) (gc (dE (E:=hpE) (i:=i) (k:=3) (fun _=>rfl) h1 rfl) (gc (fJ (E:=hpE) (i:=i) (k:=3) (fun _=>rfl) h1) (gc (cN (E:=hpE) (k:=3) (i:=(i:Int)) (fun _=>rfl) (by decide) (Bp _) h1) (g0 h0)))))))))))
theorem bMu(h3:t≤Di)(h4:t≤Dh)(h5:gk i)(Ai:i'=(i+1)):aC Tp 0 uT (jP al s t few many i) .normal (jP al s t few many i'):=by
 subst Ai;exact aC.fi (gZ de) [bT,.x (.agg [(.sl Dt.length ((Dt.map chE).flatten)),(aB Dh),(aB Di)]),bF,bF,bF] (gc h5 (gc (aK h4) (gc aOa (gc (aK h3) (gc aOb (gc (aS h2) (gc (dE (E:=hpE) (i:=i) (k:=3) (fun _=>rfl) h1 rfl) (gc (fJ (E:=hpE) (i:=i) (k:=3) (fun _=>rfl) h1) (gc (cN (E:=hpE) (k:=3) (i:=(i:Int)) (fun _=>rfl) (by decide) (Bp _) h1) (g0 h0))))))))))
end
theorem bMv{al:List eU}(h0:(al.length:Int)≤(i:Int)):aC Tp 0 uT (jP al s t few many i) (.exit 0) (jP al s t few many i):=aC.fi (gZ de) [bF] (gc (aK h0) gn)
def dI(al:List eU)(s:Nat)(t:Int):Nat→Nat × Nat
 | 0=>(0,0)
 | i+1=>match al[i]? with
  | some h=>if i=s then dI al s t i else ((if h.2.2<t then (dI al s t i).1+1 else (dI al s t i).1),(if h.2.1<t then (dI al s t i).2+1 else (dI al s t i).2))
  | none=>dI al s t i
abbrev bR(al:List eU)(s:Nat)(t:Int):Nat × Nat:=dI al s t al.length
theorem lJ(al:List eU)(s:Nat)(t:Int):∀ i,(dI al s t i).1≤i∧(dI al s t i).2≤i
 | 0=>⟨dF _,dF _⟩
 | i+1=>by
  have:=lJ al s t i;unfold dI
  split
  ·split
   ·omega
   ·dsimp only
    split <;> split <;> omega
  ·omega
theorem aOc(al:List eU)(s:Nat)(t:Int)(hl:al.length≤1000){base:Nat}:FV Tp 142 [.p (.sl al.length (al.map hpE).flatten),.p (aB s),.p (aB t)] base (.tup [.p (aB ((bR al s t).1:Nat)),.p (aB ((bR al s t).2:Nat))]) []:=by
 obtain ⟨a,hI,hL⟩:=aD.ex (P:=Tp) (k:=0) (b:=uT) (e := .exit 0) (fun i (a:Nat × Nat)=>jP al s t a.1 a.2 i) (fun a=>jP al s t a.1 a.2 al.length) (fun i a=>a=dI al s t i) (by simp) al.length
  (fun i a hi ha=>by
   obtain ⟨⟨c,mn,mx⟩,hx⟩:∃ x,al[i]? = some x:=⟨_,Ay hi⟩;have hle:=lJ al s t i;refine ⟨_,rfl,?_⟩;subst ha;have e:dI al s t (i+1)=if i=s then dI al s t i else ((if mx<t then (dI al s t i).1+1 else (dI al s t i).1),(if mn<t then (dI al s t i).2+1 else (dI al s t i).2)):=by
    conv=>lhs;unfold dI
    rw [hx]
   rw [e]
   by_cases his:i=s
   ·rw [if_pos his];exact bMq (by omega) hx (by omega) (aI (by omega)) rfl
   ·rw [if_neg his]
    by_cases h1:mx<t <;> by_cases h2:mn<t
    ·rw [if_pos h1,if_pos h2];exact bMr (by omega) hx (by omega) h1 (aI (by omega)) h2 (aI (by omega)) (aI (by omega)) rfl rfl rfl
    ·rw [if_pos h1,if_neg h2];exact bMs (by omega) hx (by omega) h1 (aI (by omega)) (by omega) (aI (by omega)) rfl rfl
    ·rw [if_neg h1,if_pos h2];exact bMt (by omega) hx (by omega) (by omega) h2 (aI (by omega)) (aI (by omega)) rfl rfl
    ·rw [if_neg h1,if_neg h2];exact bMu (by omega) hx (by omega) (by omega) (by omega) (aI (by omega)) rfl)
  (fun a _=>bMv (by omega)) (acc:=(0,0)) rfl
 subst hI;exact cLc hL
def qC(al:List eU)(s:Nat)(c0:List aV)(on:Nat)(oc:List PV)(ou inn:Bool)(i:Nat):St:=⟨fr 51 [(0,(.p (.sl al.length ((al.map hpE).flatten)))),(1,(pI (s:Int))),(4,(.own 0)),(5,(pB ou)),(6,(pB inn)),(16,(.p (.sl c0.length ((c0.map chE).flatten)))),(17,(pI (c0.length:Int))),(18,(pI (i:Int)))],[some (.row 3 on oc)]⟩
theorem cLd{al:List eU}{c0:List aV}{Yb Yc:Int}{Nz:List Int}{Qm Mw:Bool}{Rv:Nat}(h0:al[s]? = some (c0,Yb,Yc))(hl1:aD Tp 0 aHb (qC al s c0 0 [] false false 0) (.exit 0) (qC al s c0 Nz.length (Nz.map aB) Qm Mw Rv))(h2:Nz.length≤1000000)(h3:(Nz.mergeSort KL.leB).length≤1000000):FV Tp 141 [(.p (.sl al.length ((al.map hpE).flatten))),(pI (s:Int))] base (.tup [(.p (aF (Lib.compact (Nz.mergeSort KL.leB)))),(pB Qm),(pB Mw)]) []:=have k1:=mq [0] 1 (aSq Nz h2);have k2:=mq [0] 1 (aSs (Nz.mergeSort KL.leB) h3);FV.frz (FMM.fi 0 ⟨[],[],[1],[]⟩ func141 [.x (.sl c0.length ((c0.map chE).flatten)),hl1.k 1 (gN dg [0] [(4,3),(5,0),(6,0)]),k1.o,k2.o] (gc k2 (gc k1 (gc hl1.code (gt (((al.map hpE).flatten)[(s*3)]? = some (.sl c0.length ((c0.map chE).flatten))) (bA (E:=hpE) (i:=s) (f:=0) (k:=3) (fun _=>rfl) h0 rfl) (gc (cN (E:=hpE) (k:=3) (i:=(s:Int)) (fun _=>rfl) (by decide) (Bp _) h0) gn)))))) (by kernel_rfl)
def qD(al:List eU)(s:Nat)(c0:List aV)(ou:Bool)(i:Nat)(A0:Int)(Bj:Bool)(Cg:List Int)(on:Nat)(oc:List PV)(n:Nat):St:=⟨fr 51 [(0,(.p (.sl al.length ((al.map hpE).flatten)))),(1,(pI (s:Int))),(4,(.own 0)),(5,(pB ou)),(6,(.kb true)),(8,(.ptr 1 0)),(9,(pI (((bR al s A0).1:Nat):Int))),(10,(pI (((bR al s A0).2:Nat):Int))),(11,(pI (n:Int))),(16,(.p (.sl c0.length ((c0.map chE).flatten)))),(17,(pI (c0.length:Int))),(18,(pI (i:Int))),(19,(pB (decide ((i:Int)<(c0.length:Int))))),(20,(.rp ((c0.map chE).flatten) (i*3))),(21,(.p (.agg [(aB A0),(blP Bj),(aF Cg)]))),(22,(.ptr 1 1)),(23,(pB Bj)),(24,(.tup [(pI (((bR al s A0).1:Nat):Int)),(pI (((bR al s A0).2:Nat):Int))])),(25,(.p (.sl al.length ((al.map hpE).flatten)))),(26,(pI (s:Int))),(27,(.ptr 1 0)),(28,(pI A0)),(29,(.tup [(pI (((bR al s A0).1:Nat):Int)),(pI (((bR al s A0).2:Nat):Int))])),(30,(pI (((bR al s A0).1:Nat):Int))),(31,(pI (((bR al s A0).2:Nat):Int))),(32,(pI (((bR al s A0).1:Nat):Int))),(33,(pI ((((bR al s A0).1+1):Nat):Int)))],[some (.row 3 on oc),some (.box 197 [(pI A0),(pB Bj),(.p (aF Cg))])]⟩
section
variable{c0:List aV}(h0:(i:Int)<(c0.length:Int))(h1:c0[i]? = some (A0,Bj,Cg))
include h0 h1
theorem bMw{al:List eU}(h2:Bj=true)(h3:gk i)(Ai:i'=(i+1)):aC Tp 0 aHb (qC al s c0 o.length (o.map aB) ou inn i) .normal (qC al s c0 o.length (o.map aB) true inn i'):=by
 subst Ai;exact aC.fi (gN dg [0] [(5,0)]) [bT,.x (.agg [(aB A0),(blP Bj),(aF Cg)]),bT] (gc h3 (gc h2 (gc (dE (E:=chE) (i:=i) (k:=3) (fun _=>rfl) h1 rfl) (gc (fJ (E:=chE) (i:=i) (k:=3) (fun _=>rfl) h1) (gc (cN (E:=chE) (k:=3) (i:=(i:Int)) (fun _=>rfl) (by decide) (Bp _) h1) (g0 h0))))))
theorem bMx{al:List eU}{I8:List Int}{Qn:Nat}(h2:Bj=false)(h3:al.length≤1000)(h4:inR ((((bR al s A0).1+1):Nat):Int))(Dp:aD Tp 0 aHc (qD al s c0 ou i A0 Bj Cg o.length (o.map aB) ((bR al s A0).1+1)) (.exit 2) (qD al s c0 ou i A0 Bj Cg I8.length (I8.map aB) Qn))(h6:gk i)(Bq:o'.length=I8.length)(Br:o'.map aB=(I8.map aB))(Ai:i'=(i+1)):aC Tp 0 aHb (qC al s c0 o.length (o.map aB) ou inn i) .normal (qC al s c0 o'.length (o'.map aB) ou true i'):=by
 subst Ai;have k1:=fk 2 (aOc al s A0 h3) rfl;rw [Bq,Br];exact aC.fi (gN dg [0] [(6,0)]) [bT,.x (.agg [(aB A0),(blP Bj),(aF Cg)]),bF,k1.o,Dp.k 3 (gI c6 [0,1])] (gc h6 (gc Dp.code (gc h4 (gc k1 (gc h2 (gc (dE (E:=chE) (i:=i) (k:=3) (fun _=>rfl) h1 rfl) (gc (fJ (E:=chE) (i:=i) (k:=3) (fun _=>rfl) h1) (gc (cN (E:=chE) (k:=3) (i:=(i:Int)) (fun _=>rfl) (by decide) (Bp _) h1) (g0 h0)))))))))
end
theorem bMy{al:List eU}{c0:List aV}(h0:(c0.length:Int)≤(i:Int)):aC Tp 0 aHb (qC al s c0 o.length (o.map aB) ou inn i) (.exit 0) (qC al s c0 o.length (o.map aB) ou inn i):=aC.fi (gI dg [0]) [bF] (gc (aK h0) gn)
section
variable{al:List eU}(h0:inR ((((bR al s A0).2+1):Nat):Int))
include h0
theorem bMz{c0:List aV}{n':Nat}(h1:(n:Int)≤((((bR al s A0).2+1):Nat):Int))(h2:[(aB (n:Int))].length=1*1∧o.length+1≤1000000)(h3:gk n)(Bq:o'.length=(o.length+1))(Br:o'.map aB=((o.map aB)++[(aB (n:Int))]))(J3:n'=(n+1)):aC Tp 0 aHc (qD al s c0 ou i A0 Bj Cg o.length (o.map aB) n) .normal (qD al s c0 ou i A0 Bj Cg o'.length (o'.map aB) n'):=by
 subst J3;rw [Bq,Br];exact aC.fi (gI c6 [3,1]) [bT] (gc h3 (gc h2 (gc (oQ h1) (gc h0 gn))))
theorem bNa{c0:List aV}(h1:((((bR al s A0).2+1):Nat):Int)<(n:Int)):aC Tp 0 aHc (qD al s c0 ou i A0 Bj Cg o.length (o.map aB) n) (.exit 2) (qD al s c0 ou i A0 Bj Cg o.length (o.map aB) n):=aC.fi (gI c6 [0,1]) [bF] (gc (kZ h1) (gc h0 gn))
end
def aIk(few many:Nat):List Int:=(List.range (many+1-few)).map fun j=>((few+1+j:Nat):Int)
def chL(al:List eU)(s:Nat)(c:aV):List Int:=if c.2.1 then [] else aIk (bR al s c.1).1 (bR al s c.1).2
def jQ(al:List eU)(s:Nat)(c:List aV):List Int:=Lib.compact ((c.flatMap (chL al s)).mergeSort KL.leB)
theorem bUi{a b:Nat}(h:b≤1000):(aIk a b).length≤1001:=by unfold aIk;simp;omega
theorem cAh(al:List eU)(hal:al.length≤1000)(s:Nat)(c:aV):(chL al s c).length≤1001:=by
 unfold chL
 split
 ·simp
 ·exact bUi (by have:(bR al s c.1).2≤al.length:=(lJ al s c.1 al.length).2;omega)
theorem aOd{al:List eU}(hal:al.length≤1000)(s:Nat):∀ c:List aV,(c.flatMap (chL al s)).length≤c.length*1001
 | []=>by simp
 | x::c=>by
  rw [List.flatMap_cons,iJ,oE];have:=cAh al hal s x;have:=aOd hal s c;omega
theorem cLe{al:List eU}(hal:al.length≤1000)(s:Nat)(c0:List aV)(ou:Bool)(i:Nat)(t:Int)(b:Bool)(q o:List Int)(ho:o.length≤900000) :
  ∃ n',aD Tp 0 aHc (qD al s c0 ou i t b q o.length (o.map aB) ((bR al s t).1+1)) (.exit 2) (qD al s c0 ou i t b q (o++aIk (bR al s t).1 (bR al s t).2).length ((o++aIk (bR al s t).1 (bR al s t).2).map aB) n'):=by
 have h1:(bR al s t).1≤al.length:=(lJ al s t al.length).1;have h2:(bR al s t).2≤al.length:=(lJ al s t al.length).2;obtain ⟨x,hI,hL⟩:=aD.ex (P:=Tp) (k:=0) (b:=aHc) (e := .exit 2) (fun j (x:List Int)=>qD al s c0 ou i t b q x.length (x.map aB) ((bR al s t).1+1+j)) (fun x=>qD al s c0 ou i t b q x.length (x.map aB) ((bR al s t).1+1+((bR al s t).2+1-(bR al s t).1)))
  (fun j x=>x=o++(List.range j).map fun j=>(((bR al s t).1+1+j:Nat):Int)) (by simp) ((bR al s t).2+1-(bR al s t).1)
  (fun j x hj hx=>by
   have hlen:x.length=o.length+j:=by rw [hx];simp
   refine ⟨x++[(((bR al s t).1+1+j:Nat):Int)],?_,bMz (aI (by omega)) (by omega) ⟨rfl,by omega⟩ (aI (by omega)) (by simp) (by simp) rfl⟩
   rw [hx,List.range_succ];simp)
  (fun x _=>bNa (aI (by omega)) (by omega)) (acc:=o) (by simp)
 rw [show o++aIk (bR al s t).1 (bR al s t).2=x from hI.symm]
 exact ⟨_,hL⟩
theorem aYo{al:List eU}(hal:al.length≤1000){s:Nat}{c:List aV}{mn mx:Int}(hx:al[s]? = some (c,mn,mx))(hc:c.length≤256){base:Nat} :
  FV Tp 141 [.p (.sl al.length (al.map hpE).flatten),.p (aB s)] base (.tup [.p (aF (jQ al s c)),.p (blP (c.any fun x=>x.2.1)),.p (blP (c.any fun x => !x.2.1))]) []:=by
 obtain ⟨a,⟨hI,hJ,hK⟩,hL⟩:=aD.ex (P:=Tp) (k:=0) (b:=aHb) (e := .exit 0) (fun i (a:List Int × Bool × Bool)=>qC al s c a.1.length (a.1.map aB) a.2.1 a.2.2 i) (fun a=>qC al s c a.1.length (a.1.map aB) a.2.1 a.2.2 c.length)
  (fun i a=>a.1=(c.take i).flatMap (chL al s)∧a.2.1=((c.take i).any fun x=>x.2.1)∧a.2.2=((c.take i).any fun x => !x.2.1)) (by simp) c.length
  (fun i a hi ha=>by
   obtain ⟨Ol,Yd,Ye⟩:=ha;obtain ⟨⟨t,b,q⟩,hx⟩:∃ x,c[i]? = some x:=⟨_,Ay hi⟩;have hlen:a.1.length≤256*1001:=by
    rw [Ol];have:=aOd hal s (c.take i);rw [oD] at this
    have:min i c.length≤256:=by omega
    omega
   have e1:c.take (i+1)=c.take i++[(t,b,q)]:=by rw [List.take_add_one,hx];rfl
   cases b with
   | true=>exact ⟨(a.1,true,a.2.2),⟨by rw [Ol,e1];simp [chL],by rw [e1];simp,by rw [Ye,e1];simp⟩,bMw (by omega) hx rfl (aI (by omega)) rfl⟩
   | false =>
    have h1:(bR al s t).1≤al.length:=(lJ al s t al.length).1;obtain ⟨n',hl⟩:=cLe hal s c a.2.1 i t false q a.1 (by omega)
    exact ⟨(a.1++aIk (bR al s t).1 (bR al s t).2,a.2.1,true),⟨by rw [Ol,e1];simp [chL],by rw [Yd,e1];simp,by rw [e1];simp⟩,bMx (by omega) hx rfl hal (aI (by omega)) hl (aI (by omega)) rfl rfl rfl⟩)
  (fun a _=>bMy (by omega)) (acc:=([],false,false)) (by simp)
 rw [List.take_length] at hI hJ hK
 have hb:=aOd hal s c;have:=cLd (s:=s) hx hL (by rw [hI];omega) (by rw [bWz,hI];omega) (base:=base)
 rw [hI,hJ,hK] at this
 exact this
end
section
variable {r0 s1 s2 x0 x1 bib Aa Ab:Int}{l:Lqq}{i i0 base:Nat}
variable {dl:Int}{sk dc:Lqq}

theorem bUe:((0:Int) != 0)=false:=by first | decide | simp
theorem bUf:((1:Int) != 0)=true:=by first | decide | simp
def xV(l:Lqq)(x0 x1:Int)(i:Nat):St:=⟨fr 19 [(0,(.p (fS l))),(3,(.ptr 0 0)),(7,(pI (l.length:Int))),(8,(pI (i:Int)))],[some (.box 31 [(pI x0),(pI x1)])]⟩
theorem cKx{Bm:Nat}(hl0:aD Tp 0 (sub (cd Tryz.f185) g8) (xV l x0 x1 0) .ret (bQ (xV l x0 x1 Bm) [(4,(pI (Bm:Int)))])):FV Tp 185 [(.p (fS l)),(.p (.agg [(aB x0),(aB x1)]))] base (pI (Bm:Int)) []:=FV.fi func185 [hl0.k 6 (gI [1,2,4,3,9,10] [0])] (gc hl0.code gn)
section
variable(h0:(i:Int)<(l.length:Int))(h1:l[i]? = some [Aa,Ab])(h2:uni 2 l)(h3:cW [(aB x0),(aB x1)] [(0,3,true),(1,3,true)]=true∧cW [(aB Aa),(aB Ab)] [(0,3,true),(1,3,true)]=true)
include h0 h1 h2 h3
theorem bMo(h4:(iV [(aB x0),(aB x1)] [(aB Aa),(aB Ab)] [(0,3,true),(1,3,true)])=true):aC Tp 0 (sub (cd Tryz.f185) g8) (xV l x0 x1 i) .ret (bQ (xV l x0 x1 i) [(4,(pI (i:Int)))]):=aC.fi (gI [1,2,5,2,9,10] [0]) [bT,.x (.agg [(aB Aa),(aB Ab)]),bT] (gc h4 (gc h3 (gfl h2 h1 (g0 h0))))
theorem bMp{i':Nat}(h4:(iV [(aB x0),(aB x1)] [(aB Aa),(aB Ab)] [(0,3,true),(1,3,true)])=false)(h5:gk i)(Ai:i'=(i+1)):aC Tp 0 (sub (cd Tryz.f185) g8) (xV l x0 x1 i) .normal (xV l x0 x1 i'):=by
 subst Ai;exact aC.fi (gI [1,2,4,3,9,10] [0]) [bT,.x (.agg [(aB Aa),(aB Ab)]),bF] (gc h5 (gc h4 (gc h3 (gfl h2 h1 (g0 h0)))))
end
theorem cKy{l:Lqq}(hu:uni 2 l)(hn:(aP l 0).Nodup)(hl:l.length≤1000){i:Nat}{x0 x1:Int}(hi:l[i]? = some [x0,x1]){base:Nat}:FV Tp 185 [.p (fS l),.p (.agg [aB x0,aB x1])] base (pI (i:Int)) []:=by
 have hlt:=aM hi;refine cKx (Bm:=i) ?_;have hne:∀ j,j<i→∃ y0 y1,l[j]? = some [y0,y1]∧y0≠x0:=fun j hj=>by
  obtain ⟨y0,y1,hy⟩:=at2 hu (i:=j) (by omega)
  refine ⟨y0,y1,hy,fun e => ?_⟩
  have e1:(aP l 0)[j]? = some y0:=by unfold aP;rw [fV,hy];rfl
  have e2:(aP l 0)[i]? = some x0:=by unfold aP;rw [fV,hi];rfl
  obtain ⟨Ny,Ee⟩:=Ca.1 e1;obtain ⟨Ik,Hl⟩:=Ca.1 e2;have:=List.pairwise_iff_getElem.1 hn j i Ny Ik hj;rw [Ee,Hl] at this
  exact this e
 exact aD.until (P:=Tp) i (fun j=>xV l x0 x1 j) i (dF _)
  (fun j hj=>by
   obtain ⟨y0,y1,hy,hn⟩:=hne j hj;exact bMp (by omega) hy hu ⟨rfl,rfl⟩ (by simp [iV,tP];exact fun h=>absurd h.symm hn) (aI (by omega)) rfl)
  (bMo (by omega) hi hu ⟨rfl,rfl⟩ (by simp [iV,tP])) (by simp)
theorem gQ(h:bO dl sk dc):uni 2 (aA sk)∧(aA sk).length≤30∧(∀ s∈aA sk,-1≤s.getD 1 0∧s.getD 1 0≤360000)∧(aP (aA sk) 0).Nodup:=by
 have hp:=dZ sk;refine ⟨nX h.us,by rw [dC];exact h.len.2,fun s hs=>(aNf.1 (h.hsk s (hp.mem_iff.1 hs))).2,?_⟩
 unfold aP;exact (hp.map _).nodup_iff.2 h.ns
theorem bCh(h:bO dl sk dc)(ho:(aJ dl (aA dc)).length≤8){base:Nat}:FV Tp 161 [uM dl (aA sk) (aA dc)] base (.tup [.own base,.p (aB 0)]) [(base,.row 195 (aG dl (aA sk) (aA dc)).length ((aG dl (aA sk) (aA dc)).map hpE).flatten)]:=by
 obtain ⟨h1,h2,h3,_⟩:=gQ h;exact cLg (dA h) h1 (by omega) h3 ho
theorem cAg(h:bO dl sk dc){i:Nat}{x0 x1:Int}(hi:(aA sk)[i]? = some [x0,x1]){base:Nat}:FV Tp 185 [.p (fS (aA sk)),.p (.agg [aB x0,aB x1])] base (pI (i:Int)) []:=by
 obtain ⟨h1,h2,_,h4⟩:=gQ h;exact cKy h1 h4 (by omega) hi
theorem aYn(h0:bO dl sk dc)(h1:oI (aA sk) bib=(i0:Int))(h2:(aA sk)[i0]? = some [s1,s2])(h3:(aJ dl (aA dc)).length≤8):FV Tp 140 [(.p (.agg (bC dl sk dc))),(pI bib)] base (.tup [(.p (.sl ((aG dl (aA sk) (aA dc)).length) (((aG dl (aA sk) (aA dc)).map hpE).flatten))),(pI (i0:Int)),(pI 0)]) []:=have k1:=fk 1 (bSs h0 h1 h2) rfl;have k2:=fk 2 (bCh h0 h3) rfl;FV.frz (FMM.fi 0 ⟨[],[],[2],[]⟩ func140 [k1.o,bF,k2.o,.x (.sl ((aA sk).length) ((aA sk).flatten.map aB)),.c (pI (i0:Int)) []] (gc (fk 3 (cAg h0 h2) rfl) (gr (.sl ((aA sk).length) ((aA sk).flatten.map aB)) (gc k2 (gc bUe (gc k1 gn)))))) (by kernel_rfl)
theorem bUg(h0:bO dl sk dc)(h1:oI (aA sk) bib = -1):FV Tp 140 [(.p (.agg (bC dl sk dc))),(pI bib)] base (.tup [(.p cC),(pI 0),(pI 1)]) []:=have k1:=fk 1 (cIm h0 h1) rfl;FV.frz (FMM.fi 0 gE func140 [k1.o,bT] (gc bUf (gc k1 gn))) (by kernel_rfl)
theorem bUh(h0:uni 2 sk)(h1:uni 6 dc)(h2:(cY dl sk dc)≠0)(A6:r0=(cY dl sk dc)):FV Tp 140 [(.p (.agg (bC dl sk dc))),(pI bib)] base (.tup [(.p cC),(pI 0),(pI r0)]) []:=by
 subst A6;exact FV.frz (FMM.fi 0 gE func140 [.c (.tup [(.p (.v (.pointer none))),(.p (.agg [(aB 0),(aB 0)])),(pI (cY dl sk dc))]) [],bT] (gc (fH h2) (gt (FC Tp 135 [(.p (.agg (bC dl sk dc))),(pI bib)] [] 1 (.tup [(.p (.v (.pointer none))),(.p (.agg [(aB 0),(aB 0)])),(pI (cY dl sk dc))]) []) (FV.fc (bZc h0 h1 h2) rfl) gn))) (by kernel_rfl)
theorem cKz{c3:List aV}{Rt Ru:Int}{r0:Bool}(h0:bO dl sk dc)(h1:oI (aA sk) bib=(i0:Int))(h2:(aA sk)[i0]? = some [s1,s2])(h3:(aJ dl (aA dc)).length≤8)(h4:(aG dl (aA sk) (aA dc))[i0]? = some (c3,Rt,Ru))(h5:(aG dl (aA sk) (aA dc)).length≤1000)(h6:c3.length≤256)(A6:r0=(c3.any fun x=>x.2.1)):FV Tp 71 [(.p (.agg (bC dl sk dc))),(pI bib)] base (.tup [(.p (aF (jQ (aG dl (aA sk) (aA dc)) i0 c3))),(pB r0),(pI 0)]) []:=by
 subst A6;have k1:=fk 1 (aYn h0 h1 h2 h3) rfl;have k2:=fk 1 (aYo h5 h4 h6) rfl;exact FV.fi func71 [k1.o,bF,k2.o] (gc k2 (gc bUe (gc k1 gn)))
theorem cLa(h0:bO dl sk dc)(h1:oI (aA sk) bib = -1):FV Tp 71 [(.p (.agg (bC dl sk dc))),(pI bib)] base (.tup [(.p cC),(pB false),(pI 1)]) []:=have k1:=fk 1 (bUg h0 h1) rfl;FV.fi func71 [k1.o,bT] (gc bUf (gc k1 gn))
theorem cLb(h0:uni 2 sk)(h1:uni 6 dc)(h2:(cY dl sk dc)≠0)(A6:r0=(cY dl sk dc)):FV Tp 71 [(.p (.agg (bC dl sk dc))),(pI bib)] base (.tup [(.p cC),(pB false),(pI r0)]) []:=by
 subst A6;exact FV.fi func71 [.c (.tup [(.p cC),(pI 0),(pI (cY dl sk dc))]) [],bT] (gc (fH h2) (gt (FC Tp 140 [(.p (.agg (bC dl sk dc))),(pI bib)] [] 1 (.tup [(.p cC),(pI 0),(pI (cY dl sk dc))]) []) (FV.fc (bUh (bib:=bib) h0 h1 h2 rfl) rfl) gn))
end
section
variable {a b:Bool}{f fi Aa Ab Mt Mu:Int}{l o:List Int}{i i' base:Nat}
variable {dl:Int}{sk dc:Lqq}

noncomputable abbrev aNz:Code:=pS (cd Tryz.f93) 7 [0,1,0,0]
theorem bUc:((0:Int) != 0)=false:=by first | decide | simp
theorem cKs{x0:Int}{r0:Bool}(h0:b=true)(h1:a=false)(h2:inR ((l.length:Int)-1))(h3:l[((l.length:Int)-1).toNat]? = some x0)(h4:0≤((l.length:Int)-1))(A6:r0=(decide (x0≤f))):FV Tp 95 [(.p (aF l)),(pB a),(pB b),(.rp [(aB f)] 0)] base (pB r0) []:=by
 subst A6;exact FV.fi func95 (rT 9++[.x (aB x0),bT,.x (aB f),bT,bT]) (Aq (bN h1) (gr (aB f) (gc (bN h1) (gt ((l.map aB)[(((l.length:Int)-1).toNat*1)]? = some (aB x0)) (sA (i:=((l.length:Int)-1).toNat) h3) (gc (bN h1) (gc (sC (g:=aB) h4 h3) (gc (bN h1) (gc h2 (Au (bN h1) (Ak h0 gn))))))))))
theorem cKt(h0:b=true)(h1:a=true):FV Tp 95 [(.p (aF l)),(pB a),(pB b),(.rp [(aB f)] 0)] base (pB false) []:=FV.fi func95 ([bT,bT,bT]++rF 9) (E1 (aR h1) (gc (aR h1) (Ak h0 gn)))
theorem cKu(h0:b=false):FV Tp 95 [(.p (aF l)),(pB a),(pB b),(.rp [(aB f)] 0)] base (pB false) []:=FV.fi func95 [bF,bF,bF] (Ak h0 gn)
def aYm(l:List Int)(a b:Bool)(f:Int):Bool:=b && (!a && decide (l.getD (l.length-1) 0≤f))
theorem bUd(l:List Int)(a b:Bool)(f:Int)(hl:l.length≤1000000)(hb:b=true→l≠[]){base:Nat}:FV Tp 95 [.p (aF l),.p (blP a),.p (blP b),.rp [aB f] 0] base (pB (aYm l a b f)) []:=by
 cases b with
 | false=>exact cKu rfl
 | true =>
  cases a with
  | true=>exact cKt rfl rfl
  | false =>
   have h0:=hb rfl;have h1:0<l.length:=List.length_pos_iff.2 h0;have h2:l[l.length-1]? = some (l.getD (l.length-1) 0):=by rw [B5,Ay (by omega)];rfl
   have e:((l.length:Int)-1).toNat=l.length-1:=by omega
   exact cKs (x0:=l.getD (l.length-1) 0) rfl rfl (by show _∧_;omega) (by rw [e];exact h2) (by omega) (by unfold aYm;simp)
def qB(dl:Int)(sk dc:Lqq)(fi:Int)(on:Nat)(oc:List PV)(i:Nat):St:=⟨fr 58 [(2,(.fn 95 [] [(.rp [(aB fi)] 0)])),(6,(.p cC)),(7,(pI 0)),(10,(.p (.sl ((aG dl (aA sk) (aA dc)).length) (((aG dl (aA sk) (aA dc)).map hpE).flatten)))),(11,(.own 0)),(36,(.p (.sl ((aA sk).length) ((aA sk).flatten.map aB)))),(37,(pI ((aA sk).length:Int))),(38,(pI (i:Int)))],[some (.row 3 on oc)]⟩
theorem cKv{B9:List Int}{E0:Nat}(h0:bO dl sk dc)(h1:(1:Int)≤fi)(h2:(aJ dl (aA dc)).length≤8)(Dl:aD Tp 0 aNz (qB dl sk dc fi 0 [] 0) (.exit 0) (qB dl sk dc fi B9.length (B9.map aB) E0)):FV Tp 93 [(.p (.agg (bC dl sk dc))),(pI fi),(.fn 95 [] [(.rp [(aB fi)] 0)])] base (.tup [(.p (aF B9)),(pI 0)]) []:=have k1:=fk 1 (jD dl sk dc h0) rfl;have k2:=fk 1 (bCh h0 h2) rfl;FV.frz (FMM.fi 0 ⟨[],[],[0],[]⟩ func93 [k1.o,bF,bF,k2.o,bF,.g 1 ⟨[],[0],[1],[]⟩,.x (.sl ((aA sk).length) ((aA sk).flatten.map aB)),Dl.k 1 (gN c7 [1] [(11,3)])] (gc Dl.code (gr (.sl ((aA sk).length) ((aA sk).flatten.map aB)) (gc bUc (gc k2 (gc (aK h1) (gc bUc (gc k1 gn)))))))) (by kernel_rfl)
section
variable{Db:List aV}(h0:(i:Int)<((aA sk).length:Int))(h1:(aA sk)[i]? = some [Aa,Ab])(h2:uni 2 (aA sk))(h3:(aG dl (aA sk) (aA dc))[i]? = some (Db,Mt,Mu))(h4:(aG dl (aA sk) (aA dc)).length≤1000)(h5:Db.length≤256)(h6:(jQ (aG dl (aA sk) (aA dc)) i Db).length≤1000000)(h7:(Db.any fun x => !x.2.1)=true→(jQ (aG dl (aA sk) (aA dc)) i Db)≠[])
include h0 h1 h2 h3 h4 h5 h6 h7
theorem bMl{o':List Int}(h8:(aYm (jQ (aG dl (aA sk) (aA dc)) i Db) (Db.any fun x=>x.2.1) (Db.any fun x => !x.2.1) fi)=true)(h9:[(aB Aa)].length=1*1∧o.length+1≤1000000)(A8:gk i)(Bq:o'.length=(o.length+1))(Br:o'.map aB=((o.map aB)++[(aB Aa)]))(Ai:i'=(i+1)):aC Tp 0 aNz (qB dl sk dc fi o.length (o.map aB) i) .normal (qB dl sk dc fi o'.length (o'.map aB) i'):=by
 subst Ai;have k1:=fk 2 (aYo h4 h3 h5) rfl;have k2:=fk 2 (bUd (jQ (aG dl (aA sk) (aA dc)) i Db) (Db.any fun x=>x.2.1) (Db.any fun x => !x.2.1) fi h6 h7) rfl;rw [Bq,Br];exact aC.fi (gI c7 [3]) [bT,.x (.agg [(aB Aa),(aB Ab)]),k1.o,k2.o,bT] (gc A8 (gc h9 (gc h8 (gc k2 (gc k1 (gfl h2 h1 (g0 h0)))))))
theorem bMm(h8:(aYm (jQ (aG dl (aA sk) (aA dc)) i Db) (Db.any fun x=>x.2.1) (Db.any fun x => !x.2.1) fi)=false)(h9:gk i)(Ai:i'=(i+1)):aC Tp 0 aNz (qB dl sk dc fi o.length (o.map aB) i) .normal (qB dl sk dc fi o.length (o.map aB) i'):=by
 subst Ai;have k1:=fk 2 (aYo h4 h3 h5) rfl;have k2:=fk 2 (bUd (jQ (aG dl (aA sk) (aA dc)) i Db) (Db.any fun x=>x.2.1) (Db.any fun x => !x.2.1) fi h6 h7) rfl;exact aC.fi (gI c7 [0]) [bT,.x (.agg [(aB Aa),(aB Ab)]),k1.o,k2.o,bF] (gc h9 (gc h8 (gc k2 (gc k1 (gfl h2 h1 (g0 h0))))))
end
theorem bMn(h0:((aA sk).length:Int)≤(i:Int)):aC Tp 0 aNz (qB dl sk dc fi o.length (o.map aB) i) (.exit 0) (qB dl sk dc fi o.length (o.map aB) i):=aC.fi (gI c7 [0]) [bF] (gc (aK h0) gn)
abbrev cOa(dl:Int)(sk dc:Lqq)(fi:Int)(o:List Int)(e:Int):Prop:=∀ base:Nat,FV Tp 93 [.p (.agg (bC dl sk dc)),.p (aB fi),.fn 95 [] [.rp [aB fi] 0]] base (.tup [.p (aF o),.p (aB e)]) []
theorem cKw{e0:Int}{o1:List Int}(h0:cOa dl sk dc fi o1 e0):FV Tp 33 [(.p (.agg (bC dl sk dc))),(pI fi)] base (.tup [(.p (aF o1)),(pI e0)]) []:=FV.fi func33 [.g 3 ⟨[],[0],[1],[]⟩,.x (aB fi),.c (.tup [(.p (aF o1)),(pI e0)]) []] (gc (fk 1 (h0 _) rfl) (gr (aB fi) gn))
end
end KV
end Go.Proofs
section
namespace Go.Proofs
open Go.RowKit Go.Lib
namespace KV
open Tryz
theorem bCd(o:List Int):gK o≠[]:=fun h=>by
 have:=zM o;rw [h] at this
 have:=Nat.two_pow_pos o.length;simp at *
 omega
theorem aSf(l:List aV):∀ m,l.foldl (fun m x=>if x.1<m then x.1 else m) m≤m∧∀ x∈l,l.foldl (fun m x=>if x.1<m then x.1 else m) m≤x.1:=by
 induction l with
 | nil=>intro m;exact ⟨bEv _,fun x h=>by cases h⟩
 | cons a l ih =>
  intro m;rw [kO];obtain ⟨h1,h2⟩:=ih (if a.1<m then a.1 else m)
  have ha:(if a.1<m then a.1 else m)≤m∧(if a.1<m then a.1 else m)≤a.1:=by split <;> omega
  exact ⟨by omega,fun x hx=>by
   rcases fW.1 hx with rfl | hx
   ·omega
   ·exact h2 x hx⟩
theorem aSg(l:List aV):∀ m,m≤l.foldl (fun m x=>if x.1 > m then x.1 else m) m∧∀ x∈l,x.1≤l.foldl (fun m x=>if x.1 > m then x.1 else m) m:=by
 induction l with
 | nil=>intro m;exact ⟨bEv _,fun x h=>by cases h⟩
 | cons a l ih =>
  intro m;rw [kO];obtain ⟨h1,h2⟩:=ih (if a.1 > m then a.1 else m)
  have ha:m≤(if a.1 > m then a.1 else m)∧a.1≤(if a.1 > m then a.1 else m):=by split <;> omega
  exact ⟨by omega,fun x hx=>by
   rcases fW.1 hx with rfl | hx
   ·omega
   ·exact h2 x hx⟩
theorem cAf{l:List aV}(h:l≠[]):mnM l≤mxM l:=by
 obtain ⟨x,hx⟩:=List.exists_mem_of_ne_nil l h;exact Int.le_trans ((aSf l far).2 x hx) ((aSg l 0).2 x hx)
theorem bCe(dl:Int)(dc:Lqq)(s0 s1:Int)(o:List Int):(lK dl dc s0 s1 o).2.1≤(lK dl dc s0 s1 o).2.2:=cAf fun h=>bCd o (List.map_eq_nil_iff.1 h)
theorem kN(dl:Int)(sk dc:Lqq):(aG dl sk dc).length=sk.length:=by unfold aG;simp
theorem jX{dl:Int}{sk dc:Lqq}{i:Nat}{s:List Int}(h:sk[i]? = some s):(aG dl sk dc)[i]? = some (lK dl dc (s.getD 0 0) (s.getD 1 0) (mR dl dc (s.getD 0 0))):=by
 unfold aG;rw [fV,h];rfl
theorem uS{dl:Int}{dc:Lqq}{s0 s1:Int}(b:Int)(ho:(aJ dl dc).length≤8):(lK dl dc s0 s1 (mR dl dc b)).1.length≤256:=by
 show ((gK (mR dl dc b)).map _).length≤256;rw [Co,zM];have:=bUj dl dc b;exact fL (Nat.pow_le_pow_right (by omega) (show (mR dl dc b).length≤8 by omega)) (by decide)
theorem bCf{al:List eU}(h:∀ x∈al,x.2.1≤x.2.2)(s:Nat)(t:Int):∀ i,(dI al s t i).1≤(dI al s t i).2
 | 0=>dF _
 | i+1=>by
  have ih:=bCf h s t i;unfold dI
  split
  ·rename_i x hx
   have:=h x (Bl hx)
   split
   ·exact ih
   ·dsimp only
    split <;> split <;> omega
  ·exact ih
theorem aYl{l:List Int}(h:l≠[]):Lib.compact l≠[]:=fun e=>by
 have:(Lib.compact l).length=0:=by rw [e];rfl
 unfold Lib.compact Lib.compactUpTo at this
 rw [Co] at this
 have h0:0∈(List.range l.length).filter (Lib.keeps l.toArray):=kY.2 ⟨iN.2 (List.length_pos_iff.2 h),Lib.keeps_lt_one _ 0 (by omega)⟩
 rw [aCw this] at h0
 cases h0
theorem bUb{al:List eU}(h:∀ x∈al,x.2.1≤x.2.2)(s:Nat){c:List aV}(hc:(c.any fun x => !x.2.1)=true):jQ al s c≠[]:=by
 unfold jQ;refine aYl fun e => ?_
 have e2:c.flatMap (chL al s)=[]:=by
  have:=bWz (le:=KL.leB) (c.flatMap (chL al s));rw [e] at this
  exact aCw this.symm
 obtain ⟨x,hx,hn⟩:=List.any_eq_true.1 hc;have h1:chL al s x=[]:=List.flatMap_eq_nil_iff.1 e2 x hx;have hf:x.2.1=false:=by simpa using hn
 unfold chL aIk at h1
 rw [hf] at h1
 have:=congrArg List.length h1;have hl:=bCf h s x.1 al.length;simp at this
 have h3:(bR al s x.1).1≤(bR al s x.1).2:=hl;omega
theorem bCg{al:List eU}(hal:al.length≤1000)(s:Nat){c:List aV}(hc:c.length≤256):(jQ al s c).length≤1000000:=by
 unfold jQ;refine fL (aHh _) ?_;rw [bWz];have:=aOd hal s c;omega
theorem aSh(dl:Int)(sk dc:Lqq):∀ x∈aG dl sk dc,x.2.1≤x.2.2:=fun x hx=>by
 obtain ⟨s,_,rfl⟩:=B3.1 hx;exact bCe ..
end KV
end Go.Proofs
end
namespace Go.Proofs
namespace KV
open Tryz
section
def aCo(dl:Int)(sk dc:Lqq)(f:Int)(i:Nat):Bool:=match (aG dl sk dc)[i]? with
 | some h=>aYm (jQ (aG dl sk dc) i h.1) (h.1.any fun x=>x.2.1) (h.1.any fun x => !x.2.1) f
 | none=>false
def aSe(dl:Int)(sk dc:Lqq)(f:Int):List Int:=((List.range sk.length).filter (aCo dl sk dc f)).map fun i=>(sk.getD i []).getD 0 0
theorem bUa{dl:Int}{sk dc:Lqq}(h:bO dl sk dc){bib:Int}{i:Nat}{s0 s1:Int}(hp:oI (aA sk) bib=(i:Int))(hs:(aA sk)[i]? = some [s0,s1])(ho:(aJ dl (aA dc)).length≤8){base:Nat} :
  FV Tp 71 [.p (.agg (bC dl sk dc)),.p (aB bib)] base (.tup [.p (aF (jQ (aG dl (aA sk) (aA dc)) i (lK dl (aA dc) s0 s1 (mR dl (aA dc) s0)).1)),.p (blP ((lK dl (aA dc) s0 s1 (mR dl (aA dc) s0)).1.any fun x=>x.2.1)),.p (aB 0)]) []:=by
 obtain ⟨_,h2,_,_⟩:=gQ h;exact cKz h hp hs ho (jX hs) (by rw [kN];omega) (uS s0 ho) rfl
theorem cKq{dl:Int}{sk dc:Lqq}(h:bO dl sk dc){f:Int}(hf:1≤f)(ho:(aJ dl (aA dc)).length≤8):cOa dl sk dc f (aSe dl (aA sk) (aA dc) f) 0:=fun base=>by
 obtain ⟨h1,h2,_,_⟩:=gQ h;obtain ⟨o,hI,hL⟩:=aD.ex (P:=Tp) (k:=0) (b:=sub (cd Tryz.f93) c9) (e := .exit 0) (fun i (o:List Int)=>qB dl sk dc f o.length (o.map aB) i) (fun o=>qB dl sk dc f o.length (o.map aB) (aA sk).length)
  (fun i o=>o=((List.range i).filter (aCo dl (aA sk) (aA dc) f)).map fun i=>((aA sk).getD i []).getD 0 0) (by simp) (aA sk).length
  (fun i o hi hoE=>by
   obtain ⟨y0,y1,hy⟩:=at2 h1 hi;have hat:=jX (dl:=dl) (dc:=aA dc) hy;have hlen:o.length≤i:=by
    rw [hoE,Co];have:=rZ (aCo dl (aA sk) (aA dc) f) (List.range i);simpa using this
   have hmb:aCo dl (aA sk) (aA dc) f i=aYm (jQ (aG dl (aA sk) (aA dc)) i (lK dl (aA dc) y0 y1 (mR dl (aA dc) y0)).1) ((lK dl (aA dc) y0 y1 (mR dl (aA dc) y0)).1.any fun x=>x.2.1) ((lK dl (aA dc) y0 y1 (mR dl (aA dc) y0)).1.any fun x => !x.2.1) f:=by
    unfold aCo;rw [hat];rfl
   have hal:(aG dl (aA sk) (aA dc)).length≤1000:=by rw [kN];omega
   have hc:=uS (s0:=y0) (s1:=y1) y0 ho;have hg:((aA sk).getD i []).getD 0 0=y0:=by simp [B5,hy]
   cases hb:aCo dl (aA sk) (aA dc) f i with
   | true =>
    refine ⟨o++[y0],?_,bMl (by omega) hy h1 hat hal hc (bCg hal i hc) (fun hn=>bUb (aSh _ _ _) i hn) (by rw [← hb,hmb];rfl) ⟨rfl,by omega⟩ (aI (by omega)) (by simp) (by simp) rfl⟩
    rw [hoE,List.range_succ,oO,iA];simp only [List.filter_cons,hb,if_true,List.filter_nil,iB,List.map_nil,hg]
   | false =>
    refine ⟨o,?_,bMm (by omega) hy h1 hat hal hc (bCg hal i hc) (fun hn=>bUb (aSh _ _ _) i hn) (by rw [← hb,hmb];rfl) (aI (by omega)) rfl⟩
    rw [hoE,List.range_succ,oO,iA];simp [List.filter_cons,hb])
  (fun o _=>bMn (by omega)) (acc:=[]) (by simp)
 have e:o=aSe dl (aA sk) (aA dc) f:=hI;rw [← e];exact cKv h hf ho hL
theorem cKr{dl:Int}{sk dc:Lqq}(h:bO dl sk dc){f:Int}(hf:1≤f)(ho:(aJ dl (aA dc)).length≤8){base:Nat}:FV Tp 33 [.p (.agg (bC dl sk dc)),.p (aB f)] base (.tup [.p (aF (aSe dl (aA sk) (aA dc) f)),.p (aB 0)]) []:=cKw (cKq h hf ho)
end
section
variable {c Aj Cr Aa Ab Ac Ad Ae Af:Int}{a b:Lqq}{i i' Bm base:Nat}

noncomputable abbrev aBc:Code:=sub (cd Tryz.f51) [1,1,0,1,0,0]
noncomputable abbrev aBd:Code:=sub (cd Tryz.f41) [1,1,0,1,0,0]
theorem cKi{dl:Int}{sk dc:Lqq}{bib:Int}{i0:Nat}{s1 s2 n3:Int}{b4:Bool}{T5:Lqb}(h0:bO dl sk dc)(h1:oI (aA sk) bib=(i0:Int))(h2:(aA sk)[i0]? = some [s1,s2])(h3:aIi dl (aA sk) (aA dc) cC [s1,s2] n3 b4 ([]:Lqb) T5):FV Tp 61 [(.p (.agg (bC dl sk dc))),(pI bib)] base (.tup [(pI n3),(pB b4),(pI 0)]) []:=have k1:=fk 1 (bSs h0 h1 h2) rfl;have k2:=mN [] 2 (aNr (dl:=dl) (sk:=(aA sk)) (dc:=(aA dc)));have k3:=mq [2,3,4,5,6,7,8] 10 h3;FV.fi func61 [k1.o,bF,k2.o,k3.o] (gc k3 (gc k2 (gt (((0:Int) != 0)=false) (by first | decide | simp) (gc k1 gn))))
def mA(a b:Lqq)(i:Nat):St:=⟨fr 26 [(0,(.p (fS a))),(1,(.p (fS b))),(12,(pI (a.length:Int))),(13,(pI (i:Int)))],[]⟩
theorem cKj(h0:(a.length:Int)≠(b.length:Int)):FV Tp 51 [(.p (fS a)),(.p (fS b))] base (pB false) []:=FV.fi func51 [bT] (gc (fH h0) gn)
theorem cKk(h0:(a.length:Int)=(b.length:Int))(hl1:aD Tp 0 aBc (mA a b 0) (.exit 0) (mA a b Bm)):FV Tp 51 [(.p (fS a)),(.p (fS b))] base (pB true) []:=FV.fi func51 [bF,hl1.k 4 (gZ g7)] (gc hl1.code (gc (bG h0) gn))
theorem cKl(h0:(a.length:Int)=(b.length:Int))(hl1:aD Tp 0 aBc (mA a b 0) .ret (bQ (mA a b Bm) [(4,(.kb false))])):FV Tp 51 [(.p (fS a)),(.p (fS b))] base (pB false) []:=FV.fi func51 [bF,hl1.k 4 (gZ g7)] (gc hl1.code (gc (bG h0) gn))
section
variable(h0:(i:Int)<(a.length:Int))(h1:a[i]? = some [Aa,Ab,Ac])(h2:uni 3 a)(h3:b[i]? = some [Ad,Ae,Af])(h4:uni 3 b)(h5:cW [(aB Aa),(aB Ab),(aB Ac)] [(0,3,true),(1,3,true),(2,3,true)]=true∧cW [(aB Ad),(aB Ae),(aB Af)] [(0,3,true),(1,3,true),(2,3,true)]=true)
include h0 h1 h2 h3 h4 h5
theorem bMf(h6:(iV [(aB Aa),(aB Ab),(aB Ac)] [(aB Ad),(aB Ae),(aB Af)] [(0,3,true),(1,3,true),(2,3,true)])=false):aC Tp 0 aBc (mA a b i) .ret (bQ (mA a b i) [(4,(.kb false))]):=aC.fi (gZ ew) [bT,.x (.agg [(aB Aa),(aB Ab),(aB Ac)]),.x (.agg [(aB Ad),(aB Ae),(aB Af)]),bT] (gc (bN h6) (gc h5 (gfl h4 h3 (gfl h2 h1 (g0 h0)))))
theorem bMg(h6:(iV [(aB Aa),(aB Ab),(aB Ac)] [(aB Ad),(aB Ae),(aB Af)] [(0,3,true),(1,3,true),(2,3,true)])=true)(h7:gk i)(Ai:i'=(i+1)):aC Tp 0 aBc (mA a b i) .normal (mA a b i'):=by
 subst Ai;exact aC.fi (gZ g7) [bT,.x (.agg [(aB Aa),(aB Ab),(aB Ac)]),.x (.agg [(aB Ad),(aB Ae),(aB Af)]),bF] (gc h7 (gc (aR h6) (gc h5 (gfl h4 h3 (gfl h2 h1 (g0 h0))))))
end
theorem bMh(h0:(a.length:Int)≤(i:Int)):aC Tp 0 aBc (mA a b i) (.exit 0) (mA a b i):=aC.fi (gZ g7) [bF] (gc (aK h0) gn)
theorem cKm(a b:Lqq)(ha:uni 3 a)(hb:uni 3 b)(hl:a.length≤1000){base:Nat}:FV Tp 51 [.p (fS a),.p (fS b)] base (pB (decide (a=b))) []:=by
 by_cases hlen:a.length=b.length
 ·have eqx:∀ i,i<a.length→∃ x y,a[i]? = some x∧b[i]? = some y∧x.length=3∧y.length=3:=fun i hi =>
   ⟨a[i],b[i],Ay hi,Ay (by omega),ha _ (fP hi),hb _ (fP (by omega))⟩
  rcases aD.find (P:=Tp) (k:=0) (b:=aBc) (fun i=>mA a b i) (fun i _=>bQ (mA a b i) [(4,.kb false)]) (mA a b a.length) .ret (.exit 0) (by simp) (by simp) (fun j=>decide (a.getD j []≠b.getD j [])) (List.range a.length)
   (fun i x hx hp=>by
    have hi:i<a.length:=by have:=aM hx;simpa using this
    obtain ⟨y,z,hy,hz,ly,lz⟩:=eqx i hi;obtain ⟨a,b,c,rfl⟩:=Dd ly;obtain ⟨a',b',c',rfl⟩:=Dd lz;have hxi:x=i:=by rw [mO hi] at hx;exact (Option.some.inj hx).symm
    subst hxi;have he:=of_decide_eq_false hp;simp only [B5,hy,hz,Option.getD_some,ne_eq,Classical.not_not] at he
    cases he;exact bMg (by omega) hy ha hz hb ⟨rfl,rfl⟩ (by simp [iV,tP]) (aI (by omega)) rfl)
   (fun i x hx hp=>by
    have hi:i<a.length:=by have:=aM hx;simpa using this
    obtain ⟨y,z,hy,hz,ly,lz⟩:=eqx i hi;obtain ⟨a,b,c,rfl⟩:=Dd ly;obtain ⟨a',b',c',rfl⟩:=Dd lz;have hxi:x=i:=by rw [mO hi] at hx;exact (Option.some.inj hx).symm
    subst hxi;have he:=of_decide_eq_true hp;simp only [B5,hy,hz,Option.getD_some] at he
    exact bMf (by omega) hy ha hz hb ⟨rfl,rfl⟩ (by
     rw [Bool.eq_false_iff];intro h;simp [iV,tP] at h
     exact he (by simp [h])))
   (by rw [aFs];exact bMh (by omega)) with ⟨i,x,h1,h2,h3,h4⟩ | ⟨h1,h2,h3⟩
  ·have hi:i<a.length:=by have:=aM h1;simpa using this
   have hxi:x=i:=by rw [mO hi] at h1;exact (Option.some.inj h1).symm
   have he:=of_decide_eq_true h3;rw [decide_eq_false (fun e=>he (by rw [e]))]
   exact cKl (by omega) h4
  ·have hall:∀ i,i<a.length→a.getD i []=b.getD i []:=fun i hi=>by
    have:=List.any_eq_false.1 h2 i (iN.2 hi);simpa using this
   have e:a=b:=by
    apply List.ext_getElem hlen;intro i h1 h2;have:=hall i h1;simpa [B5,Ay h1,Ay h2] using this
   rw [decide_eq_true e];exact cKk (by omega) h3
 ·rw [decide_eq_false (fun e=>hlen (by rw [e]))]
  exact cKj (by omega)
def mB(a b:List Int)(i:Nat):St:=⟨fr 26 [(0,(.p (aF a))),(1,(.p (aF b))),(12,(pI (a.length:Int))),(13,(pI (i:Int)))],[]⟩
theorem cKn{a b:List Int}(h0:(a.length:Int)≠(b.length:Int)):FV Tp 41 [(.p (aF a)),(.p (aF b))] base (pB false) []:=FV.fi func41 [bT] (gc (fH h0) gn)
theorem cKo{a b:List Int}(h0:(a.length:Int)=(b.length:Int))(hl1:aD Tp 0 aBd (mB a b 0) (.exit 0) (mB a b Bm)):FV Tp 41 [(.p (aF a)),(.p (aF b))] base (pB true) []:=FV.fi func41 [bF,hl1.k 4 (gZ g7)] (gc hl1.code (gc (bG h0) gn))
theorem cKp{a b:List Int}(h0:(a.length:Int)=(b.length:Int))(hl1:aD Tp 0 aBd (mB a b 0) .ret (bQ (mB a b Bm) [(4,(.kb false))])):FV Tp 41 [(.p (aF a)),(.p (aF b))] base (pB false) []:=FV.fi func41 [bF,hl1.k 4 (gZ g7)] (gc hl1.code (gc (bG h0) gn))
section
variable{a b:List Int}(h0:(i:Int)<(a.length:Int))(h1:a[i]? = some Aj)(h2:b[i]? = some Cr)
include h0 h1 h2
theorem bMi(h3:Aj≠Cr):aC Tp 0 aBd (mB a b i) .ret (bQ (mB a b i) [(4,(.kb false))]):=aC.fi (gZ ew) [bT,.x (aB Aj),.x (aB Cr),bT] (gc (fH h3) (gc (atm aB h2) (gc (ixn aB h2) (gc (atm aB h1) (gc (ixn aB h1) (g0 h0))))))
theorem bMj(h3:Aj=Cr)(h4:gk i)(Ai:i'=(i+1)):aC Tp 0 aBd (mB a b i) .normal (mB a b i'):=by
 subst Ai;exact aC.fi (gZ g7) [bT,.x (aB Aj),.x (aB Cr),bF] (gc h4 (gc (bG h3) (gc (atm aB h2) (gc (ixn aB h2) (gc (atm aB h1) (gc (ixn aB h1) (g0 h0)))))))
end
theorem bMk{a b:List Int}(h0:(a.length:Int)≤(i:Int)):aC Tp 0 aBd (mB a b i) (.exit 0) (mB a b i):=aC.fi (gZ g7) [bF] (gc (aK h0) gn)
theorem aHa(a b:List Int)(hl:a.length≤1000){base:Nat}:FV Tp 41 [.p (aF a),.p (aF b)] base (pB (decide (a=b))) []:=by
 by_cases hlen:a.length=b.length
 ·rcases aD.find (P:=Tp) (k:=0) (b:=aBd) (fun i=>mB a b i) (fun i _=>bQ (mB a b i) [(4,.kb false)]) (mB a b a.length) .ret (.exit 0) (by simp) (by simp) (fun j=>decide (a.getD j 0≠b.getD j 0)) (List.range a.length)
   (fun i x hx hp=>by
    have hi:i<a.length:=by have:=aM hx;simpa using this
    have hxi:x=i:=by rw [mO hi] at hx;exact (Option.some.inj hx).symm
    subst hxi;have h1:a[x]? = some (a.getD x 0):=by rw [B5,Ay hi];rfl
    have h2:b[x]? = some (b.getD x 0):=by rw [B5,Ay (by omega)];rfl
    have he:=of_decide_eq_false hp;exact bMj (by omega) h1 h2 (Classical.not_not.1 he) (aI (by omega)) rfl)
   (fun i x hx hp=>by
    have hi:i<a.length:=by have:=aM hx;simpa using this
    have hxi:x=i:=by rw [mO hi] at hx;exact (Option.some.inj hx).symm
    subst hxi;have h1:a[x]? = some (a.getD x 0):=by rw [B5,Ay hi];rfl
    have h2:b[x]? = some (b.getD x 0):=by rw [B5,Ay (by omega)];rfl
    exact bMi (by omega) h1 h2 (of_decide_eq_true hp))
   (by rw [aFs];exact bMk (by omega)) with ⟨i,x,h1,h2,h3,h4⟩ | ⟨h1,h2,h3⟩
  ·have he:=of_decide_eq_true h3
   rw [decide_eq_false (fun e=>he (by rw [e]))]
   exact cKp (by omega) h4
  ·have hall:∀ i,i<a.length→a.getD i 0=b.getD i 0:=fun i hi=>by
    have:=List.any_eq_false.1 h2 i (iN.2 hi);simpa using this
   have e:a=b:=by
    apply List.ext_getElem hlen;intro i h1 h2;have:=hall i h1
    rwa [B5,B5,Ay h1,Ay h2] at this
   rw [decide_eq_true e];exact cKo (by omega) h3
 ·rw [decide_eq_false (fun e=>hlen (by rw [e]))]
  exact cKn (by omega)
theorem aNy{a b:Int}:FV Tp 23 [(pI a),(pI b),(pI c)] base (.p (dcE a 0 0 b c 0)) []:=FV.fi func23 [] gn
theorem jO{a b d e:Int}:FV Tp 49 [(pI a),(pI b),(pI c),(pI d),(pI e)] base (.p (dcE a b d 0 e c)) []:=FV.fi func49 [] gn
end
section
variable {P:Program}
theorem FC.close1{f base id ty n:Nat}{cs:List PV}{args A1:List AV}{y:AV}{L:Upd}(h:FC P f A1 [] base y L)(ha:fzL id n cs args=A1):FC P f args [(id,.row ty n cs)] base y ((id,.dead)::L):=fun M hb hf h8=>by
 have hoM:=hb _ (gA ..);subst ha;have fre:∀ j,fY M (base+j)=true→fY (bB M id (some .dead)) (base+j)=true:=fun j hj=>by
  have hne:id≠base+j:=fun e=>by
   have:=cZ hj;rw [← e] at this
   exact this _ (bK.1 hoM)
  unfold fY at hj ⊢
  rw [dG,if_neg hne];exact hj
 exact FM.close1 hoM (h _ (fun p hp=>by cases hp) (by have:=fre 0 (by simpa using hf);simpa using this) (fun j hj=>fre j (h8 j hj)))
end
section
variable {Gr:Bool}{r6 y0 y1 y2 y3 y4 y5 num n102 Aa Ab:Int}{T104:Lqb}{x:List Int}{base:Nat}
variable {dl:Int}{sk dc:Lqq}

noncomputable abbrev aYh:Code:=pS (cd Tryz.f58) 9 [0,1,0,1,0,0]
noncomputable abbrev bTz:Code:=pS (cd Tryz.f58) 9 [0,1,0]
noncomputable abbrev aYi:Code:=pS (cd Tryz.f58) 9 [0,1,0,1]
theorem aGy:((0:Int) != 0)=false:=by first | decide | simp
def kF(dl:Int)(sk dc:Lqq)(r:Int)(x:List Int):Int × Bool:=cA dl x (aA dc) (((aA sk).getD (bJ (fun x=>decide (r=x)) (aP (aA sk) 0)).toNat []).getD 0 0) (((aA sk).getD (bJ (fun x=>decide (r=x)) (aP (aA sk) 0)).toNat []).getD 1 0)
def sM(dl:Int)(sk dc:Lqq)(num r6:Int):St:=⟨fr 102 [(3,(.rp [(aB num)] 0)),(4,(.ptr 0 0)),(5,(.ptr 1 0)),(6,(.rp [(PV.rp (aZ dl (aA sk) (aA dc)) 0)] 0)),(9,(.rp [(aB r6)] 0)),(10,(.rp [(aB (bJ (fun x=>decide (r6=x)) (aP (aA sk) 0)))] 0)),(53,(.fn 182 [] [(.rp [(aF ((aJ dl (aA dc)).filter fun n => !(n == num)))] 0)]))],[some (.box 4 [(pB false)]),some (.box 34 [(pI 0)])]⟩
def aGz(dl:Int)(sk dc:Lqq)(num r6:Int):St:=⟨fr 102 [(3,(.rp [(aB num)] 0)),(4,(.ptr 0 0)),(5,(.ptr 1 0)),(6,(.rp [(PV.rp (aZ dl (aA sk) (aA dc)) 0)] 0)),(9,(.rp [(aB r6)] 0)),(10,(.rp [(aB (bJ (fun x=>decide (r6=x)) (aP (aA sk) 0)))] 0)),(53,(.fn 182 [] [(.rp [(aF ((aJ dl (aA dc)).filter fun n => !(n == num)))] 0)]))],[some (.box 4 [(pB false)]),some (.box 34 [(pI 0)])]⟩
def aYj(dl:Int)(sk dc:Lqq)(num r6:Int):St:=⟨fr 102 [(3,(.rp [(aB num)] 0)),(4,(.ptr 0 0)),(5,(.ptr 1 0)),(6,(.rp [(PV.rp (aZ dl (aA sk) (aA dc)) 0)] 0)),(9,(.rp [(aB r6)] 0)),(10,(.rp [(aB (bJ (fun x=>decide (r6=x)) (aP (aA sk) 0)))] 0)),(53,(.fn 182 [] [(.rp [(aF ((aJ dl (aA dc)).filter fun n => !(n == num)))] 0)]))],[some (.box 4 [(.kb true)]),some (.box 34 [(pI 0)])]⟩
section
variable(h0:bO dl sk dc)(h1:bP (aA dc))(h2:(aJ dl (aA dc)).length≤1000)
include h0 h1 h2
theorem cKc(h3:((aJ dl (aA dc)).contains num)=false):FV Tp 58 [(.p (.agg (bC dl sk dc))),(pI num)] base (.tup [(pB false),(pI 1)]) []:=have k1:=fk 4 (jD dl sk dc h0) rfl;have k2:=fk 3 (pZ (dl:=dl) (sk:=(aA sk)) (dc:=(aA dc)) h1) rfl;FV.fi func58 [k1.o,bF,.g 1 ⟨[],[0,2,3],[4,1],[]⟩,.x (PV.rp (aZ dl (aA sk) (aA dc)) 0),k2.o,.x (aB num),.c (pB ((aJ dl (aA dc)).contains num)) [],bT] (gc (bN h3) (gt (FC Tp 52 [(.own 3),(pI num)] [(3,(.row 3 ((aJ dl (aA dc)).length) ((aJ dl (aA dc)).map aB)))] 4 (pB ((aJ dl (aA dc)).contains num)) []) (fv (sH (aJ dl (aA dc)) num h2)) (gr (aB num) (gc k2 (gr (PV.rp (aZ dl (aA sk) (aA dc)) 0) (gc aGy (gc k1 gn)))))))
theorem cKd(h3:((aJ dl (aA dc)).contains num)=true)(h4:(8:Int)<((aJ dl (aA dc)).length:Int)):FV Tp 58 [(.p (.agg (bC dl sk dc))),(pI num)] base (.tup [(pB false),(pI 10)]) []:=have k1:=fk 4 (jD dl sk dc h0) rfl;have k2:=fk 3 (pZ (dl:=dl) (sk:=(aA sk)) (dc:=(aA dc)) h1) rfl;FV.fi func58 [k1.o,bF,.g 1 ⟨[],[0,2,3],[4,1],[]⟩,.x (PV.rp (aZ dl (aA sk) (aA dc)) 0),k2.o,.x (aB num),.c (pB ((aJ dl (aA dc)).contains num)) [],bF,bT] (gc (bI h4) (gc (aR h3) (gt (FC Tp 52 [(.own 3),(pI num)] [(3,(.row 3 ((aJ dl (aA dc)).length) ((aJ dl (aA dc)).map aB)))] 4 (pB ((aJ dl (aA dc)).contains num)) []) (fv (sH (aJ dl (aA dc)) num h2)) (gr (aB num) (gc k2 (gr (PV.rp (aZ dl (aA sk) (aA dc)) 0) (gc aGy (gc k1 gn))))))))
end
section
variable(h0:bO dl sk dc)(h1:bP (aA dc))(h2:(aJ dl (aA dc)).length≤1000)(h3:((aJ dl (aA dc)).contains num)=true)(h4:((aJ dl (aA dc)).length:Int)≤8)(h5:cR .i64 (atF (aA dc).reverse) (.int .i64 num))(h6:(eA (atF (aA dc).reverse) (.int .i64 num))=true)(h7:gG (atF (aA dc).reverse) (.int .i64 num)=some (dcE y0 y1 y2 y3 y4 y5))(h8:bUo dl (aA sk) (aA dc) [y0,y1,y2,y3,y4,y5] r6)(h9:uni 2 (aA sk)∧(aA sk).length≤1000)(A8:(aP (aA sk) 0).length≤1000)
include h0 h1 h2 h3 h4 h5 h6 h7 h8 h9 A8
theorem cKe(Be:(bJ (fun x=>decide (r6=x)) (aP (aA sk) 0))<0):FV Tp 58 [(.p (.agg (bC dl sk dc))),(pI num)] base (.tup [(pB false),(pI 0)]) []:=have k1:=fk 4 (jD dl sk dc h0) rfl;have k2:=fk 3 (pZ (dl:=dl) (sk:=(aA sk)) (dc:=(aA dc)) h1) rfl;have k3:=fk 13 (oH dl (aA sk) (aA dc) h9) rfl;FV.fi func58 [k1.o,bF,.g 1 ⟨[],[0,2,3],[4,1],[]⟩,.x (PV.rp (aZ dl (aA sk) (aA dc)) 0),k2.o,.x (aB num),.c (pB ((aJ dl (aA dc)).contains num)) [],bF,bF,.x (PV.rp (aZ dl (aA sk) (aA dc)) 0),.x (PV.rp (aZ dl (aA sk) (aA dc)) 0),.x (.mp (atF (aA dc).reverse)),.x (aB num),bT,.x (dcE y0 y1 y2 y3 y4 y5),.c (pI r6) [],.x (PV.rp (aZ dl (aA sk) (aA dc)) 0),.x (.agg (bC dl (aA sk) (aA dc))),k3.o,.c (pI (bJ (fun x=>decide (r6=x)) (aP (aA sk) 0))) [],.g 2 ⟨[],[0,1,2,3,13],[12,29],[]⟩,.x (aB (bJ (fun x=>decide (r6=x)) (aP (aA sk) 0))),bT] (gc (bI Be) (gr (aB (bJ (fun x=>decide (r6=x)) (aP (aA sk) 0))) (gt (FC Tp 126 [(.own 13),(pI r6)] [(13,(.row 3 ((aP (aA sk) 0).length) ((aP (aA sk) 0).map aB)))] 21 (pI (bJ (fun x=>decide (r6=x)) (aP (aA sk) 0))) []) (fv (aAq (aP (aA sk) 0) r6 A8)) (gc k3 (gr (.agg (bC dl (aA sk) (aA dc))) (gt (0+3≤(aZ dl (aA sk) (aA dc)).length) (by first | decide | simp) (gr (PV.rp (aZ dl (aA sk) (aA dc)) 0) (gc (fk 4 (h8 _) rfl) (gc h7 (gc h6 (gc h5 (gr (aB num) (gr (.mp (atF (aA dc).reverse)) (gr (PV.rp (aZ dl (aA sk) (aA dc)) 0) (gr (PV.rp (aZ dl (aA sk) (aA dc)) 0) (gc (aK h4) (gc (aR h3) (gt (FC Tp 52 [(.own 3),(pI num)] [(3,(.row 3 ((aJ dl (aA dc)).length) ((aJ dl (aA dc)).map aB)))] 4 (pB ((aJ dl (aA dc)).contains num)) []) (fv (sH (aJ dl (aA dc)) num h2)) (gr (aB num) (gc k2 (gr (PV.rp (aZ dl (aA sk) (aA dc)) 0) (gc aGy (gc k1 gn)))))))))))))))))))))))
theorem cKf(Be:(0:Int)≤(bJ (fun x=>decide (r6=x)) (aP (aA sk) 0)))(Ho:aC Tp 0 bTz (aGz dl sk dc num r6) .normal (sM dl sk dc num r6)):FV Tp 58 [(.p (.agg (bC dl sk dc))),(pI num)] base (.tup [(pB false),(pI 0)]) []:=have k1:=fk 4 (jD dl sk dc h0) rfl;have k2:=fk 3 (pZ (dl:=dl) (sk:=(aA sk)) (dc:=(aA dc)) h1) rfl;have k3:=fk 13 (oH dl (aA sk) (aA dc) h9) rfl;have k4:=fk 5 (aYr (q:=((aJ dl (aA dc)).filter fun n => !(n == num)))) rfl;FV.fi func58 [k1.o,bF,.g 1 ⟨[],[0,2,3],[4,1],[]⟩,.x (PV.rp (aZ dl (aA sk) (aA dc)) 0),k2.o,.x (aB num),.c (pB ((aJ dl (aA dc)).contains num)) [],bF,bF,.x (PV.rp (aZ dl (aA sk) (aA dc)) 0),.x (PV.rp (aZ dl (aA sk) (aA dc)) 0),.x (.mp (atF (aA dc).reverse)),.x (aB num),bT,.x (dcE y0 y1 y2 y3 y4 y5),.c (pI r6) [],.x (PV.rp (aZ dl (aA sk) (aA dc)) 0),.x (.agg (bC dl (aA sk) (aA dc))),k3.o,.c (pI (bJ (fun x=>decide (r6=x)) (aP (aA sk) 0))) [],.g 2 ⟨[],[0,1,2,3,13],[12,29],[]⟩,.x (aB (bJ (fun x=>decide (r6=x)) (aP (aA sk) 0))),bF,.c (.p (aF ((aJ dl (aA dc)).filter fun n => !(n == num)))) [(3,.dead)],k4.o,Ho.k 1 (gI cu [1,2])] (gc Ho (gc k4 (gt (FC Tp 54 [(.own 3),(.fn 133 [] [(.rp [(aB num)] 0)])] [(3,(.row 3 ((aJ dl (aA dc)).length) ((aJ dl (aA dc)).map aB)))] 5 (.p (aF ((aJ dl (aA dc)).filter fun n => !(n == num)))) [(3,.dead)]) (FMM.fc (ids:=[3]) (bUm (l:=(aJ dl (aA dc))) (m:=num) h2 (fun _ _=>rfl)) (by kernel_rfl)) (gc (aK Be) (gr (aB (bJ (fun x=>decide (r6=x)) (aP (aA sk) 0))) (gt (FC Tp 126 [(.own 13),(pI r6)] [(13,(.row 3 ((aP (aA sk) 0).length) ((aP (aA sk) 0).map aB)))] 21 (pI (bJ (fun x=>decide (r6=x)) (aP (aA sk) 0))) []) (fv (aAq (aP (aA sk) 0) r6 A8)) (gc k3 (gr (.agg (bC dl (aA sk) (aA dc))) (gt (0+3≤(aZ dl (aA sk) (aA dc)).length) (by first | decide | simp) (gr (PV.rp (aZ dl (aA sk) (aA dc)) 0) (gc (fk 4 (h8 _) rfl) (gc h7 (gc h6 (gc h5 (gr (aB num) (gr (.mp (atF (aA dc).reverse)) (gr (PV.rp (aZ dl (aA sk) (aA dc)) 0) (gr (PV.rp (aZ dl (aA sk) (aA dc)) 0) (gc (aK h4) (gc (aR h3) (gt (FC Tp 52 [(.own 3),(pI num)] [(3,(.row 3 ((aJ dl (aA dc)).length) ((aJ dl (aA dc)).map aB)))] 4 (pB ((aJ dl (aA dc)).contains num)) []) (fv (sH (aJ dl (aA dc)) num h2)) (gr (aB num) (gc k2 (gr (PV.rp (aZ dl (aA sk) (aA dc)) 0) (gc aGy (gc k1 gn))))))))))))))))))))))))))
theorem cKg(Be:(0:Int)≤(bJ (fun x=>decide (r6=x)) (aP (aA sk) 0)))(Ho:aC Tp 0 bTz (aGz dl sk dc num r6) .ret (aYj dl sk dc num r6)):FV Tp 58 [(.p (.agg (bC dl sk dc))),(pI num)] base (.tup [(pB true),(pI 0)]) []:=have k1:=fk 4 (jD dl sk dc h0) rfl;have k2:=fk 3 (pZ (dl:=dl) (sk:=(aA sk)) (dc:=(aA dc)) h1) rfl;have k3:=fk 13 (oH dl (aA sk) (aA dc) h9) rfl;have k4:=fk 5 (aYr (q:=((aJ dl (aA dc)).filter fun n => !(n == num)))) rfl;FV.fi func58 [k1.o,bF,.g 1 ⟨[],[0,2,3],[4,1],[]⟩,.x (PV.rp (aZ dl (aA sk) (aA dc)) 0),k2.o,.x (aB num),.c (pB ((aJ dl (aA dc)).contains num)) [],bF,bF,.x (PV.rp (aZ dl (aA sk) (aA dc)) 0),.x (PV.rp (aZ dl (aA sk) (aA dc)) 0),.x (.mp (atF (aA dc).reverse)),.x (aB num),bT,.x (dcE y0 y1 y2 y3 y4 y5),.c (pI r6) [],.x (PV.rp (aZ dl (aA sk) (aA dc)) 0),.x (.agg (bC dl (aA sk) (aA dc))),k3.o,.c (pI (bJ (fun x=>decide (r6=x)) (aP (aA sk) 0))) [],.g 2 ⟨[],[0,1,2,3,13],[12,29],[]⟩,.x (aB (bJ (fun x=>decide (r6=x)) (aP (aA sk) 0))),bF,.c (.p (aF ((aJ dl (aA dc)).filter fun n => !(n == num)))) [(3,.dead)],k4.o,Ho.k 1 (gI cu [1,2])] (gc Ho (gc k4 (gt (FC Tp 54 [(.own 3),(.fn 133 [] [(.rp [(aB num)] 0)])] [(3,(.row 3 ((aJ dl (aA dc)).length) ((aJ dl (aA dc)).map aB)))] 5 (.p (aF ((aJ dl (aA dc)).filter fun n => !(n == num)))) [(3,.dead)]) (FMM.fc (ids:=[3]) (bUm (l:=(aJ dl (aA dc))) (m:=num) h2 (fun _ _=>rfl)) (by kernel_rfl)) (gc (aK Be) (gr (aB (bJ (fun x=>decide (r6=x)) (aP (aA sk) 0))) (gt (FC Tp 126 [(.own 13),(pI r6)] [(13,(.row 3 ((aP (aA sk) 0).length) ((aP (aA sk) 0).map aB)))] 21 (pI (bJ (fun x=>decide (r6=x)) (aP (aA sk) 0))) []) (fv (aAq (aP (aA sk) 0) r6 A8)) (gc k3 (gr (.agg (bC dl (aA sk) (aA dc))) (gt (0+3≤(aZ dl (aA sk) (aA dc)).length) (by first | decide | simp) (gr (PV.rp (aZ dl (aA sk) (aA dc)) 0) (gc (fk 4 (h8 _) rfl) (gc h7 (gc h6 (gc h5 (gr (aB num) (gr (.mp (atF (aA dc).reverse)) (gr (PV.rp (aZ dl (aA sk) (aA dc)) 0) (gr (PV.rp (aZ dl (aA sk) (aA dc)) 0) (gc (aK h4) (gc (aR h3) (gt (FC Tp 52 [(.own 3),(pI num)] [(3,(.row 3 ((aJ dl (aA dc)).length) ((aJ dl (aA dc)).map aB)))] 4 (pB ((aJ dl (aA dc)).contains num)) []) (fv (sH (aJ dl (aA dc)) num h2)) (gr (aB num) (gc k2 (gr (PV.rp (aZ dl (aA sk) (aA dc)) 0) (gc aGy (gc k1 gn))))))))))))))))))))))))))
end
theorem cKh{r0:Int}(h0:uni 2 sk)(h1:uni 6 dc)(h2:(cY dl sk dc)≠0)(A6:r0=(cY dl sk dc)):FV Tp 58 [(.p (.agg (bC dl sk dc))),(pI num)] base (.tup [(pB false),(pI r0)]) []:=by
 subst A6;have k1:=fk 4 (aGr dl sk dc h0 h1 h2) rfl;exact FV.fi func58 [k1.o,bT] (gc (fH h2) (gc k1 gn))
def uR(dl:Int)(sk dc:Lqq)(num r6:Int)(x:List Int):St:=⟨fr 102 [(3,(.rp [(aB num)] 0)),(4,(.ptr 0 0)),(5,(.ptr 1 0)),(6,(.rp [(PV.rp (aZ dl (aA sk) (aA dc)) 0)] 0)),(9,(.rp [(aB r6)] 0)),(10,(.rp [(aB (bJ (fun x=>decide (r6=x)) (aP (aA sk) 0)))] 0)),(11,(.own 2)),(53,(.fn 182 [] [(.rp [(aF ((aJ dl (aA dc)).filter fun n => !(n == num)))] 0)])),(54,(.own 2))],[some (.box 4 [(pB false)]),some (.box 34 [(pI 0)]),some (.row 3 x.length (x.map aB))]⟩
def aNx(dl:Int)(sk dc:Lqq)(num r6:Int):St:=⟨fr 102 [],[some (.box 4 [(.kb true)]),some (.box 34 [(pI 0)]),some .dead]⟩
section
variable(hl0:aC Tp 3 aYh (uR dl sk dc num r6 x) .normal (bQ (uR dl sk dc num r6 x) [(12,(pI ((kF dl sk dc r6 x).1))),(13,(pB ((kF dl sk dc r6 x).2)))]))(h1:(aA sk)[(bJ (fun x=>decide (r6=x)) (aP (aA sk) 0)).toNat]? = some [Aa,Ab])(h2:0≤(bJ (fun x=>decide (r6=x)) (aP (aA sk) 0)))(h3:uni 2 (aA sk))(h4:[(aB num)].length=1*1∧x.length+1≤1000000)(h5:aIi dl (aA sk) (aA dc) (.sl (x.length+1) ((x.map aB)++[(aB num)])) [Aa,Ab] n102 Gr ([]:Lqb) T104)(h6:cW [(aB r6),(aB 0),(aB ((kF dl sk dc r6 x).1))] [(0,3,true),(1,3,true),(2,3,true)]=true∧cW [(aB r6),(aB 0),(aB n102)] [(0,3,true),(1,3,true),(2,3,true)]=true)
include hl0 h1 h2 h3 h4 h5 h6
theorem bMc(h7:(iV [(aB r6),(aB 0),(aB ((kF dl sk dc r6 x).1))] [(aB r6),(aB 0),(aB n102)] [(0,3,true),(1,3,true),(2,3,true)])=false):aC Tp 3 aYi (rfO (sM dl sk dc num r6) 54 11 x) .ret (aNx dl sk dc num r6):=have k1:=mq dz 13 h5;aC.fi (gZ [0,102]) [hl0.k 2 (gZ br),.x (PV.rp (aZ dl (aA sk) (aA dc)) 0),.x (PV.rp (aZ dl (aA sk) (aA dc)) 0),.x (.sl ((aA sk).length) ((aA sk).flatten.map aB)),.x (aB (bJ (fun x=>decide (r6=x)) (aP (aA sk) 0))),.x (.agg [(aB Aa),(aB Ab)]),.x (PV.rp (aZ dl (aA sk) (aA dc)) 0),.x (aB num),.c (.agg (kVL 9 10 5 7 11 6)) [(4,.dead),(5,(Gp dl (aA sk) (aA dc))),(6,(.box 33 [(.p (.sl (x.length+1) ((x.map aB)++[(aB num)])))])),(7,(.box 139 (kVL 9 10 5 7 11 6))),(8,(.mp (aQ ([]:Lqb)) 0)),(9,(.box 207 [(.mp 8)])),(10,(Gq dl (aA sk) (aA dc))),(11,(.box 209 [(.fn 153 [] [(.ptr 5 0),(.ptr 7 0)])]))],k1.o,.x (aB r6),.x (aB r6),bT,bT,bT,bT] (Au (bN h7) (gc h6 (gr (aB r6) (gr (aB r6) (gc k1 (gt (FC Tp 87 [(.rp (aZ dl (aA sk) (aA dc)) 0),(.own 4)] [(4,(.row 3 (x.length+1) ((x.map aB)++[(aB num)])))] 5 (.agg (kVL 9 10 5 7 11 6)) [(4,.dead),(5,(Gp dl (aA sk) (aA dc))),(6,(.box 33 [(.p (.sl (x.length+1) ((x.map aB)++[(aB num)])))])),(7,(.box 139 (kVL 9 10 5 7 11 6))),(8,(.mp (aQ ([]:Lqb)) 0)),(9,(.box 207 [(.mp 8)])),(10,(Gq dl (aA sk) (aA dc))),(11,(.box 209 [(.fn 153 [] [(.ptr 5 0),(.ptr 7 0)])]))]) (FC.close1 (A1:=[(.rp (aZ dl (aA sk) (aA dc)) 0),(.p (.sl (x.length+1) ((x.map aB)++[(aB num)])))]) (FMM.fcN (k:=7) rfl (ids:=[]) (sK (dl:=dl) (sk:=(aA sk)) (dc:=(aA dc)) (on:=(x.length+1)) (ol:=((x.map aB)++[(aB num)]))) (by kernel_rfl)) (by kernel_rfl)) (gc h4 (gr (aB num) (gr (PV.rp (aZ dl (aA sk) (aA dc)) 0) (gfz h3 h2 h1 (gr (aB (bJ (fun x=>decide (r6=x)) (aP (aA sk) 0))) (gr (.sl ((aA sk).length) ((aA sk).flatten.map aB)) (gr (PV.rp (aZ dl (aA sk) (aA dc)) 0) (gr (PV.rp (aZ dl (aA sk) (aA dc)) 0) (gc hl0 gn)))))))))))))))
theorem bMd(h7:(iV [(aB r6),(aB 0),(aB ((kF dl sk dc r6 x).1))] [(aB r6),(aB 0),(aB n102)] [(0,3,true),(1,3,true),(2,3,true)])=true)(h8:(((kF dl sk dc r6 x).2) == Gr)=false):aC Tp 3 aYi (rfO (sM dl sk dc num r6) 54 11 x) .ret (aNx dl sk dc num r6):=have k1:=mq dz 13 h5;aC.fi (gZ [0,102]) [hl0.k 2 (gZ br),.x (PV.rp (aZ dl (aA sk) (aA dc)) 0),.x (PV.rp (aZ dl (aA sk) (aA dc)) 0),.x (.sl ((aA sk).length) ((aA sk).flatten.map aB)),.x (aB (bJ (fun x=>decide (r6=x)) (aP (aA sk) 0))),.x (.agg [(aB Aa),(aB Ab)]),.x (PV.rp (aZ dl (aA sk) (aA dc)) 0),.x (aB num),.c (.agg (kVL 9 10 5 7 11 6)) [(4,.dead),(5,(Gp dl (aA sk) (aA dc))),(6,(.box 33 [(.p (.sl (x.length+1) ((x.map aB)++[(aB num)])))])),(7,(.box 139 (kVL 9 10 5 7 11 6))),(8,(.mp (aQ ([]:Lqb)) 0)),(9,(.box 207 [(.mp 8)])),(10,(Gq dl (aA sk) (aA dc))),(11,(.box 209 [(.fn 153 [] [(.ptr 5 0),(.ptr 7 0)])]))],k1.o,.x (aB r6),.x (aB r6),bF,bF,bF,bF,bT] (gc (bN h8) (Au (aR h7) (gc h6 (gr (aB r6) (gr (aB r6) (gc k1 (gt (FC Tp 87 [(.rp (aZ dl (aA sk) (aA dc)) 0),(.own 4)] [(4,(.row 3 (x.length+1) ((x.map aB)++[(aB num)])))] 5 (.agg (kVL 9 10 5 7 11 6)) [(4,.dead),(5,(Gp dl (aA sk) (aA dc))),(6,(.box 33 [(.p (.sl (x.length+1) ((x.map aB)++[(aB num)])))])),(7,(.box 139 (kVL 9 10 5 7 11 6))),(8,(.mp (aQ ([]:Lqb)) 0)),(9,(.box 207 [(.mp 8)])),(10,(Gq dl (aA sk) (aA dc))),(11,(.box 209 [(.fn 153 [] [(.ptr 5 0),(.ptr 7 0)])]))]) (FC.close1 (A1:=[(.rp (aZ dl (aA sk) (aA dc)) 0),(.p (.sl (x.length+1) ((x.map aB)++[(aB num)])))]) (FMM.fcN (k:=7) rfl (ids:=[]) (sK (dl:=dl) (sk:=(aA sk)) (dc:=(aA dc)) (on:=(x.length+1)) (ol:=((x.map aB)++[(aB num)]))) (by kernel_rfl)) (by kernel_rfl)) (gc h4 (gr (aB num) (gr (PV.rp (aZ dl (aA sk) (aA dc)) 0) (gfz h3 h2 h1 (gr (aB (bJ (fun x=>decide (r6=x)) (aP (aA sk) 0))) (gr (.sl ((aA sk).length) ((aA sk).flatten.map aB)) (gr (PV.rp (aZ dl (aA sk) (aA dc)) 0) (gr (PV.rp (aZ dl (aA sk) (aA dc)) 0) (gc hl0 gn))))))))))))))))
end
def aYk(dl:Int)(sk dc:Lqq)(num r6:Int):St:=⟨fr 102 [(3,(.rp [(aB num)] 0)),(4,(.ptr 0 0)),(5,(.ptr 1 0)),(6,(.rp [(PV.rp (aZ dl (aA sk) (aA dc)) 0)] 0)),(9,(.rp [(aB r6)] 0)),(10,(.rp [(aB (bJ (fun x=>decide (r6=x)) (aP (aA sk) 0)))] 0)),(53,(.fn 182 [] [(.rp [(aF ((aJ dl (aA dc)).filter fun n => !(n == num)))] 0)]))],[some (.box 4 [(pB false)]),some (.box 34 [(pI 0)]),some .dead]⟩
theorem bMe(hl0:aC Tp 3 aYh (uR dl sk dc num r6 x) .normal (bQ (uR dl sk dc num r6 x) [(12,(pI ((kF dl sk dc r6 x).1))),(13,(pB ((kF dl sk dc r6 x).2)))]))(h1:(aA sk)[(bJ (fun x=>decide (r6=x)) (aP (aA sk) 0)).toNat]? = some [Aa,Ab])(h2:0≤(bJ (fun x=>decide (r6=x)) (aP (aA sk) 0)))(h3:uni 2 (aA sk))(h4:[(aB num)].length=1*1∧x.length+1≤1000000)(h5:aIi dl (aA sk) (aA dc) (.sl (x.length+1) ((x.map aB)++[(aB num)])) [Aa,Ab] n102 Gr ([]:Lqb) T104)(h6:cW [(aB r6),(aB 0),(aB ((kF dl sk dc r6 x).1))] [(0,3,true),(1,3,true),(2,3,true)]=true∧cW [(aB r6),(aB 0),(aB n102)] [(0,3,true),(1,3,true),(2,3,true)]=true)(h7:(iV [(aB r6),(aB 0),(aB ((kF dl sk dc r6 x).1))] [(aB r6),(aB 0),(aB n102)] [(0,3,true),(1,3,true),(2,3,true)])=true)(h8:(((kF dl sk dc r6 x).2) == Gr)=true):aC Tp 3 aYi (rfO (sM dl sk dc num r6) 54 11 x) .normal (aYk dl sk dc num r6):=have k1:=mq dz 13 h5;aC.fi (gZ cu) ([hl0.k 2 (gZ br),.x (PV.rp (aZ dl (aA sk) (aA dc)) 0),.x (PV.rp (aZ dl (aA sk) (aA dc)) 0),.x (.sl ((aA sk).length) ((aA sk).flatten.map aB)),.x (aB (bJ (fun x=>decide (r6=x)) (aP (aA sk) 0))),.x (.agg [(aB Aa),(aB Ab)]),.x (PV.rp (aZ dl (aA sk) (aA dc)) 0),.x (aB num),.c (.agg (kVL 9 10 5 7 11 6)) [(4,.dead),(5,(Gp dl (aA sk) (aA dc))),(6,(.box 33 [(.p (.sl (x.length+1) ((x.map aB)++[(aB num)])))])),(7,(.box 139 (kVL 9 10 5 7 11 6))),(8,(.mp (aQ ([]:Lqb)) 0)),(9,(.box 207 [(.mp 8)])),(10,(Gq dl (aA sk) (aA dc))),(11,(.box 209 [(.fn 153 [] [(.ptr 5 0),(.ptr 7 0)])]))],k1.o,.x (aB r6),.x (aB r6)]++rF 5) (gc (aR h8) (Au (aR h7) (gc h6 (gr (aB r6) (gr (aB r6) (gc k1 (gt (FC Tp 87 [(.rp (aZ dl (aA sk) (aA dc)) 0),(.own 4)] [(4,(.row 3 (x.length+1) ((x.map aB)++[(aB num)])))] 5 (.agg (kVL 9 10 5 7 11 6)) [(4,.dead),(5,(Gp dl (aA sk) (aA dc))),(6,(.box 33 [(.p (.sl (x.length+1) ((x.map aB)++[(aB num)])))])),(7,(.box 139 (kVL 9 10 5 7 11 6))),(8,(.mp (aQ ([]:Lqb)) 0)),(9,(.box 207 [(.mp 8)])),(10,(Gq dl (aA sk) (aA dc))),(11,(.box 209 [(.fn 153 [] [(.ptr 5 0),(.ptr 7 0)])]))]) (FC.close1 (A1:=[(.rp (aZ dl (aA sk) (aA dc)) 0),(.p (.sl (x.length+1) ((x.map aB)++[(aB num)])))]) (FMM.fcN (k:=7) rfl (ids:=[]) (sK (dl:=dl) (sk:=(aA sk)) (dc:=(aA dc)) (on:=(x.length+1)) (ol:=((x.map aB)++[(aB num)]))) (by kernel_rfl)) (by kernel_rfl)) (gc h4 (gr (aB num) (gr (PV.rp (aZ dl (aA sk) (aA dc)) 0) (gfz h3 h2 h1 (gr (aB (bJ (fun x=>decide (r6=x)) (aP (aA sk) 0))) (gr (.sl ((aA sk).length) ((aA sk).flatten.map aB)) (gr (PV.rp (aZ dl (aA sk) (aA dc)) 0) (gr (PV.rp (aZ dl (aA sk) (aA dc)) 0) (gc hl0 gn))))))))))))))))
end
section

end
section
variable {Mg Mh Fe Mi:Bool}{Mj Mk Ml:Int}{o:List Int}{i i':Nat}
variable {dl:Int}{sk dc:Lqq}

noncomputable abbrev aNc:Code:=sub (cd Tryz.f37) [1,1,1,0,1,0,0]
theorem bXn(hd:bP dc){base:Nat}:FV Tp 75 [.p (.agg (bC dl sk dc)),.p cC] base (.own base) [(base,.row 121 ((bL dl [] dc).map (cX dl)).length ((((bL dl [] dc).map (cX dl)).map rsE).flatten))]:=FV.argwk (A1:=[.p (.agg (bC dl sk dc)),.p (aF [])]) (aVy (sk:=sk) (q:=[]) hd (by simp)) (by kernel_rfl)
def pW(dl:Int)(sk dc:Lqq)(on:Nat)(oc:List PV)(i:Nat):St:=⟨fr 29 [(1,(.ptr 0 0)),(2,(.p cC)),(3,(.own 1)),(4,(.own 2)),(5,(pI (i:Int)))],[some (.box 61 [(pI dl),(.p (fS sk)),(.p (fS dc))]),some (.row 121 (((bL dl [] dc).map (cX dl)).length) ((((bL dl [] dc).map (cX dl)).map rsE).flatten)),some (.row 3 on oc)]⟩
theorem cEz{B9:List Int}{E0:Nat}(h0:bP dc)(hl1:aD Tp 0 aNc (pW dl sk dc 0 [] 0) (.exit 0) (pW dl sk dc B9.length (B9.map aB) E0)){base:Nat}:FV Tp 37 [(.p (.agg (bC dl sk dc)))] base (.p (aF B9)) []:=have k1:=fk 1 (bXn (dl:=dl) (sk:=sk) (dc:=dc) h0) rfl;FV.frz (FMM.fi 0 ⟨[],[],[2],[]⟩ func37 [k1.o,hl1.k 6 (gN [0,1,6,22] [0,1,2] [(4,3)])] (gc hl1.code (gc k1 gn))) (by kernel_rfl)
section
variable(h0:(i:Int)<(((bL dl [] dc).map (cX dl)).length:Int))(h1:0≤(i:Int)∧(i:Int)<(((bL dl [] dc).map (cX dl)).length:Int))(h2:((bL dl [] dc).map (cX dl))[i]? = some (Mh,Mg,Fe,Mi,Ml,Mj,Mk))
include h0 h1 h2
theorem bHg{Eu Gi Gj Gk Gl S9:Int}{o':List Int}(h3:Fe=true)(h4:dc[i]? = some [Eu,Gi,Gj,Gk,Gl,S9])(h5:uni 6 dc)(h6:[(aB Eu)].length=1*1∧o.length+1≤1000000)(h7:gk i)(Bq:o'.length=(o.length+1))(Br:o'.map aB=((o.map aB)++[(aB Eu)]))(Ai:i'=(i+1)):aC Tp 0 aNc (pW dl sk dc o.length (o.map aB) i) .normal (pW dl sk dc o'.length (o'.map aB) i'):=by
 subst Ai;rw [Bq,Br];exact aC.fi (gI [0,1,6,22] [0,1,4]) [bT,.x (blP Fe),bT,.x (aB Eu)] (gc h7 (gc h6 (gt ((dc.flatten.map aB)[(i*6)]? = some (aB Eu)) (bE (i:=i) (f:=0) h5 h4 rfl) (gc (gJ (k:=6) (i:=(i:Int)) (by decide) h5 (Bp _) h4) (gc h3 (gt (((((bL dl [] dc).map (cX dl)).map rsE).flatten)[((i*7)+2)]? = some (blP Fe)) (bA (E:=rsE) (i:=i) (f:=2) (k:=7) (fun _=>rfl) h2 rfl) (gc h1 (g0 h0))))))))
theorem bHh(h3:Fe=false)(h4:gk i)(Ai:i'=(i+1)):aC Tp 0 aNc (pW dl sk dc o.length (o.map aB) i) .normal (pW dl sk dc o.length (o.map aB) i'):=by
 subst Ai;exact aC.fi (gI [0,1,6,22] [0,1,2]) [bT,.x (blP Fe),bF] (gc h4 (gc h3 (gt (((((bL dl [] dc).map (cX dl)).map rsE).flatten)[((i*7)+2)]? = some (blP Fe)) (bA (E:=rsE) (i:=i) (f:=2) (k:=7) (fun _=>rfl) h2 rfl) (gc h1 (g0 h0)))))
end
theorem bHi(h0:(((bL dl [] dc).map (cX dl)).length:Int)≤(i:Int)):aC Tp 0 aNc (pW dl sk dc o.length (o.map aB) i) (.exit 0) (pW dl sk dc o.length (o.map aB) i):=aC.fi (gI [0,1,6,22] [0,1,2]) [bF] (gc (aK h0) gn)
end
section
section
variable {dl:Int} {sk dc:Lqq}
theorem bRr{oc:List Int}(hd:bP dc){i:Nat}{x:List Int}(h:dc[i]? = some x):∃ s,(bL dl oc dc)[i]? = some s∧s.x=x∧stF dl oc dc x=s:=by
 have hi:=(Ca.1 h).1;have Ct:i<(bL dl oc dc).length:=by rw [jW];exact hi
 refine ⟨_,Ay Ct,?_,?_⟩
 ·have:=congrArg (fun l=>l[i]?) (pY dl oc dc)
  simp only [fV,Ay Ct,h] at this
  exact Option.some.inj this
 ·have hx:(bL dl oc dc)[i].x=x:=by
   have:=congrArg (fun l=>l[i]?) (pY dl oc dc)
   simp only [fV,Ay Ct,h] at this
   exact Option.some.inj this
  have:=aKt hd (fP Ct)
  rwa [hx] at this
theorem cEy(hd:bP dc){i:Nat}{x:List Int}(h:dc[i]? = some x):∃ up by_ fr,((bL dl [] dc).map (cX dl))[i]? = some (iI dl x,dP dl [] dc x,kM dl dc x,up,jV dl [] dc x,by_,fr):=by
 obtain ⟨s,h1,h2,h3⟩:=bRr (dl:=dl) (oc:=[]) hd h;refine ⟨s.upd,(s.rul.map dN).getD 0,(s.chg.map dN).getD 0,?_⟩;rw [fV,h1];show some (cX dl s)=_;have e1:dP dl [] dc x=s.cnt:=by unfold dP;rw [h3]
 have e2:kM dl dc x=(fA (dK x) && (s.cnt && s.rul.isNone)):=by unfold kM dP wE;rw [h3]
 have e3:jV dl [] dc x=s.much:=by unfold jV;rw [h3]
 rw [e1,e2,e3];unfold cX;rw [h2]
theorem bRs(hd:bP dc){base:Nat}:FV Tp 37 [.p (.agg (bC dl sk dc))] base (.p (aF (aJ dl dc))) []:=by
 have hlen:=hd.len;have hll:((bL dl [] dc).map (cX dl)).length=dc.length:=by rw [Co,jW]
 have:=aD.range (P:=Tp) (k:=0) (b:=sub (cd Tryz.f37) ey) (e := .exit 0) (fun i (o:List Int)=>pW dl sk dc o.length (o.map aB) i) (fun o=>pW dl sk dc o.length (o.map aB) dc.length) (fun o x=>if kM dl dc x then o++[dN x] else o) (fun i o=>o.length≤i) (by simp) dc (a0:=[]) (by simp)
  (fun i x o hx ho=>by
   have hi:=aM hx;obtain ⟨up,b,fr,hr⟩:=cEy (dl:=dl) hd hx;obtain ⟨y0,y1,y2,y3,y4,y5,rfl⟩:=A7 (hd.ud x (Bl hx));cases hb:kM dl dc [y0,y1,y2,y3,y4,y5] with
   | true =>
    rw [hb] at hr
    refine ⟨by simp;omega,?_⟩
    simp only [if_true];exact bHg (by rw [hll];omega) ⟨by omega,by rw [hll];omega⟩ hr rfl hx hd.ud ⟨rfl,by omega⟩ (aI (by omega)) (by simp) (by simp) rfl
   | false =>
    rw [hb] at hr
    refine ⟨by simp;omega,?_⟩
    simp only [Bool.false_eq_true,if_false];exact bHh (by rw [hll];omega) ⟨by omega,by rw [hll];omega⟩ hr rfl (aI (by omega)) rfl)
  (fun o _=>bHi (by rw [hll];omega))
 have e:∀ (l:Lqq) (o:List Int),l.foldl (fun o x=>if kM dl dc x then o++[dN x] else o) o=o++(l.filter (kM dl dc)).map dN:=by
  intro l
  induction l with
  | nil=>intro o;simp
  | cons a l ih =>
   intro o;rw [kO,ih];cases h:kM dl dc a with
   | true=>simp [List.filter_cons,h]
   | false=>simp [List.filter_cons,h]
 rw [e,List.nil_append] at this
 exact cEz hd this
end
end
section
variable {ot K7 Bn E9 Fa Df:Bool}{tm y1 y2 z0 bib Mf K8 Aa Ab Ac Ad Ae Af Fb Fc B4:Int}{a b o:Lqq}{q:List Int}{i i' Bm Rk base:Nat}
variable {dl:Int}{sk dc:Lqq}

noncomputable abbrev nC:Code:=sub (cd Tryz.f66) [1,1,1,1,0,1,0,0]
noncomputable abbrev aGb:Code:=sub (cd Tryz.f63) [1,0,1,0,0]
noncomputable abbrev aVq:Code:=sub (cd Tryz.f43) [1,1,0,1,0,0]
def dX(dl:Int)(sk dc:Lqq)(bib:Int)(q:List Int)(tm:Int)(ot:Bool)(i:Nat):St:=⟨fr 98 [(1,(pI bib)),(3,(.ptr 0 0)),(6,(pI 0)),(7,(.kb false)),(8,(.own 1)),(9,(pI tm)),(10,(pB ot)),(11,(pI (i:Int)))],[some (.box 61 [(pI dl),(.p (fS sk)),(.p (fS dc))]),some (.row 121 (((bL dl q dc).map (cX dl)).length) ((((bL dl q dc).map (cX dl)).map rsE).flatten))]⟩
section
variable(h0:bP dc)(h1:q.length≤1000)(h2:uni 2 sk)(h3:sk.length≤1000)(h4:bJ (fun x=>decide (x.getD 0 0=bib)) sk=z0)(h5:sk[z0.toNat]? = some [y1,y2])(h6:0≤z0)(Em:aD Tp 0 nC (dX dl sk dc bib q y2 (decide (y2<0)) 0) (.exit 0) (dX dl sk dc bib q K8 K7 Rk))
include h0 h1 h2 h3 h4 h5 h6 Em
theorem cEu(h8:K7=true):FV Tp 66 [(.p (.agg (bC dl sk dc))),(pI bib),(.p (aF q))] base (.tup [(pI 0),(pB true)]) []:=have k1:=fk 1 (aVy (dl:=dl) (sk:=sk) (dc:=dc) (q:=q) h0 h1) rfl;FV.fi func66 [k1.o,.c (pI z0) [],.x (aB y2),Em.k 6 (gI dt [0,1]),bT] (gc h8 (gc Em.code (gt ((sk.flatten.map aB)[((z0.toNat*2)+1)]? = some (aB y2)) (bE (i:=z0.toNat) (f:=1) h2 h5 rfl) (gc (gJ (k:=2) (i:=z0) (by decide) h2 h6 h5) (gc (fk 2 (aNe dl sk dc bib h2 h3 h4) rfl) (gc k1 gn))))))
theorem cEv{r0:Int}(h8:K7=false)(A6:r0=(if K8 > 0 then K8 else 0)):FV Tp 66 [(.p (.agg (bC dl sk dc))),(pI bib),(.p (aF q))] base (.tup [(pI r0),(pB false)]) []:=by
 subst A6;have k1:=fk 1 (aVy (dl:=dl) (sk:=sk) (dc:=dc) (q:=q) h0 h1) rfl;exact FV.fi func66 [k1.o,.c (pI z0) [],.x (aB y2),Em.k 6 (gI dt [0,1]),bF] (gc h8 (gc Em.code (gt ((sk.flatten.map aB)[((z0.toNat*2)+1)]? = some (aB y2)) (bE (i:=z0.toNat) (f:=1) h2 h5 rfl) (gc (gJ (k:=2) (i:=z0) (by decide) h2 h6 h5) (gc (fk 2 (aNe dl sk dc bib h2 h3 h4) rfl) (gc k1 gn))))))
end
theorem bHa(h0:(i:Int)<(((bL dl q dc).map (cX dl)).length:Int))(h1:dc[i]? = some [Aa,Ab,Ac,Ad,Ae,Af])(h2:uni 6 dc)(h3:Ad≠bib)(h4:gk i)(Ai:i'=(i+1)):aC Tp 0 nC (dX dl sk dc bib q tm ot i) .normal (dX dl sk dc bib q tm ot i'):=by
 subst Ai;exact aC.fi (gI dt [0,1]) ([bT,.x (dcE Aa Ab Ac Ad Ae Af)]++rT 7) (gc h4 (Ja (fH h3) (gfl h2 h1 (g0 h0))))
section
variable(h0:(i:Int)<(((bL dl q dc).map (cX dl)).length:Int))(h1:dc[i]? = some [Aa,Ab,Ac,Ad,Ae,Af])(h2:uni 6 dc)(h3:Ad=bib)(h4:0≤(i:Int)∧(i:Int)<(((bL dl q dc).map (cX dl)).length:Int))(h5:((bL dl q dc).map (cX dl))[i]? = some (E9,Bn,Fa,Df,B4,Fb,Fc))
include h0 h1 h2 h3 h4 h5
theorem bHb(h6:Bn=false)(h7:gk i)(Ai:i'=(i+1)):aC Tp 0 nC (dX dl sk dc bib q tm ot i) .normal (dX dl sk dc bib q tm ot i'):=by
 subst Ai;exact aC.fi (gI dt [0,1]) ([bT,.x (dcE Aa Ab Ac Ad Ae Af)]++rF 5++[.x (blP Bn),bF,bF,bT]) (gc h7 (gc (bN h6) (Aq (bG h3) (gt (((((bL dl q dc).map (cX dl)).map rsE).flatten)[((i*7)+1)]? = some (blP Bn)) (bA (E:=rsE) (i:=i) (f:=1) (k:=7) (fun _=>rfl) h5 rfl) (Aq (bG h3) (gc h4 (Ak (bG h3) (gfl h2 h1 (g0 h0)))))))))
theorem bHc(h6:Bn=true)(h7:Ab=0)(h8:inR (tm+B4))(h9:Ab≠1)(A8:Ab≠2)(Be:Ab≠3)(Bo:gk i)(Ir:Mf=(tm+B4))(Ai:i'=(i+1)):aC Tp 0 nC (dX dl sk dc bib q tm ot i) .normal (dX dl sk dc bib q Mf ot i'):=by
 subst Ir Ai;exact aC.fi (gI dt [0,1]) ([bT,.x (dcE Aa Ab Ac Ad Ae Af)]++rF 5++[.x (blP Bn),bF,bF,bF]++rT 6++[.x (aB B4),bF,bF,bF]) (gc Bo (gc (aS Be) (gc (aS A8) (gc (aS h9) (gc h8 (gt (((((bL dl q dc).map (cX dl)).map rsE).flatten)[((i*7)+4)]? = some (aB B4)) (bA (E:=rsE) (i:=i) (f:=4) (k:=7) (fun _=>rfl) h5 rfl) (gc h4 (Gf (bX h7) (gc (aR h6) (Aq (bG h3) (gt (((((bL dl q dc).map (cX dl)).map rsE).flatten)[((i*7)+1)]? = some (blP Bn)) (bA (E:=rsE) (i:=i) (f:=1) (k:=7) (fun _=>rfl) h5 rfl) (Aq (bG h3) (gc h4 (Ak (bG h3) (gfl h2 h1 (g0 h0))))))))))))))))
theorem aVr(h6:Bn=true)(h7:Ab≠0)(h8:Ab=4)(h9:Df=true)(A8:inR (tm+B4))(Be:Ab≠1)(Bo:Ab≠2)(Cl:Ab≠3)(Ec:gk i)(Ir:Mf=(tm+B4))(Ai:i'=(i+1)):aC Tp 0 nC (dX dl sk dc bib q tm ot i) .normal (dX dl sk dc bib q Mf ot i'):=by
 subst Ir Ai;exact aC.fi (gI dt [0,1]) ([bT,.x (dcE Aa Ab Ac Ad Ae Af)]++rF 5++[.x (blP Bn)]++rF 7++rT 5++[.x (blP Df),bF,bT,bF,bT,.x (aB B4),bF,bF,bF]) (gc Ec (gc (aS Cl) (gc (aS Bo) (gc (aS Be) (gc A8 (gt (((((bL dl q dc).map (cX dl)).map rsE).flatten)[((i*7)+4)]? = some (aB B4)) (bA (E:=rsE) (i:=i) (f:=4) (k:=7) (fun _=>rfl) h5 rfl) (gc h4 (gc h9 (gc (aS h7) (gc (bX h8) (gc (aS h7) (gt (((((bL dl q dc).map (cX dl)).map rsE).flatten)[((i*7)+3)]? = some (blP Df)) (bA (E:=rsE) (i:=i) (f:=3) (k:=7) (fun _=>rfl) h5 rfl) (Aq (bX h8) (gc h4 (Ak (bX h8) (Au (aS h7) (gc (aR h6) (Aq (bG h3) (gt (((((bL dl q dc).map (cX dl)).map rsE).flatten)[((i*7)+1)]? = some (blP Bn)) (bA (E:=rsE) (i:=i) (f:=1) (k:=7) (fun _=>rfl) h5 rfl) (Aq (bG h3) (gc h4 (Ak (bG h3) (gfl h2 h1 (g0 h0))))))))))))))))))))))))
theorem aVs(h6:Bn=true)(h7:Ab≠0)(h8:Ab=4)(h9:Df=false)(A8:Ab≠1)(Be:Ab≠2)(Bo:Ab≠3)(Cl:gk i)(Ai:i'=(i+1)):aC Tp 0 nC (dX dl sk dc bib q tm ot i) .normal (dX dl sk dc bib q tm ot i'):=by
 subst Ai;exact aC.fi (gI dt [0,1]) ([bT,.x (dcE Aa Ab Ac Ad Ae Af)]++rF 5++[.x (blP Bn)]++rF 7++rT 5++[.x (blP Df),bF,bT]++rF 5) (gc Cl (gc (aS Bo) (gc (aS Be) (gc (aS A8) (gc h9 (gc (aS h7) (gc (bX h8) (gc (aS h7) (gt (((((bL dl q dc).map (cX dl)).map rsE).flatten)[((i*7)+3)]? = some (blP Df)) (bA (E:=rsE) (i:=i) (f:=3) (k:=7) (fun _=>rfl) h5 rfl) (Aq (bX h8) (gc h4 (Ak (bX h8) (Au (aS h7) (gc (aR h6) (Aq (bG h3) (gt (((((bL dl q dc).map (cX dl)).map rsE).flatten)[((i*7)+1)]? = some (blP Bn)) (bA (E:=rsE) (i:=i) (f:=1) (k:=7) (fun _=>rfl) h5 rfl) (Aq (bG h3) (gc h4 (Ak (bG h3) (gfl h2 h1 (g0 h0)))))))))))))))))))))
theorem aVt(h6:Bn=true)(h7:Ab≠0)(h8:Ab≠4)(h9:Ab=1)(A8:inR (tm-B4))(Be:Ab≠2)(Bo:Ab≠3)(Cl:gk i)(Ir:Mf=(tm-B4))(Ai:i'=(i+1)):aC Tp 0 nC (dX dl sk dc bib q tm ot i) .normal (dX dl sk dc bib q Mf ot i'):=by
 subst Ir Ai;exact aC.fi (gI dt [0,1]) ([bT,.x (dcE Aa Ab Ac Ad Ae Af)]++rF 5++[.x (blP Bn)]++rF 15++[bT,.x (aB B4),bF,bF]) (gc Cl (gc (aS Bo) (gc (aS Be) (gc A8 (gt (((((bL dl q dc).map (cX dl)).map rsE).flatten)[((i*7)+4)]? = some (aB B4)) (bA (E:=rsE) (i:=i) (f:=4) (k:=7) (fun _=>rfl) h5 rfl) (gc h4 (gc (bX h9) (gc (aS h7) (gc (aS h8) (gc (aS h7) (B0 (aS h8) (Au (aS h7) (gc (aR h6) (Aq (bG h3) (gt (((((bL dl q dc).map (cX dl)).map rsE).flatten)[((i*7)+1)]? = some (blP Bn)) (bA (E:=rsE) (i:=i) (f:=1) (k:=7) (fun _=>rfl) h5 rfl) (Aq (bG h3) (gc h4 (Ak (bG h3) (gfl h2 h1 (g0 h0))))))))))))))))))))
theorem aVu(h6:Bn=true)(h7:Ab≠0)(h8:Ab≠4)(h9:Ab≠1)(A8:Ab=2)(Be:inR ((1200:Int)*B4))(Bo:inR (tm+((1200:Int)*B4)))(Cl:Ab≠3)(Ec:gk i)(Ir:Mf=(tm+((1200:Int)*B4)))(Ai:i'=(i+1)):aC Tp 0 nC (dX dl sk dc bib q tm ot i) .normal (dX dl sk dc bib q Mf ot i'):=by
 subst Ir Ai;exact aC.fi (gI dt [0,1]) ([bT,.x (dcE Aa Ab Ac Ad Ae Af)]++rF 5++[.x (blP Bn)]++rF 16++[bT,.x (aB B4),bF]) (gc Ec (gc (aS Cl) (gc Bo (gc Be (gt (((((bL dl q dc).map (cX dl)).map rsE).flatten)[((i*7)+4)]? = some (aB B4)) (bA (E:=rsE) (i:=i) (f:=4) (k:=7) (fun _=>rfl) h5 rfl) (gc h4 (gc (bX A8) (gc (aS h9) (gc (aS h7) (gc (aS h8) (gc (aS h7) (B0 (aS h8) (Au (aS h7) (gc (aR h6) (Aq (bG h3) (gt (((((bL dl q dc).map (cX dl)).map rsE).flatten)[((i*7)+1)]? = some (blP Bn)) (bA (E:=rsE) (i:=i) (f:=1) (k:=7) (fun _=>rfl) h5 rfl) (Aq (bG h3) (gc h4 (Ak (bG h3) (gfl h2 h1 (g0 h0)))))))))))))))))))))
theorem aVv(h6:Bn=true)(h7:Ab≠0)(h8:Ab≠4)(h9:Ab≠1)(A8:Ab≠2)(Be:Ab=3)(Bo:gk i)(Ai:i'=(i+1)):aC Tp 0 nC (dX dl sk dc bib q tm ot i) .normal (dX dl sk dc bib q tm true i'):=by
 subst Ai;exact aC.fi (gN dt [0,1] [(10,0)]) ([bT,.x (dcE Aa Ab Ac Ad Ae Af)]++rF 5++[.x (blP Bn)]++rF 17++[bT]) (gc Bo (gc (bX Be) (gc (aS A8) (gc (aS h9) (gc (aS h7) (gc (aS h8) (gc (aS h7) (B0 (aS h8) (Au (aS h7) (gc (aR h6) (Aq (bG h3) (gt (((((bL dl q dc).map (cX dl)).map rsE).flatten)[((i*7)+1)]? = some (blP Bn)) (bA (E:=rsE) (i:=i) (f:=1) (k:=7) (fun _=>rfl) h5 rfl) (Aq (bG h3) (gc h4 (Ak (bG h3) (gfl h2 h1 (g0 h0)))))))))))))))))
theorem aVw(h6:Bn=true)(h7:Ab≠0)(h8:Ab≠4)(h9:Ab≠1)(A8:Ab≠2)(Be:Ab≠3)(Bo:gk i)(Ai:i'=(i+1)):aC Tp 0 nC (dX dl sk dc bib q tm ot i) .normal (dX dl sk dc bib q tm ot i'):=by
 subst Ai;exact aC.fi (gI dt [0,1]) ([bT,.x (dcE Aa Ab Ac Ad Ae Af)]++rF 5++[.x (blP Bn)]++rF 18) (gc Bo (gc (aS Be) (gc (aS A8) (gc (aS h9) (gc (aS h7) (gc (aS h8) (gc (aS h7) (B0 (aS h8) (Au (aS h7) (gc (aR h6) (Aq (bG h3) (gt (((((bL dl q dc).map (cX dl)).map rsE).flatten)[((i*7)+1)]? = some (blP Bn)) (bA (E:=rsE) (i:=i) (f:=1) (k:=7) (fun _=>rfl) h5 rfl) (Aq (bG h3) (gc h4 (Ak (bG h3) (gfl h2 h1 (g0 h0)))))))))))))))))
end
theorem aVx(h0:(((bL dl q dc).map (cX dl)).length:Int)≤(i:Int)):aC Tp 0 nC (dX dl sk dc bib q tm ot i) (.exit 0) (dX dl sk dc bib q tm ot i):=aC.fi (gI dt [0,1]) [bF] (gc (aK h0) gn)
def kB(a b:Lqq)(i:Nat):St:=⟨fr 26 [(0,(.p (fS a))),(1,(.p (fS b))),(5,(pI (i:Int)))],[]⟩
theorem bRq{r0:Bool}(hl0:aD Tp 0 aGb (kB a b 0) (.exit 0) (kB a b Bm))(A6:r0=((a.length:Int) == (b.length:Int))):FV Tp 63 [(.p (fS a)),(.p (fS b))] base (pB r0) []:=by
 subst A6;exact FV.fi func63 [hl0.k 6 (gZ [2,3,6,15])] (gc hl0.code gn)
theorem cEw(hl0:aD Tp 0 aGb (kB a b 0) .ret (bQ (kB a b Bm) [(4,(.kb false))])):FV Tp 63 [(.p (fS a)),(.p (fS b))] base (pB false) []:=FV.fi func63 [hl0.k 6 (gZ [2,3,6,15])] (gc hl0.code gn)
section
variable(h0:(i:Int)<(a.length:Int))(h1:a[i]? = some [Aa,Ab,Ac])(h2:uni 3 a)(h3:b[i]? = some [Ad,Ae,Af])(h4:uni 3 b)(h5:cW [(aB Aa),(aB Ab),(aB Ac)] [(0,3,true),(1,3,true),(2,3,true)]=true∧cW [(aB Ad),(aB Ae),(aB Af)] [(0,3,true),(1,3,true),(2,3,true)]=true)
include h0 h1 h2 h3 h4 h5
theorem bHd(h6:(iV [(aB Aa),(aB Ab),(aB Ac)] [(aB Ad),(aB Ae),(aB Af)] [(0,3,true),(1,3,true),(2,3,true)])=false):aC Tp 0 aGb (kB a b i) .ret (bQ (kB a b i) [(4,(.kb false))]):=aC.fi (gZ [2,2,6,15]) [bT,.x (.agg [(aB Aa),(aB Ab),(aB Ac)]),.x (.agg [(aB Ad),(aB Ae),(aB Af)]),bT] (gc (bN h6) (gc h5 (gfl h4 h3 (gfl h2 h1 (g0 h0)))))
theorem aJw(h6:(iV [(aB Aa),(aB Ab),(aB Ac)] [(aB Ad),(aB Ae),(aB Af)] [(0,3,true),(1,3,true),(2,3,true)])=true)(h7:gk i)(Ai:i'=(i+1)):aC Tp 0 aGb (kB a b i) .normal (kB a b i'):=by
 subst Ai;exact aC.fi (gZ [2,3,6,15]) [bT,.x (.agg [(aB Aa),(aB Ab),(aB Ac)]),.x (.agg [(aB Ad),(aB Ae),(aB Af)]),bF] (gc h7 (gc (aR h6) (gc h5 (gfl h4 h3 (gfl h2 h1 (g0 h0))))))
end
theorem aJx(h0:(a.length:Int)≤(i:Int)):aC Tp 0 aGb (kB a b i) (.exit 0) (kB a b i):=aC.fi (gZ [2,3,6,15]) [bF] (gc (aK h0) gn)
def tZ(a:Lqq)(on:Nat)(oc:List PV)(i:Nat):St:=⟨fr 18 [(2,(.p cC)),(3,(.own 0)),(6,(.p (fS a))),(7,(pI (a.length:Int))),(8,(pI (i:Int)))],[some (.row 76 on oc)]⟩
theorem cEx{B9:Lqq}{E0:Nat}(hl0:aD Tp 0 aVq (tZ a 0 [] 0) (.exit 0) (tZ a B9.length (B9.flatten.map aB) E0)):FV Tp 43 [(.p (fS a))] base (.p (fS B9)) []:=FV.frz (FMM.fi 0 ⟨[],[],[0],[]⟩ func43 [hl0.k 8 (gN [0,2,4,2,9,9] [0] [(3,76)])] (gc hl0.code gn)) (by kernel_rfl)
theorem bHe{o':Lqq}(h0:(i:Int)<(a.length:Int))(h1:a[i]? = some [Aa,Ab,Ac])(h2:uni 3 a)(h3:[(aB Aa),(aB Ab),(aB Ac)].length=1*3∧o.length+1≤1000000)(h4:gk i)(Bq:o'.length=(o.length+1))(Br:o'.flatten.map aB=((o.flatten.map aB)++[(aB Aa),(aB Ab),(aB Ac)]))(Ai:i'=(i+1)):aC Tp 0 aVq (tZ a o.length (o.flatten.map aB) i) .normal (tZ a o'.length (o'.flatten.map aB) i'):=by
 subst Ai;rw [Bq,Br];exact aC.fi (gI [0,2,4,2,9,9] [3]) [bT,.x (.agg [(aB Aa),(aB Ab),(aB Ac)])] (gc h4 (gc h3 (gt ([(aB Aa),(aB Ab),(aB Ac)].length=3) (by first | decide | simp) (gfl h2 h1 (g0 h0)))))
theorem bHf(h0:(a.length:Int)≤(i:Int)):aC Tp 0 aVq (tZ a o.length (o.flatten.map aB) i) (.exit 0) (tZ a o.length (o.flatten.map aB) i):=aC.fi (gI [0,2,4,2,9,9] [0]) [bF] (gc (aK h0) gn)
end
section

end
section
end
section
end
section
end
section
variable {F:Fence} {n:Nat} {P:Program}
theorem aZt{o:Oper}{a:Act}{next F9:Act→World→Prop}{Q Q':Exit→Act→World→Prop}{r:Result Next}(h:o.uponIn F n P a next Q r)
  (hn:∀ v d w',next (({ a with defers:=d }:Act).put o.dst v) w'→F9 (({ a with defers:=d }:Act).put o.dst v) w') (hQ:∀ e a' w',e ≠ .normal→Q e a' w'→Q' e a' w') (hL:LetsOut Q→LetsOut Q'):o.uponIn F n P a F9 Q' r:=by
 have Fx:∀ v w',next (a.put o.dst v) w'→F9 (a.put o.dst v) w':=fun v w'=>hn v a.defers w'
 cases r with
 | halt x w' =>
  cases x <;> first | exact hQ _ _ _ (by simp) h | exact h
 | ok nx w' =>
  cases nx with
  | value v=>exact Fx _ _ h
  | skip=>exact Fx _ _ h
  | defer d=>exact hn _ _ _ h
  | enter f us =>
   refine ⟨h.1,h.2.mono ?_⟩;intro e Il he;cases e with
   | returned v=>exact Fx _ _ he
   | panicked c=>exact hQ _ _ _ (by simp) he
   | outgrown=>exact hL he
  | row r us=>exact ⟨h.1,h.2.mono fun v Il he=>Fx _ _ he⟩
  | round l f tmps Yx bd =>
   refine ⟨h.1,h.2.mono ?_⟩;intro e Il he;cases e with
   | returned v=>exact Fx _ _ he
   | panicked c=>exact hQ _ _ _ (by simp) he
   | outgrown=>exact hL he
  | _=>exact h
def Kps(ops:Array Oper)(a0 a:Act):Prop:=∀ i,(∀ o∈ops.toList,o.dst≠some i)→a.tmps.getD i undef=a0.tmps.getD i undef
theorem bOh{ops:Array Oper}{Q Q':Exit→Act→World→Prop}{i:Nat}{K K':Act→World→Prop}{a0 a:Act}{w:World}(h:wpOpIn F n P ops Q i K a w)(ha:Kps ops a0 a)(hK:∀ a' w',Kps ops a0 a'→K a' w'→K' a' w')
  (hQ:∀ e a' w',e ≠ .normal→Q e a' w'→Q' e a' w') (hL:LetsOut Q→LetsOut Q'):wpOpIn F n P ops Q' i K' a w:=by
 unfold wpOpIn at h ⊢
 split
 ·rename_i hi
  simp only [hi] at h
  exact hK _ _ ha h
 ·rename_i o hi
  simp only [hi] at h
  have hm:o∈ops.toList:=by
   obtain ⟨hl,he⟩:=nR.1 hi;rw [← he];exact Array.mem_toList_iff.2 (Array.getElem_mem hl)
  have hput:∀ v (d:List Deferred),Kps ops a0 (({ a with defers:=d }:Act).put o.dst v):=fun v d i hd=>by
   rw [rI (a:={ a with defers:=d }) (hd o hm)]
   exact ha i hd
  split at h
  ·rename_i hw
   rw [if_pos hw];exact ⟨h.1,aZt h.2 (fun v d w' hn=>hK _ _ (hput v d) hn) hQ hL⟩
  ·rename_i hw
   rw [if_neg hw];exact ⟨h.1,hK _ _ (hput undef a.defers) h.2⟩
theorem aHk{md:Region.Mode}{ops:Array Oper}{Q:Exit→Act→World→Prop}{a0:Act}:∀ (fuel:Nat) (listed:Array Bool) (a:Act) (w:World),wpAnyIn F n P md ops Q fuel listed a w→Kps ops a0 a →
  wpAnyIn F n P md ops (fun e a' w'=>Q e a' w'∧(e = .normal→Kps ops a0 a')) fuel listed a w
 | 0,listed,a,w,h,ha=>⟨h.1,h.2,fun _=>ha⟩
 | fuel+1,listed,a,w,h,ha=>by
  refine ⟨fun h0=>⟨h.1 h0,fun _=>ha⟩,fun j hj => ?_⟩
  exact bOh (h.2 j hj) ha (fun a' w' hk h'=>aHk fuel _ a' w' h' hk) (fun e a' w' hne hq=>⟨hq,fun he=>absurd he hne⟩) (fun ⟨a',w',hq⟩=>⟨a',w',hq,fun he=>by cases he⟩)
end
section
section
variable {F:Fence} {n:Nat} {P:Program}
def bkD(ds:List Deferred)(a:Act):Act:={ a with defers:=a.defers++ds }
theorem aOp(ds:List Deferred)(a:Act)(d:Option Nat)(v:Value):(bkD ds a).put d v=bkD ds (a.put d v):=by cases d <;> rfl
theorem aHj(ds:List Deferred)(a:Act):(bkD ds a).eval=a.eval:=by funext x;cases x <;> rfl
theorem bOf(ds:List Deferred){o:Oper}{a:Act}{next F9:Act→World→Prop}{Q Q':Exit→Act→World→Prop}{r:Result Next}(h:o.uponIn F n P a next Q r)
  (hn:∀ a' w',next a' w'→F9 (bkD ds a') w') (hQ:∀ e a' w',Q e a' w'→Q' e (bkD ds a') w') (hL:LetsOut Q→LetsOut Q'):o.uponIn F n P (bkD ds a) F9 Q' r:=by
 have hv:∀ v w',next (a.put o.dst v) w'→F9 ((bkD ds a).put o.dst v) w':=fun v w' h=>by rw [aOp];exact hn _ _ h
 cases r with
 | halt x w' =>
  cases x <;> first | exact hQ _ _ _ h | exact h
 | ok nx w' =>
  cases nx with
  | value v=>exact hv _ _ h
  | skip=>exact hv _ _ h
  | defer d =>
   have:=hn _ _ h;rw [← aOp] at this
   exact this
  | enter f us =>
   refine ⟨h.1,h.2.mono ?_⟩;intro e Il he;cases e with
   | returned v=>exact hv _ _ he
   | panicked c=>exact hQ _ _ _ he
   | outgrown=>exact hL he
  | row r us=>exact ⟨h.1,h.2.mono fun v Il he=>hv _ _ he⟩
  | round l f tmps Yx bd =>
   refine ⟨h.1,h.2.mono ?_⟩;intro e Il he;cases e with
   | returned v=>exact hv _ _ he
   | panicked c=>exact hQ _ _ _ he
   | outgrown=>exact hL he
  | _=>exact h
theorem cCc(ds:List Deferred){ops:Array Oper}{Q Q':Exit→Act→World→Prop}{i:Nat}{K K':Act→World→Prop}{a:Act}{w:World}(h:wpOpIn F n P ops Q i K a w)(hK:∀ a' w',K a' w'→K' (bkD ds a') w')
  (hQ:∀ e a' w',Q e a' w'→Q' e (bkD ds a') w') (hL:LetsOut Q→LetsOut Q'):wpOpIn F n P ops Q' i K' (bkD ds a) w:=by
 unfold wpOpIn at h ⊢
 split
 ·rename_i hi
  simp only [hi] at h
  exact hK _ _ h
 ·rename_i o hi
  simp only [hi] at h
  have e1:(bkD ds a).tmps=a.tmps:=rfl;rw [e1]
  split at h
  ·rename_i hw
   rw [if_pos hw];refine ⟨by rw [aHj];exact h.1,?_⟩
   rw [aHj];exact bOf ds h.2 hK hQ hL
  ·rename_i hw
   rw [if_neg hw];exact ⟨by rw [aHj];exact h.1,by rw [aOp];exact hK _ _ h.2⟩
theorem aSt(ds:List Deferred){md:Region.Mode}{ops:Array Oper}{Q Q':Exit→Act→World→Prop}(hQ:∀ e a' w',Q e a' w'→Q' e (bkD ds a') w')(hL:LetsOut Q→LetsOut Q'):∀ (fuel:Nat) (listed:Array Bool) (a:Act) (w:World),wpAnyIn F n P md ops Q fuel listed a w→wpAnyIn F n P md ops Q' fuel listed (bkD ds a) w
 | 0,listed,a,w,h=>⟨h.1,hQ _ _ _ h.2⟩
 | fuel+1,listed,a,w,h=>⟨fun h0=>hQ _ _ _ (h.1 h0),fun j hj=>cCc ds (h.2 j hj) (fun a' w' h'=>aSt ds hQ hL fuel _ a' w' h') hQ hL⟩
end
variable {P:Program} {T:TT} {E:Env}
theorem bOg(ds:List Deferred)(hT:∀ t i,T t=some i→cQ P t=some i)(hE:nG P E)(hm:P.follows .mixedOrders=true){id:Nat}{ops:Array Oper}{st Am:St}{s s':AS}(h:aPg P T E ops true st s=some (Am,s'))(g:bD s')
  (C0:Cx) (M0:Mem) (w0:World) (a:Act) (w:World) (hs:Sim P C0 M0 w0 st a w) (ro:Option Nat) (n:Nat):(Code.region id ops true).wpIn (Fen ro) n P (fun e' a' w'=>e'=Ex.normal.toExit∧∃ a2,a'=bkD ds a2∧Sim P C0 M0 w0 Am a2 w'∧Kps ops a a2) (bkD ds a) w:=by
 obtain ⟨_,s1,h1,k1⟩:=aE h;obtain ⟨e1,rfl⟩:=aH h1;obtain ⟨r,s2,h2,k2⟩:=aE k1;obtain ⟨_,s3,h3,k3⟩:=aE k2;obtain ⟨e3,rfl⟩:=aH h3;obtain ⟨rfl,rfl⟩:=aL k3;obtain ⟨hB,_⟩:=bY e1;obtain ⟨hA,_⟩:=bY e3;obtain ⟨os,hfts,hlex⟩:=tE ops.toList _ (fts:=r.1) (fin:=r.2) h2 g
 replace hB:=zY hB
 unfold Region.lexB at hB
 rw [Ce] at hB
 have hlen:os.length=ops.toList.length:=by
  have:∀ {l:List Oper} {id:Nat} {st:St} {os:List yG} {fin:St},aPh P T E ops.toList id l st os fin→os.length=l.length:=by
   intro l
   induction l with
   | nil=>intro id st os fin h;cases h;rfl
   | cons o l ih=>intro id st os fin h;cases h with | cons _ _ _ _ q os _ h hr=>simp [ih hr]
  exact this hlex
 have key:qY P T E ops.toList st.m.length (fun k=>os.getD k (.any,[],none)) r.2 ops.toList.length (Array.replicate ops.size false) st:=by
  refine qY.lex ops.toList 0 _ st os (fun j=>by simp) (fun j q hj=>by simp [B5,hj]) (fun j hj=>absurd hj (aVh _)) (fun j oj hj hl => ?_) (fun i j _ hij hj => ?_) (by simpa using hB.2) (by simpa [ido] using hlex)
  ·exfalso
   rcases Nat.lt_or_ge j ops.size with h' | h'
   ·simp [h'] at hl
   ·simp [Nat.not_lt.2 h'] at hl
  have Ee:j<os.length:=by
   rw [hlen];obtain ⟨o,ho⟩:=Option.isSome_iff_exists.1 hj;exact (Ca.1 ho).1
  have:=oV r.1 0 hA i j (aEj os[i]) (aEj os[j]) hij (by rw [hfts,fV,Ay (by omega)];rfl) (by rw [hfts,fV,Ay Ee];rfl)
  rw [iC,iC] at this
  simp only [B5,Ay Ee,Ay (show i<os.length by omega),Option.getD_some,Array.toArray_toList]
  exact this
 refine wpIn_region_any hm ?_;have:=qY.sound hT hE (C0:=C0) (M0:=M0) (w0:=w0) (ro:=ro) (n:=n) (Q:=fun e' a' w'=>e'=Ex.normal.toExit∧Sim P C0 M0 w0 r.2 a' w') (fun a' w' h'=>⟨rfl,h'⟩) _ _ _ a _ key (hs.drawn (w.drawn+1))
 have h2:=aHk (a0:=a) _ _ _ _ (by simpa using this) (fun _ _=>rfl)
 exact aSt ds (fun e a' w' h=>⟨h.1.1,a',rfl,h.1.2,h.2 h.1.1⟩) (fun ⟨a',w',h⟩=>by cases h.1.1) _ _ _ _ h2

end
section
def uX(P:Program)(k:Nat)(c:Code)(st:St)(e:Ex)(Am:St):Prop:=∀ (C0:Cx) (M0:Mem) (w0:World) (a:Act) (w:World),M0.length≤k→Sim P C0 M0 w0 st a w→∀ (ds:List Deferred) (ro:Option Nat) (n:Nat),c.wpIn (Fen ro) n P (fun e' a' w'=>e'=e.toExit∧∃ a2,a'=bkD ds a2∧Sim P C0 M0 w0 Am a2 w'∧(∀ i,wrR c i=false→a2.tmps.getD i undef=a.tmps.getD i undef)) (bkD ds a) w
noncomputable def bVi(c:Code)(st:St):Ask (Ex × St):=match c with
 | .region _ ops true=>do
  let Am ← aPg Tp tT EO ops true st
  pure (.normal,Am)
 | _=>fail
theorem uX.fin{k:Nat}{c:Code}{st Am:St}{e:Ex}{g:Gh}{o:List OI}{l:List Prop}(h:aDb k g (bVi c st (asg o))=some (e,Am,l,[]))(gd:bD (out l)):uX Tp k c st e Am:=by
 unfold aDb at h
 split at h
 ·rename_i e1 st1 s hr
  split at h
  ·rename_i st2 hg
   simp only [Option.some.injEq,Prod.mk.injEq] at h
   obtain ⟨rfl,rfl,rfl,hs⟩:=h;unfold bVi at hr
   split at hr
   ·rename_i id ops
    obtain ⟨Vu,s1,h1,k1⟩:=aE hr;obtain ⟨he,rfl⟩:=aL k1;cases he;intro C0 M0 w0 a w hk hsm ds ro n;refine wpIn_mono (bOg ds aJt aJs mixed h1 (fun p hp=>gd p hp) C0 M0 w0 a w hsm ro n) ?_
    rintro e' a' w' ⟨rfl,a2,rfl,h',hkp⟩;exact ⟨rfl,a2,rfl,eX hk hg h',fun i hi=>hkp i fun o ho e=>by
     unfold wrR at hi
     have:=List.any_eq_false.1 hi o ho;rw [e] at this
     exact this (Nat.beq_refl i)⟩
   ·cases hr
  ·cases h
 ·cases h
theorem uX.fi{k:Nat}{c:Code}{st Am:St}{e:Ex}(g:Gh)(o:List OI){l:List Prop}(gd:bD (out l))(h:aDb k g (bVi c st (asg o))=some (e,Am,l,[]):=by kernel_rfl):uX Tp k c st e Am:=uX.fin h gd
end
section

theorem cMp{dl:Int}{sk dc:Lqq}{num r6:Int}{x:List Int}{y0 y1 n2:Int}{b3:Bool}{T4:Lqb}(h0:(aA sk)[(bJ (fun x=>decide (r6=x)) (aP (aA sk) 0)).toNat]? = some [y0,y1])(h1:0≤(bJ (fun x=>decide (r6=x)) (aP (aA sk) 0)))(h2:uni 2 (aA sk))(h3:aIi dl (aA sk) (aA dc) (aF x) [y0,y1] n2 b3 ([]:Lqb) T4):uX Tp 0 (sub (cd Tryz.f58) [1,1,1,1,1,1,1,1,1,0,1,0,1,0,0]) ⟨fr 102 [(3,(.rp [(aB num)] 0)),(6,(.rp [(PV.rp (aZ dl (aA sk) (aA dc)) 0)] 0)),(9,(.rp [(aB r6)] 0)),(10,(.rp [(aB (bJ (fun x=>decide (r6=x)) (aP (aA sk) 0)))] 0)),(11,(.p (aF x)))],[]⟩ .normal ⟨fr 102 [(3,(.rp [(aB num)] 0)),(6,(.rp [(PV.rp (aZ dl (aA sk) (aA dc)) 0)] 0)),(9,(.rp [(aB r6)] 0)),(10,(.rp [(aB (bJ (fun x=>decide (r6=x)) (aP (aA sk) 0)))] 0)),(11,(.p (aF x))),(12,(pI n2)),(13,(pB b3))],[]⟩:=have k1:=mN [] 0 (sK (dl:=dl) (sk:=(aA sk)) (dc:=(aA dc)) (on:=x.length) (ol:=(x.map aB)));have k2:=mq fa 8 h3;uX.fi (gZ [0,3,4,2,7,2,14,88]) [.x (PV.rp (aZ dl (aA sk) (aA dc)) 0),.x (PV.rp (aZ dl (aA sk) (aA dc)) 0),.x (.sl ((aA sk).length) ((aA sk).flatten.map aB)),.x (aB (bJ (fun x=>decide (r6=x)) (aP (aA sk) 0))),.x (.agg [(aB y0),(aB y1)]),.x (PV.rp (aZ dl (aA sk) (aA dc)) 0),k1.o,k2.o] (gc k2 (gc k1 (gr (PV.rp (aZ dl (aA sk) (aA dc)) 0) (gfz h2 h1 h0 (gr (aB (bJ (fun x=>decide (r6=x)) (aP (aA sk) 0))) (gr (.sl ((aA sk).length) ((aA sk).flatten.map aB)) (gr (PV.rp (aZ dl (aA sk) (aA dc)) 0) (gr (PV.rp (aZ dl (aA sk) (aA dc)) 0) gn))))))))
end
end KV
end Go.Proofs
section
namespace Go.Proofs
open Go.RowKit
namespace KV
open Tryz
theorem bVg{P:Program}{C:Cx}{st:St}{a:Act}{w:World}(hS:eN C st.m w st.t a.tmps)(hM:aU P C st.m w)(hp:gP st.m=true)(hn:aUe st.m) :
  Sim P (cxF fun _=>False) [] { w with heap := #[] } st { a with defers:=[] } w :=
 ⟨C,hS,hM,⟨rfl,rfl,rfl,Nat.zero_le _,fun b hb=>absurd hb (aVh _),fun _ _ h=>by simp at h,fun _ _ h=>by simp at h,fun _ _ h=>by simp at h,fun _ _ b _ _ _ => .inl (Nat.zero_le _),fun _ h=>h.elim,fun b _ => .inr (.inl (Nat.zero_le _))⟩,.nil rfl hn⟩
theorem bOe{P:Program}{C:Cx}{M:Mem}{W W':World}(hM:aU P C M W)(hg:W.grownBy W' none):aU P C M W'∧Fr C M W C M W':=by
 have hsame:∀ b,b<W.heap.size→W'.heap[b]? = W.heap[b]? := fun b hb=>hg.block b hb (fun e=>by cases e)
 have hL:Le C C M M W W':=⟨fun _ o h=>⟨o,h⟩,fun _ _ _ _ _ cs h=>⟨cs,h⟩,fun _ o h o' h' hl=>by rw [h] at h';cases h';exact ⟨hl,rfl,rfl⟩,fun _ h=>h,fun b hb=>hsame b (hM.Fs b hb)⟩
 refine ⟨⟨fun i ty n cs hm => ?_,fun i ty cs hm => ?_,fun i es cl hm => ?_,hM.inj,hM.nF,fun b hb=>gF (hM.Fs b hb) hg.size,fun i o b ho hl hb=>gF (hM.lt i o b ho hl hb) hg.size⟩,
  ⟨hg.os,hg.tape,hg.output,hg.size,fun b hb _=>hsame b hb,fun i o h=>⟨⟨o,h⟩,rfl,rfl⟩,fun _ _ _ _ _ cs h=>⟨cs,h⟩,fun _ o h o' h' hl=>by rw [h] at h';cases h';exact hl,fun i o b ho hl hb => .inr ⟨i,o,ho,hl,hb⟩,fun _ h=>h,fun _ h => .inl h⟩⟩
 ·rcases hM.row _ _ _ _ hm with h4 | ⟨b,arr,inf,q0,q1,q2,q3,q4,q5,q6,q7,q8⟩
  ·exact .inl h4
  ·exact .inr ⟨b,arr,inf,q0,(hsame b (nR.1 q1).1).trans q1,q2,q3,q4,q5,q6,fun j hj=>(q7 j hj).mono hL.F hL.fz,q8⟩
 ·obtain ⟨b,arr,q0,q1,q2,q3,q4⟩:=hM.box _ _ _ hm
  exact ⟨b,arr,q0,(hsame b (nR.1 q1).1).trans q1,q2,fun j hj=>(q3 j hj).mono hL,q4⟩
 ·obtain ⟨b,arr,q0,q1,q2,q3⟩:=hM.mp _ _ _ hm
  refine ⟨b,arr,q0,(hsame b (nR.1 q1).1).trans q1,q2,fun j hj => ?_⟩
  obtain ⟨en,r1,r2,r3,r4⟩:=q3 j hj;exact ⟨en,r1,r2,r3,r4.mono hL.F hL.fz⟩
def bVh(t:List AV)(i:Nat):Bool:=match t[i]? with
 | some .any=>true
 | _=>false
theorem bCr{C:Cx}{M:Mem}{w:World}{v u:Value}(h:Rep C M w (.p (.v v)) u):u=v:=by
 cases h with
 | p _ _ h=>cases h;rfl
theorem cMo{P:Program}{k:Nat}{c:Code}{tA tB:List AV}{S:St}{g:Gh}{i1 i2:Nat}{v1 v2:Value}(hk:uX P 0 c ⟨tA,[]⟩ .normal ⟨tB,[]⟩)(hg:gh 0 g S=some ⟨tA,[]⟩)(hn:gP S.m=true)
  (h1:tB[i1]? = some (.p (.v v1))) (h2:tB[i2]? = some (.p (.v v2))) (hne:i1≠i2) (hl:tB.length=S.t.length) (hall:((List.range S.t.length).all fun i => !wrR c i || Nat.beq i i1 || Nat.beq i i2 || bVh S.t i)=true) :
  aC P k c S .normal (bQ S [(i1,.p (.v v1)),(i2,.p (.v v2))]):=by
 intro C0 M0 w0 a w Gc hs ro _ n;obtain ⟨C,hS,hM,hF,hD⟩:=hs;obtain ⟨C1,Kc,Cp,_,_⟩:=eX (dF 0) hg (bVg hS hM hn (eM hn).2);have Io:Sim P (C1.with []) [] w ⟨tA,[]⟩ { a with defers:=[] } w:=⟨C1,Kc,Cp,(Fr.refl _ _ _).based [],.nil rfl (eM (m:=[]) rfl).2⟩
 have:=hk (C1.with []) [] w _ w (dF 0) Io a.defers ro n
 refine wpIn_mono this ?_;rintro e' a' w' ⟨rfl,a2,rfl,⟨C2,Qt,Iz,Hg,⟨l2,d1,d2,d3⟩,_⟩,hkp⟩;have Jl:w.grownBy w' none:=aSj Hg;obtain ⟨Iu,Jj⟩:=bOe hM Jl;have Ku:=hS.le (hM.le Jj);refine ⟨rfl,C,⟨?_,fun i hi => ?_⟩,Iu,hF.trans Jj,?_⟩
 ·have e0:=Qt.size
  show a2.tmps.size=((S.t.set i1 _).set i2 _).length;rw [oP,oP];exact e0.trans hl
 ·have Ct:i<S.t.length:=by
   have:i<((S.t.set i1 (.p (.v v1))).set i2 (.p (.v v2))).length:=hi
   rwa [oP,oP] at this
  have key:∀ x,((S.t.set i1 (.p (.v v1))).set i2 (.p (.v v2)))[i]? = some x→Rep C S.m w' x (a2.tmps.getD i undef):=by
   intro x hx
   by_cases e2:i2=i
   ·subst e2
    rw [bRi (by rw [oP];exact Ct)] at hx
    cases hx;rw [bCr (Qt.at h2)]
    exact .p _ _ (.v _)
   rw [bRj e2] at hx
   by_cases e1:i1=i
   ·subst e1
    rw [bRi Ct] at hx
    cases hx;rw [bCr (Qt.at h1)]
    exact .p _ _ (.v _)
   rw [bRj e1] at hx
   have hc:=gB.1 hall i (iN.2 Ct);cases hw:wrR c i with
   | false =>
    rw [hkp i hw];exact Ku.at hx
   | true =>
    have n1:Nat.beq i i1=false:=by
     cases h:Nat.beq i i1 with
     | false=>rfl
     | true=>exact absurd (Nat.eq_of_beq_eq_true h).symm e1
    have n2:Nat.beq i i2=false:=by
     cases h:Nat.beq i i2 with
     | false=>rfl
     | true=>exact absurd (Nat.eq_of_beq_eq_true h).symm e2
    rw [hw,n1,n2] at hc
    have hc:bVh S.t i=true:=hc;unfold bVh at hc
    rw [hx] at hc
    cases x <;> first | exact .any _ | cases hc
  exact key _ (Ay hi)
 ·obtain ⟨⟨l,e1,e2,e3⟩,hR⟩:=hD.fr hM .refl Jj
  obtain ⟨⟨l',Lq,_,Nu⟩,_⟩:=hD;have hll:l=l':=by
   have:=e1.symm.trans Lq;exact (List.map_inj_right (fun x y h=>by simpa [mark] using h)).1 this
  refine ⟨⟨l2++l,?_,?_,?_⟩,hR⟩
  ·show a2.defers++a.defers=_
   rw [d1,e1,iA]
  ·refine List.nodup_append.2 ⟨d2,e2,fun x hx y hy hxy => ?_⟩
   have:=(d3 x hx).2.1;have:=(nR.1 (Nu y (hll ▸ hy)).1).1;subst hxy;omega
  ·intro D Nv
   rcases jK.1 Nv with h | h
   ·exact ⟨(d3 D h).1,fL hF.size (d3 D h).2.1,fun hf=>by
     have:=hM.Fs D hf;have:=(d3 D h).2.1;omega⟩
   ·exact e3 D h
end KV
end Go.Proofs
end
namespace Go.Proofs
namespace KV
open Tryz
section
variable {dl:Int}{sk dc:Lqq}
theorem cBz(l:List Int)(v:Int)(hl:l.length≤1000000){base:Nat}:FV Tp 126 [.p (aF l),.p (aB v)] base (pI (bJ (fun x=>decide (v=x)) l)) []:=by
 rcases aD.find (P:=Tp) (k:=0) (b:=(sub (cd Tryz.f126) g8)) (fun i=>jN l v i) (fun i _=>bQ (jN l v i) [(4,.p (aB (i:Int)))]) (jN l v l.length) .ret (.exit 0) (by simp) (by simp) (fun x=>decide (v=x)) l
  (fun i x hx hp=>aKr (by have:=aM hx;omega) hx (by simpa using hp) (aI (by have:=aM hx;omega)) rfl)
  (fun i x hx hp=>aKq (by have:=aM hx;omega) hx (by simpa using hp))
  (aKs (l:=l) (i:=l.length) (by omega)) with ⟨i,x,h1,h2,h3,h4⟩ | ⟨h1,h2,h3⟩
 ·rw [eF h2];exact bSf h4
 ·rw [gC h1];exact bSe h3
theorem cCa(l:List Int)(v:Int)(hl:l.length≤1000000){base:Nat}:FV Tp 52 [.p (aF l),.p (aB v)] base (pB (l.contains v)) []:=by
 rw [← zC];have k1:=fk 0 (cBz l v hl) rfl;exact FV.fi func52 [k1.o] (gc k1 gn)
theorem cCb{l:List Int}(hl:l.length≤1000000)(n:Int):wF (aF l) n (l.contains n):=fun base=>cCa l n hl
def zQ(dl:Int)(sk dc:Lqq)(num r6:Int)(x:List Int):Bool := !(((kF dl sk dc r6 x).1 == (kF dl sk dc r6 (x++[num])).1) && ((kF dl sk dc r6 x).2 == (kF dl sk dc r6 (x++[num])).2))
theorem cOe(r t t':Int):iV [aB r,aB 0,aB t] [aB r,aB 0,aB t'] [(0,3,true),(1,3,true),(2,3,true)]=(t == t'):=by
 rw [Bool.eq_iff_iff];simp [iV,tP]
theorem aDv{r6 y0 y1:Int}(h:(aA sk)[(bJ (fun x=>decide (r6=x)) (aP (aA sk) 0)).toNat]? = some [y0,y1])(x:List Int):kF dl sk dc r6 x=cA dl x (aA dc) y0 y1:=by
 have e:(aA sk).getD (bJ (fun x=>decide (r6=x)) (aP (aA sk) 0)).toNat []=[y0,y1]:=by
  rw [B5,h];rfl
 unfold kF;rw [e];rfl
theorem bVe{dl:Int}{sk dc:Lqq}{num r6:Int}{x:List Int}(hd:bP (aA dc))(hu:uni 2 (aA sk))(hs:∀ s∈aA sk,-1≤s.getD 1 0∧s.getD 1 0≤360000)(hx:x.length≤1000){y0 y1:Int}(h0:(aA sk)[(bJ (fun x=>decide (r6=x)) (aP (aA sk) 0)).toNat]? = some [y0,y1])(h1:0≤(bJ (fun x=>decide (r6=x)) (aP (aA sk) 0))) :
  aC Tp 3 (sub (cd Tryz.f58) [1,1,1,1,1,1,1,1,1,0,1,0,1,0,0]) (uR dl sk dc num r6 x) .normal (bQ (uR dl sk dc num r6 x) [(12,(pI ((kF dl sk dc r6 x).1))),(13,(pB ((kF dl sk dc r6 x).2)))]):=by
 obtain ⟨T',_,hT⟩:=bSv (sk:=aA sk) hd (fun n=>aGq hx n) y0 y1 (hs _ (Bl h0)) (T:=[]) cU.nil
 rw [aDv h0];exact cMo (cMp (num:=num) h0 h1 hu hT) (g:=⟨(rng [(0,3),(4,2),(7,2),(12,90)]),[],[2],[]⟩) (by kernel_rfl) rfl (by rfl) (by rfl) (by decide) (by rfl) (by kernel_rfl)
theorem bOc{dl:Int}{sk dc:Lqq}{num r6:Int}{x:List Int}(hd:bP (aA dc))(hu:uni 2 (aA sk))(hs:∀ s∈aA sk,-1≤s.getD 1 0∧s.getD 1 0≤360000)(hx:x.length≤1000){y0 y1:Int}(h0:(aA sk)[(bJ (fun x=>decide (r6=x)) (aP (aA sk) 0)).toNat]? = some [y0,y1])(h1:0≤(bJ (fun x=>decide (r6=x)) (aP (aA sk) 0))) :
  (zQ dl sk dc num r6 x=false→aC Tp 3 (sub (cd Tryz.f58) [1,1,1,1,1,1,1,1,1,0,1,0,1]) (rfO (sM dl sk dc num r6) 54 11 x) .normal (aYk dl sk dc num r6)) ∧
  (zQ dl sk dc num r6 x=true→aC Tp 3 (sub (cd Tryz.f58) [1,1,1,1,1,1,1,1,1,0,1,0,1]) (rfO (sM dl sk dc num r6) 54 11 x) .ret (aNx dl sk dc num r6)):=by
 have hn:=bVe (dl:=dl) (num:=num) hd hu hs hx h0 h1;obtain ⟨T',_,hT⟩:=bSv (dl:=dl) (sk:=aA sk) hd (fun n=>cCb (l:=x++[num]) (by rw [iJ];show x.length+1≤_;omega) n) y0 y1 (hs _ (Bl h0)) (T:=[]) cU.nil
 rw [← aDv h0] at hT
 have hov:aF (x++[num]) = .sl (x.length+1) (x.map aB++[aB num]):=by
  show PV.sl (x++[num]).length ((x++[num]).map aB)=_;rw [iJ,iA];rfl
 rw [hov] at hT
 have hq:=cOe r6 (kF dl sk dc r6 x).1 (kF dl sk dc r6 (x++[num])).1;unfold zQ;cases ha:((kF dl sk dc r6 x).1 == (kF dl sk dc r6 (x++[num])).1) with
 | false =>
  refine ⟨fun h=>(by cases h),fun _ => ?_⟩
  rw [ha] at hq
  exact bMc hn h0 h1 hu ⟨rfl,by omega⟩ hT ⟨rfl,rfl⟩ hq
 | true =>
  rw [ha] at hq
  cases hb:((kF dl sk dc r6 x).2 == (kF dl sk dc r6 (x++[num])).2) with
  | false =>
   refine ⟨fun h=>(by cases h),fun _ => ?_⟩
   exact bMd hn h0 h1 hu ⟨rfl,by omega⟩ hT ⟨rfl,rfl⟩ hq hb
  | true =>
   refine ⟨fun _ => ?_,fun h=>(by cases h)⟩
   exact bMe hn h0 h1 hu ⟨rfl,by omega⟩ hT ⟨rfl,rfl⟩ hq hb
theorem bOd{num r6:Int}(hd:bP (aA dc))(hu:uni 2 (aA sk))(hs:∀ s∈aA sk,-1≤s.getD 1 0∧s.getD 1 0≤360000){y0 y1:Int}(h0:(aA sk)[(bJ (fun x=>decide (r6=x)) (aP (aA sk) 0)).toNat]? = some [y0,y1])(h1:0≤(bJ (fun x=>decide (r6=x)) (aP (aA sk) 0)))(ho:((aJ dl (aA dc)).filter fun n => !(n == num)).length≤60) :
  ((gK ((aJ dl (aA dc)).filter fun n => !(n == num))).any (zQ dl sk dc num r6)=false→aC Tp 0 (sub (cd Tryz.f58) [1,1,1,1,1,1,1,1,1,0,1,0]) (aGz dl sk dc num r6) .normal (sM dl sk dc num r6)) ∧
  ((gK ((aJ dl (aA dc)).filter fun n => !(n == num))).any (zQ dl sk dc num r6)=true→aC Tp 0 (sub (cd Tryz.f58) [1,1,1,1,1,1,1,1,1,0,1,0]) (aGz dl sk dc num r6) .ret (aYj dl sk dc num r6)):=by
 have main:=aLc (P:=Tp) (k:=0) (kb:=3) (kk:=2) (g0:=⟨[],[],[],[]⟩) (g1:=⟨[],[],[],[]⟩) (gR:=⟨[],[],[],[]⟩) (aGz dl sk dc num r6) (fun _=>sM dl sk dc num r6) (fun _ _=>aYk dl sk dc num r6) (fun _ _=>aNx dl sk dc num r6) (sM dl sk dc num r6).t (aYj dl sk dc num r6).m (fun _=>zQ dl sk dc num r6)
  (cc := sub (cd Tryz.f58) [1, 1, 1, 1, 1, 1, 1, 1, 1, 0, 1, 0]) (gi := 53) (p1 := 54) (d := 11) (id := 14) (ty := 33) (pos := "outcome.go:200") (body := sub (cd Tryz.f58) [1, 1, 1, 1, 1, 1, 1, 1, 1, 0, 1, 0, 1]) (by kernel_rfl)
  rfl (fun _=>rfl) (g := .fn 182 [] [.rp [aF ((aJ dl (aA dc)).filter fun n => !(n == num))] 0]) (by rfl) (aLa _ ho) (fun args w=>rfl) (fun _=>rfl) (fun _=>rfl) (fun _ _=>rfl) (fun _ _=>rfl) rfl rfl (fun _=>by show 2<3;omega) (by kernel_rfl) (fun x=>rfl) (by show 2≤2;omega) rfl (by kernel_rfl) (fun pre l=>by kernel_rfl) (fun _ _ _=>by kernel_rfl) (fun pre l _ hx=>bOc hd hu hs hx h0 h1)
 refine ⟨fun h=>main.1 fun pre l hp => ?_,fun h=>main.2 ?_⟩
 ·have:=List.any_eq_false.1 h l (hp.subset (by simp))
  simpa using this
 ·obtain ⟨l,hl,hb⟩:=List.any_eq_true.1 h
  obtain ⟨s,t,e⟩:=List.append_of_mem hl;exact ⟨s,l,⟨t,by rw [e];simp⟩,hb⟩
def uW(dl:Int)(sk dc:Lqq)(num:Int):Bool × Int :=
 if (aJ dl (aA dc)).contains num=false then (false,1) else if 8<(aJ dl (aA dc)).length then (false,10) else
 if bJ (fun x=>decide (rH (aA dc) num=x)) (aP (aA sk) 0)<0 then (false,0) else ((gK ((aJ dl (aA dc)).filter fun n => !(n == num))).any (zQ dl sk dc num (rH (aA dc) num)),0)
theorem bCq{α:Type}{p:α→Bool}{l:List α}(h:0≤bJ p l):(bJ p l).toNat<l.length:=by
 unfold bJ at h ⊢
 cases e:l.findIdx? p with
 | none=>rw [e] at h;simp at h
 | some i =>
  obtain ⟨hi,_⟩:=List.findIdx?_eq_some_iff_getElem.1 e;simpa using hi
theorem bVf(h:bO dl sk dc)(num:Int){base:Nat}:FV Tp 58 [.p (.agg (bC dl sk dc)),.p (aB num)] base (.tup [.p (blP (uW dl sk dc num).1),.p (aB (uW dl sk dc num).2)]) []:=by
 have hd:=dA h;obtain ⟨hu,hl,hs,_⟩:=gQ h;have hol:(aJ dl (aA dc)).length≤1000:=by
  unfold aJ;rw [Co];exact fL (rZ _ _) hd.len
 unfold uW;cases hc:(aJ dl (aA dc)).contains num with
 | false=>exact cKc h hd hol hc
 | true =>
  rw [if_neg (by simp)]
  by_cases h8:8<(aJ dl (aA dc)).length
  ·rw [if_pos h8];exact cKd h hd hol hc (by omega)
  ·rw [if_neg h8]
   have hm:num∈aJ dl (aA dc):=by simpa using hc
   have D5:=hm;unfold aJ at D5
   obtain ⟨x,hx,rfl⟩:=B3.1 D5;have hx:=(kY.1 hx).1;have hr:=eT hd hx;have hsb:rH (aA dc) (dN x)=jI (aA dc) x:=by unfold rH;rw [zF hd hx]
   obtain ⟨q1,q2⟩:=aXk hd hx;have hk:=zE hd (n:=dN x) (by show _∧_;omega)
   have hab:=nY hd x hx;rw [hsb];obtain ⟨a,b,c,d,e,f,rfl⟩:=A7 (hd.ud x hx);have hf:inR f:=by
    have:=(iH.1 (hd.rng _ hx));unfold inR;simp [dAb] at this hab ⊢;omega
   have hsbj:bUo dl (aA sk) (aA dc) [a,b,c,d,e,f] (jI (aA dc) [a,b,c,d,e,f]):=fun base=>bSu hd hf (.inl hx) hr.2
   have hcl:(aP (aA sk) 0).length≤1000:=by rw [mI];omega
   by_cases h0:bJ (fun x=>decide (jI (aA dc) [a,b,c,d,e,f]=x)) (aP (aA sk) 0)<0
   ·rw [if_pos h0]
    exact cKe h hd hol hc (by omega) hk q1 q2 hsbj ⟨hu,by omega⟩ hcl h0
   ·rw [if_neg h0]
    have hi:=bCq (p:=fun x=>decide (jI (aA dc) [a,b,c,d,e,f]=x)) (l:=aP (aA sk) 0) (by omega)
    rw [mI] at hi
    obtain ⟨y0,y1,hy⟩:=at2 hu hi;have hrg:=bOd (dl:=dl) (num:=dN [a,b,c,d,e,f]) hd hu hs hy (by omega) (fL (rZ _ _) (by omega))
    cases hb:(gK ((aJ dl (aA dc)).filter fun n => !(n == dN [a,b,c,d,e,f]))).any (zQ dl sk dc (dN [a,b,c,d,e,f]) (jI (aA dc) [a,b,c,d,e,f])) with
    | false=>exact cKf h hd hol hc (by omega) hk q1 q2 hsbj ⟨hu,by omega⟩ hcl (by omega) (hrg.1 hb)
    | true=>exact cKg h hd hol hc (by omega) hk q1 q2 hsbj ⟨hu,by omega⟩ hcl (by omega) (hrg.2 hb)
end
section
variable {base:Nat}

theorem aZr:((0:Int) == 0)=true:=by first | decide | simp
theorem aZs:((0:Int) != 0)=false:=by first | decide | simp
theorem aOo:((3:Int) != 3)=false:=by first | decide | simp
theorem cMj:((15100:Int) == 15100)=true:=by first | decide | simp
abbrev thD:List PV:=[(aB 1),(aB 0),(aB 0),(aB 1),(aB 300),(aB 0),(aB 2),(aB 7),(aB 10),(aB 0),(aB 0),(aB 1),(aB 3),(aB 9),(aB 40),(aB 0),(aB 0),(aB 2),(aB 4),(aB 5),(aB 50),(aB 0),(aB 0),(aB 3),(aB 5),(aB 6),(aB 60),(aB 0),(aB 100),(aB 1)]
abbrev thS:List PV:=[(aB 1),(aB 15000),(aB 2),(aB 15100),(aB 3),(aB 15200)]
abbrev aBj:AV:=(.p (.agg [(aB 30),(.sl 3 thS),(.sl 2 [(aB 1),(aB 0),(aB 0),(aB 1),(aB 300),(aB 0),(aB 2),(aB 7),(aB 10),(aB 0),(aB 0),(aB 1)])]))
abbrev cMk:AV:=(.p (.agg [(aB 30),(.sl 3 thS),(.sl 3 [(aB 1),(aB 0),(aB 0),(aB 1),(aB 300),(aB 0),(aB 2),(aB 7),(aB 10),(aB 0),(aB 0),(aB 1),(aB 3),(aB 9),(aB 40),(aB 0),(aB 0),(aB 2)])]))
abbrev cMl:AV:=(.p (.agg [(aB 30),(.sl 3 thS),(.sl 4 [(aB 1),(aB 0),(aB 0),(aB 1),(aB 300),(aB 0),(aB 2),(aB 7),(aB 10),(aB 0),(aB 0),(aB 1),(aB 3),(aB 9),(aB 40),(aB 0),(aB 0),(aB 2),(aB 4),(aB 5),(aB 50),(aB 0),(aB 0),(aB 3)])]))
abbrev cMm:AV:=(.p (.agg [(aB 30),(.sl 3 thS),(.sl 5 [(aB 1),(aB 0),(aB 0),(aB 1),(aB 300),(aB 0),(aB 2),(aB 7),(aB 10),(aB 0),(aB 0),(aB 1),(aB 3),(aB 9),(aB 40),(aB 0),(aB 0),(aB 2),(aB 4),(aB 5),(aB 50),(aB 0),(aB 0),(aB 3),(aB 5),(aB 6),(aB 60),(aB 0),(aB 100),(aB 1)])]))
theorem cBs{Fh:List PV}(h0:0≤(0:Int)∧(0:Int)≤2∧(2:Int)≤5)(Es:Fh=((thD.drop 0).take (2*(thD.length / 5)))):FV Tp 88 [(pI 2)] base (.p (.agg [(aB 30),(.sl 3 [(aB 1),(aB 15000),(aB 2),(aB 15100),(aB 3),(aB 15200)]),(.sl 2 Fh)])) []:=by
 subst Es;have k1:=fk 1 (aNy (a:=(1:Int)) (b:=(1:Int)) (c:=(300:Int))) rfl;have k2:=fk 1 (jO (a:=(2:Int)) (b:=(7:Int)) (c:=(1:Int)) (d:=(10:Int)) (e:=(0:Int))) rfl;have k3:=fk 1 (jO (a:=(3:Int)) (b:=(9:Int)) (c:=(2:Int)) (d:=(40:Int)) (e:=(0:Int))) rfl;have k4:=fk 1 (jO (a:=(4:Int)) (b:=(5:Int)) (c:=(3:Int)) (d:=(50:Int)) (e:=(0:Int))) rfl;have k5:=fk 1 (jO (a:=(5:Int)) (b:=(6:Int)) (c:=(1:Int)) (d:=(60:Int)) (e:=(100:Int))) rfl;exact FV.frz (FMM.fi 0 ⟨[],[],[2,1],[]⟩ func88 [k1.o,k2.o,k3.o,k4.o,k5.o] (gc h0 (gc k5 (gc k4 (gc k3 (gc k2 (gc k1 gn))))))) (by kernel_rfl)
theorem cBt{Fh:List PV}(h0:0≤(0:Int)∧(0:Int)≤3∧(3:Int)≤5)(Es:Fh=((thD.drop 0).take (3*(thD.length / 5)))):FV Tp 88 [(pI 3)] base (.p (.agg [(aB 30),(.sl 3 [(aB 1),(aB 15000),(aB 2),(aB 15100),(aB 3),(aB 15200)]),(.sl 3 Fh)])) []:=by
 subst Es;have k1:=fk 1 (aNy (a:=(1:Int)) (b:=(1:Int)) (c:=(300:Int))) rfl;have k2:=fk 1 (jO (a:=(2:Int)) (b:=(7:Int)) (c:=(1:Int)) (d:=(10:Int)) (e:=(0:Int))) rfl;have k3:=fk 1 (jO (a:=(3:Int)) (b:=(9:Int)) (c:=(2:Int)) (d:=(40:Int)) (e:=(0:Int))) rfl;have k4:=fk 1 (jO (a:=(4:Int)) (b:=(5:Int)) (c:=(3:Int)) (d:=(50:Int)) (e:=(0:Int))) rfl;have k5:=fk 1 (jO (a:=(5:Int)) (b:=(6:Int)) (c:=(1:Int)) (d:=(60:Int)) (e:=(100:Int))) rfl;exact FV.frz (FMM.fi 0 ⟨[],[],[2,1],[]⟩ func88 [k1.o,k2.o,k3.o,k4.o,k5.o] (gc h0 (gc k5 (gc k4 (gc k3 (gc k2 (gc k1 gn))))))) (by kernel_rfl)
theorem cBu{Fh:List PV}(h0:0≤(0:Int)∧(0:Int)≤4∧(4:Int)≤5)(Es:Fh=((thD.drop 0).take (4*(thD.length / 5)))):FV Tp 88 [(pI 4)] base (.p (.agg [(aB 30),(.sl 3 [(aB 1),(aB 15000),(aB 2),(aB 15100),(aB 3),(aB 15200)]),(.sl 4 Fh)])) []:=by
 subst Es;have k1:=fk 1 (aNy (a:=(1:Int)) (b:=(1:Int)) (c:=(300:Int))) rfl;have k2:=fk 1 (jO (a:=(2:Int)) (b:=(7:Int)) (c:=(1:Int)) (d:=(10:Int)) (e:=(0:Int))) rfl;have k3:=fk 1 (jO (a:=(3:Int)) (b:=(9:Int)) (c:=(2:Int)) (d:=(40:Int)) (e:=(0:Int))) rfl;have k4:=fk 1 (jO (a:=(4:Int)) (b:=(5:Int)) (c:=(3:Int)) (d:=(50:Int)) (e:=(0:Int))) rfl;have k5:=fk 1 (jO (a:=(5:Int)) (b:=(6:Int)) (c:=(1:Int)) (d:=(60:Int)) (e:=(100:Int))) rfl;exact FV.frz (FMM.fi 0 ⟨[],[],[2,1],[]⟩ func88 [k1.o,k2.o,k3.o,k4.o,k5.o] (gc h0 (gc k5 (gc k4 (gc k3 (gc k2 (gc k1 gn))))))) (by kernel_rfl)
theorem cBv{Fh:List PV}(h0:0≤(0:Int)∧(0:Int)≤5∧(5:Int)≤5)(Es:Fh=((thD.drop 0).take (5*(thD.length / 5)))):FV Tp 88 [(pI 5)] base (.p (.agg [(aB 30),(.sl 3 [(aB 1),(aB 15000),(aB 2),(aB 15100),(aB 3),(aB 15200)]),(.sl 5 Fh)])) []:=by
 subst Es;have k1:=fk 1 (aNy (a:=(1:Int)) (b:=(1:Int)) (c:=(300:Int))) rfl;have k2:=fk 1 (jO (a:=(2:Int)) (b:=(7:Int)) (c:=(1:Int)) (d:=(10:Int)) (e:=(0:Int))) rfl;have k3:=fk 1 (jO (a:=(3:Int)) (b:=(9:Int)) (c:=(2:Int)) (d:=(40:Int)) (e:=(0:Int))) rfl;have k4:=fk 1 (jO (a:=(4:Int)) (b:=(5:Int)) (c:=(3:Int)) (d:=(50:Int)) (e:=(0:Int))) rfl;have k5:=fk 1 (jO (a:=(5:Int)) (b:=(6:Int)) (c:=(1:Int)) (d:=(60:Int)) (e:=(100:Int))) rfl;exact FV.frz (FMM.fi 0 ⟨[],[],[2,1],[]⟩ func88 [k1.o,k2.o,k3.o,k4.o,k5.o] (gc h0 (gc k5 (gc k4 (gc k3 (gc k2 (gc k1 gn))))))) (by kernel_rfl)
theorem zP{base:Nat}:FV Tp 88 [.p (aB 2)] base aBj []:=cBs (by decide) rfl
theorem cBw{base:Nat}:FV Tp 88 [.p (aB 3)] base cMk []:=cBt (by decide) rfl
theorem cBx{base:Nat}:FV Tp 88 [.p (aB 4)] base cMl []:=cBu (by decide) rfl
theorem cBy{base:Nat}:FV Tp 88 [.p (aB 5)] base cMm []:=cBv (by decide) rfl
theorem cMn(h28_0:∀ base:Nat,FV Tp 28 [aBj] base (.tup [(.own base),(pI 0)]) [(base,(.row 48 3 [(aB 2),(aB 1),(aB 15100),(aB 3),(aB 2),(aB 15200),(aB 1),(aB 3),(aB 15300)]))])(h21_1:∀ base:Nat,FV Tp 21 [aBj,(.p (.sl 1 [(aB 2)]))] base (.tup [(.own base),(pI 0)]) [(base,(.row 48 3 [(aB 1),(aB 1),(aB 15000),(aB 2),(aB 2),(aB 15100),(aB 3),(aB 3),(aB 15200)]))])(h71_2:∀ base:Nat,FV Tp 71 [aBj,(pI 1)] base (.tup [(.p (.sl 2 [(aB 1),(aB 3)])),(pB false),(pI 0)]) [])(h33_3:∀ base:Nat,FV Tp 33 [aBj,(pI 2)] base (.tup [(.p (.sl 1 [(aB 2)])),(pI 0)]) [])(h51_4:∀ base:Nat,FV Tp 51 [(.p (.sl 3 [(aB 2),(aB 1),(aB 15100),(aB 3),(aB 2),(aB 15200),(aB 1),(aB 3),(aB 15300)])),(.p (.sl 3 [(aB 2),(aB 1),(aB 15100),(aB 3),(aB 2),(aB 15200),(aB 1),(aB 3),(aB 15300)]))] base (pB true) [])(h5:cW [(aB 1),(aB 1),(aB 15000)] [(0,3,true),(1,3,true),(2,3,true)]=true∧cW [(aB 1),(aB 1),(aB 15000)] [(0,3,true),(1,3,true),(2,3,true)]=true)(h6:(iV [(aB 1),(aB 1),(aB 15000)] [(aB 1),(aB 1),(aB 15000)] [(0,3,true),(1,3,true),(2,3,true)])=true)(h41_7:∀ base:Nat,FV Tp 41 [(.p (.sl 2 [(aB 1),(aB 3)])),(.p (.sl 2 [(aB 1),(aB 3)]))] base (pB true) [])(h41_8:∀ base:Nat,FV Tp 41 [(.p (.sl 1 [(aB 2)])),(.p (.sl 1 [(aB 2)]))] base (pB true) [])(h19_9:∀ base:Nat,FV Tp 19 [cMk] base (.tup [(.p (.sl 0 [])),(pI 0)]) [])(h19_10:∀ base:Nat,FV Tp 19 [cMl] base (.tup [(.p (.sl 1 [(aB 2)])),(pI 0)]) [])(h61_11:∀ base:Nat,FV Tp 61 [cMm,(pI 1)] base (.tup [(pI 15100),(pB false),(pI 0)]) [])(h58_12:∀ base:Nat,FV Tp 58 [aBj,(pI 2)] base (.tup [(pB true),(pI 0)]) []):FV Tp 26 [] base (pB true) []:=FV.fi func26 ([.c aBj [],.c (.tup [(.own 0),(pI 0)]) [(0,(.row 48 3 [(aB 2),(aB 1),(aB 15100),(aB 3),(aB 2),(aB 15200),(aB 1),(aB 3),(aB 15300)]))],.c aBj [],.c (.tup [(.own 2),(pI 0)]) [(1,.dead),(2,(.row 48 3 [(aB 1),(aB 1),(aB 15000),(aB 2),(aB 2),(aB 15100),(aB 3),(aB 3),(aB 15200)]))],.c aBj [],.c (.tup [(.p (.sl 2 [(aB 1),(aB 3)])),(pB false),(pI 0)]) [],.c aBj [],.c (.tup [(.p (.sl 1 [(aB 2)])),(pI 0)]) []]++rF 15++[.c (pB true) []]++rF 9++[.x (.agg [(aB 1),(aB 1),(aB 15000)])]++rF 6++[.c (pB true) []]++rF 5++[.c (pB true) [],bF,bF,bF,.c cMk [],.c (.tup [(.p (.sl 0 [])),(pI 0)]) [],.c cMl [],.c (.tup [(.p (.sl 1 [(aB 2)])),(pI 0)]) [],.c cMm [],.c (.tup [(pI 15100),(pB false),(pI 0)]) [],.c aBj [],.c (.tup [(pB true),(pI 0)]) []]++rT 16++[.c (pB true) []]++rT 6) (Aq cMj (gt (true=true) rfl (gt (true=true) rfl (gt (true=true) rfl (gc aZr (gt (FC Tp 41 [(.p (.sl 1 [(aB 2)])),(.own 6)] [(6,(.row 3 1 [(aB 2)]))] 7 (pB true) []) (fv (h41_8 _)) (E1 aZr (E1 aZr (gc (fk 6 (h58_12 _) rfl) (gc (fk 6 zP rfl) (gc (fk 6 (h61_11 _) rfl) (gc (fk 6 cBy rfl) (gc (fk 6 (h19_10 _) rfl) (gc (fk 6 cBx rfl) (gc (fk 6 (h19_9 _) rfl) (gc (fk 6 cBw rfl) (gf (gf (gf (gt (FC Tp 41 [(.p (.sl 1 [(aB 2)])),(.own 5)] [(5,(.row 3 1 [(aB 2)]))] 6 (pB true) []) (fv (h41_8 _)) (gf (gf (gf (Aq (aR h6) (gt (FC Tp 41 [(.p (.sl 2 [(aB 1),(aB 3)])),(.own 4)] [(4,(.row 3 2 [(aB 1),(aB 3)]))] 5 (pB true) []) (fv (h41_7 _)) (Ak (aR h6) (gc aOo (gc h5 (Aq aOo (gr (.agg [(aB 1),(aB 1),(aB 15000)]) (gt (0+3≤[(aB 1),(aB 1),(aB 15000),(aB 2),(aB 2),(aB 15100),(aB 3),(aB 3),(aB 15200)].length) (by first | decide | simp) (gc aOo (gt (0≤(0:Int)∧(0:Int)<3) (by first | decide | simp) (Aq aOo (gf (gf (gf (gf (Aq aZs (gt (FC Tp 51 [(.own 0),(.own 3)] [(0,(.row 48 3 [(aB 2),(aB 1),(aB 15100),(aB 3),(aB 2),(aB 15200),(aB 1),(aB 3),(aB 15300)])),(3,(.row 48 3 [(aB 2),(aB 1),(aB 15100),(aB 3),(aB 2),(aB 15200),(aB 1),(aB 3),(aB 15300)]))] 4 (pB true) []) (fv (h51_4 _)) (E1 aZs (Ja aZs (gc (fk 3 (h33_3 _) rfl) (gc (fk 3 zP rfl) (gc (fk 3 (h71_2 _) rfl) (gc (fk 3 zP rfl) (gt (FC Tp 21 [aBj,(.own 1)] [(1,(.row 3 1 [(aB 2)]))] 2 (.tup [(.own 2),(pI 0)]) [(1,.dead),(2,(.row 48 3 [(aB 1),(aB 1),(aB 15000),(aB 2),(aB 2),(aB 15100),(aB 3),(aB 3),(aB 15200)]))]) (FV.close (ids:=[1]) (A1:=[aBj,(.p (.sl 1 [(aB 2)]))]) (h21_1 _) (by kernel_rfl)) (gc (fk 1 zP rfl) (gc (fk 0 (h28_0 _) rfl) (gc (fk 0 zP rfl) gn))))))))))))))))))))))))))))))))))))))))))))))))))
end
section
abbrev sB(s:List Int):Int:=s.getD 0 0
abbrev sT(s:List Int):Int:=s.getD 1 0
def fC(dl:Int)(oc:List Int)(dc sk:Lqq):Lqq:=(sk.filter fun s => !(cA dl oc dc (sB s) (sT s)).2).map fun s=>[sB s,0,(cA dl oc dc (sB s) (sT s)).1]
def fD(dl:Int)(oc:List Int)(dc sk:Lqq):Lqq:=(sk.filter fun s=>(cA dl oc dc (sB s) (sT s)).2).map fun s=>[sB s,-1,0]
def plN(A:Lqq)(t:Int):Int:=match A.getLast? with
 | some y=>if y.getD 2 0=t then y.getD 1 0 else (A.length:Int)+1
 | none=>(A.length:Int)+1
def plS(A:Lqq)(x:List Int):Lqq:=A++[[x.getD 0 0,plN A (x.getD 2 0),x.getD 2 0]]
def kG(l:Lqq):Lqq:=l.foldl plS []
def bM(dl:Int)(oc:List Int)(dc sk:Lqq):Lqq:=kG (isort (ltK 2) (fC dl oc dc sk))++fD dl oc dc sk

theorem cCd(A D:List PV)(a b c v:PV):(A++[a,b,c]++D).set (A.length+1) v=A++[a,v,c]++D:=by
 induction A with
 | nil=>rfl
 | cons x A ih=>simp
theorem zR{L:Lqq}{j:Nat}{a b c:Int}(hu:uni 3 L)(hj:L[j]? = some [a,b,c])(v:Int):(L.flatten.map aB).set (j*3+1) (aB v)=((L.set j [a,v,c]).flatten.map aB):=by
 obtain ⟨hlt,he⟩:=Ca.1 hj;have h0:=zA (k:=3) (i:=j) (x:=[a,b,c]) hu hlt rfl;have h1:=zA (k:=3) (i:=j) (x:=[a,v,c]) hu hlt rfl;have hs:L.set j [a,b,c]=L:=by rw [← he];exact List.set_getElem_self hlt
 rw [hs] at h0
 rw [← h1];have hl:((L.flatten.map aB).take (j*3)).length=j*3:=by
  have:=nH hu hj;rw [oD];omega
 have:=cCd ((L.flatten.map aB).take (j*3)) ((L.flatten.map aB).drop (j*3+3)) (aB a) (aB b) (aB c) (aB v);rw [hl] at this
 conv=>lhs;rw [← h0]
 exact this
theorem cCe(A:Lqq)(x:List Int):(plS A x).length=A.length+1:=by simp [plS]
theorem bCs(l:Lqq):∀ A:Lqq,(l.foldl plS A).length=A.length+l.length:=by
 induction l with
 | nil=>intro A;simp
 | cons x l ih=>intro A;rw [kO,ih,cCe];simp;omega
theorem aOq(l:Lqq):∀ A:Lqq,uni 3 A→uni 3 (l.foldl plS A):=by
 induction l with
 | nil=>intro A h;exact h
 | cons x l ih =>
  intro A h;rw [kO];refine ih _ fun y hy => ?_
  unfold plS at hy
  rcases jK.1 hy with hy | hy
  ·exact h y hy
  ·rw [List.mem_singleton.1 hy];rfl
section
variable {dl:Int} {sk dc:Lqq} {oc:List Int} {ov:PV}
theorem aZu(l:Lqq)(hu:uni 3 l)(hl:l.length<1000)(p q:Lqq)(hp:(isort (ltK 2) p).length=l.length)(t:Lqb) :
  aD Tp 7 (sub (cd Tryz.f86) dv) (lL dl sk dc ov p q t l.length (l.flatten.map aB) 0) (.exit 2) (lL dl sk dc ov p q t (kG l).length ((kG l).flatten.map aB) l.length):=by
 let St (j:Nat):Lqq:=(l.take j).foldl plS []++l.drop j
 have hlen:∀ j,j≤l.length→((l.take j).foldl plS []).length=j:=fun j hj=>by rw [bCs];simp;omega
 have hlS:∀ j,j≤l.length→(St j).length=l.length:=fun j hj=>by
  show (_++_:Lqq).length=_;rw [iJ,hlen j hj,bXb];omega
 have huS:∀ j,uni 3 (St j):=fun j y hy=>by
  rcases jK.1 hy with hy | hy
  ·exact aOq _ [] (fun z hz=>by cases hz) y hy
  ·exact hu y (List.mem_of_mem_drop hy)
 have:=aD.count (P:=Tp) (k:=7) (b:=sub (cd Tryz.f86) dv) (e := .exit 2) (R:=lL dl sk dc ov p q t (kG l).length ((kG l).flatten.map aB) l.length) l.length
  (fun j=>lL dl sk dc ov p q t (St j).length ((St j).flatten.map aB) j)
  (fun j hj=>by
   have hx:=hu _ (fP hj);obtain ⟨a,b,c,hx⟩:=Dd hx;have hA:=hlen j (by omega)
   have e1:(l.take (j+1)).foldl plS []=plS ((l.take j).foldl plS []) [a,b,c]:=by
    rw [List.take_add_one,Ay hj,hx];rw [aDa];rfl
   have hdr:l.drop j=[a,b,c]::l.drop (j+1):=by rw [aMo hj,hx]
   have g1:(St j)[j]? = some [a,b,c]:=by
    show ((l.take j).foldl plS []++l.drop j)[j]? = _;rw [xJ (by omega),hA,aQy,hdr];rfl
   have hset:∀ v,(St j).set j [a,v,c]=(l.take j).foldl plS []++[a,v,c]::l.drop (j+1):=fun v=>by
    show ((l.take j).foldl plS []++l.drop j).set j [a,v,c]=_;rw [List.set_append_right _ _ (by omega),hA,aQy,hdr];rfl
   have hnext:St (j+1)=(St j).set j [a,plN ((l.take j).foldl plS []) c,c]:=by
    rw [hset];show (l.take (j+1)).foldl plS []++l.drop (j+1)=_;rw [e1];unfold plS;rw [List.append_assoc];rfl
   have hle:=nH (huS j) g1;have hpl:(j:Int)<((isort (ltK 2) p).length:Int):=by rw [hp];omega
   rw [hnext]
   rcases Nat.eq_zero_or_pos j with h0 | hpos
   ·have hn:plN ((l.take j).foldl plS []) c=(j:Int)+1:=by
     subst h0;rfl
    rw [hn];exact bNy (L:=St j) (L':=(St j).set j [a,((j+1:Nat):Int),c]) (by exact_mod_cast hpl) (aI (by omega)) g1 (by omega) (by omega) (by simp) (zR (huS j) g1 _).symm rfl
   ·have g2:∃ y0 y1 y2,((l.take j).foldl plS []).getLast? = some [y0,y1,y2]∧(St j)[((j:Int)-1).toNat]? = some [y0,y1,y2]:=by
     have hlt:j-1<((l.take j).foldl plS []).length:=by omega
     have h3:=aOq (l.take j) [] (fun z hz=>by cases hz) _ (fP hlt)
     obtain ⟨y0,y1,y2,hy⟩:=Dd h3;refine ⟨y0,y1,y2,?_,?_⟩
     ·rw [List.getLast?_eq_getElem?,hA,Ay hlt,hy]
     ·show ((l.take j).foldl plS []++l.drop j)[((j:Int)-1).toNat]? = _
      rw [show ((j:Int)-1).toNat=j-1 by omega,aAh hlt,Ay hlt,hy]
    obtain ⟨y0,y1,y2,g3,g4⟩:=g2
    by_cases hc:c=y2
    ·have hn:plN ((l.take j).foldl plS []) c=y1:=by
      unfold plN;rw [g3];show (if y2=c then y1 else _)=y1
      rw [if_pos hc.symm]
     rw [hn];have Yy:uni 3 ((St j).set j [a,((j+1:Nat):Int),c]):=bAz (huS j) rfl;have g5:((St j).set j [a,((j+1:Nat):Int),c])[j]? = some [a,((j+1:Nat):Int),c]:=by
      rw [bRi (by rw [hlS j (by omega)];omega)]
     refine bNw (L:=St j) (L':=(St j).set j [a,y1,c]) (by exact_mod_cast hpl) (aI (by omega)) g1 (by omega) (by omega) (huS j) (by show _∧_;omega) g4 (by omega) hc (by rw [oP];omega) (by simp) ?_ rfl
     rw [zR (huS j) g1,zR Yy g5,List.set_set]
    ·have hn:plN ((l.take j).foldl plS []) c=(j:Int)+1:=by
      unfold plN;rw [g3];show (if y2=c then y1 else _)=_
      rw [if_neg (fun h=>hc h.symm),hA]
     rw [hn];exact bNx (L:=St j) (L':=(St j).set j [a,((j+1:Nat):Int),c]) (by exact_mod_cast hpl) (aI (by omega)) g1 (by omega) (by omega) (huS j) (by show _∧_;omega) g4 (by omega) hc (by simp) (zR (huS j) g1 _).symm rfl)
  (by
   have e:St l.length=kG l:=by
    show (l.take l.length).foldl plS []++l.drop l.length=_;rw [List.take_length,List.drop_length,List.append_nil];rfl
   rw [e];exact bNz (by rw [hp];omega)) (by simp)
 exact this
theorem aLi:(fC dl oc dc sk).length≤sk.length:=by
 unfold fC;rw [Co];exact rZ _ _
theorem aHl:(fD dl oc dc sk).length≤sk.length:=by
 unfold fD;rw [Co];exact rZ _ _
theorem aLj:uni 3 (fC dl oc dc sk):=fun y hy=>by
 obtain ⟨s,_,rfl⟩:=B3.1 hy;rfl
theorem aHm:uni 3 (fD dl oc dc sk):=fun y hy=>by
 obtain ⟨s,_,rfl⟩:=B3.1 hy;rfl
theorem xX(f:Nat)(l:Lqq):(isort (ltK f) l).length=l.length:=zN _ _
theorem bOi{k f:Nat}{l:Lqq}(h:uni k l):uni k (isort (ltK f) l):=fun y hy=>h y ((vX _ _ y).1 hy)
theorem aHn(l:Lqq):(kG l).length=l.length:=by unfold kG;rw [bCs];simp
theorem aZv(l:Lqq):uni 3 (kG l):=aOq l [] fun z hz=>by cases hz
theorem fE:uni 3 (bM dl oc dc sk):=fun y hy=>by
 rcases jK.1 hy with hy | hy
 ·exact aZv _ y hy
 ·exact aHm y hy
theorem aSu{α:Type}(p:α→Bool):∀ l:List α,(l.filter fun x => !p x).length+(l.filter p).length=l.length
 | []=>rfl
 | x::l=>by
  have:=aSu p l;cases h:p x <;> simp [h] <;> omega
theorem uY:(bM dl oc dc sk).length=sk.length:=by
 unfold bM fC fD;rw [iJ,aHn,xX,Co,Co];exact aSu _ sk
theorem cOf(hd:bP dc)(hov:∀ n,wF ov n (oc.contains n))(hs:uni 2 sk)(hb:∀ x∈sk,skB x=true)(hl:sk.length<20){T:Lqb}(hT:cU dl oc dc T):∃ T',cU dl oc dc T'∧cLr dl sk dc ov (bM dl oc dc sk) T T':=by
 obtain ⟨acc,⟨h1,h2,h3⟩,h4⟩:=aD.ex (P:=Tp) (k:=7) (b:=sub (cd Tryz.f86) fy) (e := .exit 0) (fun i (a:(Lqq × Lqq) × Lqb)=>qK dl sk dc ov a.1.1.length (a.1.1.flatten.map aB) a.1.2.length (a.1.2.flatten.map aB) i (aQ a.2) a.2.length)
  (fun a=>qK dl sk dc ov a.1.1.length (a.1.1.flatten.map aB) a.1.2.length (a.1.2.flatten.map aB) sk.length (aQ a.2) a.2.length)
  (fun i a=>cU dl oc dc a.2∧a.1.1=fC dl oc dc (sk.take i)∧a.1.2=fD dl oc dc (sk.take i)) (by simp) sk.length
  (fun i acc hi hI=>by
   obtain ⟨⟨p,q⟩,T1⟩:=acc;obtain ⟨h1,h2,h3⟩:=hI;dsimp only at h1 h2 h3
   have hm:=fP hi;obtain ⟨a,b,hy⟩:=len2 (hs _ hm);have hx:sk[i]? = some [a,b]:=by rw [Ay hi,hy]
   rw [hy] at hm
   have hr : -1≤b∧b≤360000:=by
    have:=hb _ hm;rw [aWm,Ce] at this
    exact bW.1 this.2
   obtain ⟨T2,q1,q2⟩:=bSv (sk:=sk) hd hov a b hr h1;have hp:p.length≤20:=by rw [h2];have:=aLi (dl:=dl) (oc:=oc) (dc:=dc) (sk:=sk.take i);rw [oD] at this;omega
   have hq:q.length≤20:=by rw [h3];have:=aHl (dl:=dl) (oc:=oc) (dc:=dc) (sk:=sk.take i);rw [oD] at this;omega
   have et:sk.take (i+1)=sk.take i++[[a,b]]:=by rw [List.take_add_one,hx];rfl
   rw [et];have e1:fC dl oc dc (sk.take i++[[a,b]])=p++if (cA dl oc dc a b).2 then [] else [[a,0,(cA dl oc dc a b).1]]:=by
    rw [h2];unfold fC;rw [oO,iA]
    congr 1
    show (List.filter _ [[a,b]]).map _=_;cases hq:(cA dl oc dc a b).2 <;> simp [hq]
   have e2:fD dl oc dc (sk.take i++[[a,b]])=q++if (cA dl oc dc a b).2 then [[a,-1,0]] else []:=by
    rw [h3];unfold fD;rw [oO,iA]
    congr 1
    show (List.filter _ [[a,b]]).map _=_;cases hq:(cA dl oc dc a b).2 <;> simp [hq]
   rw [e1,e2];cases hc:(cA dl oc dc a b).2 with
   | true =>
    rw [hc] at q2
    exact ⟨((p,q++[[a,-1,0]]),T2),⟨q1,by simp,by simp⟩,bNt (q:=q) (q':=q++[[a,-1,0]]) (by omega) hx hs q2 rfl ⟨rfl,by omega⟩ (aI (by omega)) (by simp) (by simp) rfl rfl rfl⟩
   | false =>
    rw [hc] at q2
    exact ⟨((p++[[a,0,(cA dl oc dc a b).1]],q),T2),⟨q1,by simp,by simp⟩,bNu (p:=p) (p':=p++[[a,0,(cA dl oc dc a b).1]]) (by omega) hx hs q2 rfl ⟨rfl,by omega⟩ (aI (by omega)) (by simp) (by simp) rfl rfl rfl⟩)
  (fun acc hI=>bNv (by omega)) (acc:=(([],[]),T)) ⟨hT,by simp [fC],by simp [fD]⟩
 obtain ⟨⟨p,q⟩,T1⟩:=acc;dsimp only at h1 h2 h3 h4
 rw [List.take_length] at h2 h3
 subst h2 h3;have hp:=aLi (dl:=dl) (oc:=oc) (dc:=dc) (sk:=sk);have hq:=aHl (dl:=dl) (oc:=oc) (dc:=dc) (sk:=sk);have hP:=aZu (dl:=dl) (sk:=sk) (dc:=dc) (ov:=ov) (isort (ltK 2) (fC dl oc dc sk)) (bOi aLj) (by rw [xX];omega) (fC dl oc dc sk) (fD dl oc dc sk) rfl T1
 refine ⟨T1,h1,cLs (Om:=(bM dl oc dc sk).length) (Fh:=(bM dl oc dc sk).flatten.map aB) h4 aLj (by omega) hP ⟨uE aHm,by rw [aHn,xX];omega⟩ ?_ ?_⟩
 ·unfold bM;rw [iJ]
 ·unfold bM;rw [aQx,iA]
end
theorem bCt{dl:Int}{sk dc:Lqq}(h:bO dl sk dc):∀ x∈aA sk,skB x=true:=fun x hx=>h.hsk x ((dZ sk).mem_iff.1 hx)
theorem cMq{dl:Int}{sk dc:Lqq}(h:bO dl sk dc)(hl:sk.length<20){base:Nat}:FV Tp 28 [.p (.agg (bC dl sk dc))] base (.tup [.own base,.p (aB 0)]) [(base,.row 48 (bM dl [] (aA dc) (aA sk)).length ((bM dl [] (aA dc) (aA sk)).flatten.map aB))]:=by
 obtain ⟨T',h1,h2⟩:=cOf (dl:=dl) (sk:=aA sk) (dA h) aNo (nX h.us) (bCt h) (by rw [dC];exact hl) cU.nil
 exact cLt h h2
theorem aBk{dl:Int}{dc:Lqq}(hd:bP dc):(aJ dl dc).length≤1000:=by
 unfold aJ;rw [Co];have:=rZ (kM dl dc) dc;have:=hd.len;omega
def nN(u:List Int):Bool:=(List.range u.length).all fun i=>i == 0 || decide (u.getD (i-1) 0<u.getD i 0)
theorem aSv{dl:Int}{sk dc:Lqq}(u:List Int)(hl:u.length≤1000):(nN u=true∧∃ i,aD Tp 0 (sub (cd Tryz.f21) dp) (iG dl sk dc u 1) (.exit 0) (iG dl sk dc u i)) ∨
  (nN u=false∧∃ i,aD Tp 0 (sub (cd Tryz.f21) dp) (iG dl sk dc u 1) .ret (bQ (iG dl sk dc u i) [(4,.p cC),(5,.p (aB 4))])):=by
 rcases Nat.lt_or_ge u.length 2 with h2 | h2
 ·refine .inl ⟨?_,1,.exit (aLe (by omega)) (by simp)⟩
  unfold nN;rw [gB];intro i hi;have:=iN.1 hi;have:i=0:=by omega
  subst this;rfl
 ·have hget:∀ i,i<u.length→u[i]? = some (u.getD i 0):=fun i hi=>by rw [B5,Ay hi];rfl
  have key:∀ d i,i+d=u.length→1≤i→(∀ j,j<i→(j == 0 || decide (u.getD (j-1) 0<u.getD j 0))=true) →
   (nN u=true∧∃ k,aD Tp 0 (sub (cd Tryz.f21) dp) (iG dl sk dc u (i:Int)) (.exit 0) (iG dl sk dc u k)) ∨
   (nN u=false∧∃ k,aD Tp 0 (sub (cd Tryz.f21) dp) (iG dl sk dc u (i:Int)) .ret (bQ (iG dl sk dc u k) [(4,.p cC),(5,.p (aB 4))])):=by
   intro d
   induction d with
   | zero =>
    intro i hi h1 hj;refine .inl ⟨?_,_,.exit (aLe (by omega)) (by simp)⟩
    unfold nN;rw [gB];intro j hjr;exact hj j (by have:=iN.1 hjr;omega)
   | succ d ih =>
    intro i hi h1 hj;have g1:u[((i:Nat):Int).toNat]? = some (u.getD i 0):=by rw [aMq];exact hget i (by omega)
    have g2:u[((i:Int)-1).toNat]? = some (u.getD (i-1) 0):=by rw [show ((i:Int)-1).toNat=i-1 by omega];exact hget (i-1) (by omega)
    by_cases hc:u.getD (i-1) 0<u.getD i 0
    ·have hst:=bOb (dl:=dl) (sk:=sk) (dc:=dc) (i:=(i:Int)) (i':=((i+1:Nat):Int)) (by omega) g1 (by omega) (by show _∧_;omega) g2 (by omega) hc (by show _∧_;omega) (by omega)
     rcases ih (i+1) (by omega) (by omega) (fun j Ee=>by
      rcases Nat.lt_or_ge j i with h3 | h3
      ·exact hj j h3
      ·obtain rfl:j=i:=by omega
       rw [decide_eq_true hc,Bool.or_true]) with ⟨q1,k,q2⟩ | ⟨q1,k,q2⟩
     ·exact .inl ⟨q1,k,.step hst q2⟩
     ·exact .inr ⟨q1,k,.step hst q2⟩
    ·refine .inr ⟨?_,_,.exit (bOa (i:=(i:Int)) (by omega) g1 (by omega) (by show _∧_;omega) g2 (by omega) (by omega)) (by simp)⟩
     cases hr:nN u with
     | false=>rfl
     | true =>
      unfold nN at hr
      have:=gB.1 hr i (iN.2 (by omega))
      rw [show (i == 0)=false by simp;omega,Bool.false_or] at this
      exact absurd (of_decide_eq_true this) hc
  have:=key (u.length-1) 1 (by omega) (by omega) (fun j hj=>by
   have:j=0:=by omega
   subst this;rfl)
  exact this
def sX(dl:Int)(dc:Lqq)(u:List Int):Int:=if u.all (ocB (aJ dl dc)) then (if nN u then 0 else 4) else 1
theorem bVj{dl:Int}{sk dc:Lqq}(h:bO dl sk dc)(hl:sk.length<20)(u:List Int)(hu:u.length≤1000)(he:sX dl (aA dc) u=0){base:Nat}:FV Tp 21 [.p (.agg (bC dl sk dc)),.p (aF u)] base (.tup [.own base,.p (aB 0)]) [(base,.row 48 (bM dl u (aA dc) (aA sk)).length ((bM dl u (aA dc) (aA sk)).flatten.map aB))]:=by
 have hd:=dA h;unfold sX at he
 cases ha:u.all (ocB (aJ dl (aA dc))) with
 | false=>rw [ha] at he;simp at he
 | true =>
  rw [ha,if_pos rfl] at he
  rcases aSv (dl:=dl) (sk:=sk) (dc:=dc) u hu with ⟨q1,i,q2⟩ | ⟨q1,i,q2⟩
  ·obtain ⟨T',h1,h2⟩:=cOf (dl:=dl) (sk:=aA sk) hd (aGq hu) (nX h.us) (bCt h) (by rw [dC];exact hl) cU.nil
   exact cLy h hd hu (fun _ _=>aBk hd) ha q2 h2
  ·rw [q1] at he;simp at he
theorem cMr{dl:Int}{sk dc:Lqq}(h:bO dl sk dc)(u:List Int)(hu:u.length≤1000)(he:sX dl (aA dc) u≠0){base:Nat}:FV Tp 21 [.p (.agg (bC dl sk dc)),.p (aF u)] base (.tup [.p cC,.p (aB (sX dl (aA dc) u))]) []:=by
 have hd:=dA h;unfold sX at he ⊢
 cases ha:u.all (ocB (aJ dl (aA dc))) with
 | false=>rw [if_neg (by simp)];exact cLx h hd hu (fun _ _=>aBk hd) ha
 | true =>
  rw [ha,if_pos rfl] at he
  rw [if_pos rfl]
  rcases aSv (dl:=dl) (sk:=sk) (dc:=dc) u hu with ⟨q1,i,q2⟩ | ⟨q1,i,q2⟩
  ·rw [q1] at he;simp at he
  ·rw [q1,if_neg (by simp)];exact cLz h hd hu (fun _ _=>aBk hd) ha q2
theorem cCf{dl:Int}{sk dc:Lqq}(us:uni 2 sk)(ud:uni 6 dc)(h:cY dl sk dc≠0)(u:List Int){base:Nat}:FV Tp 21 [.p (.agg (bC dl sk dc)),.p (aF u)] base (.tup [.p cC,.p (aB (cY dl sk dc))]) []:=cMa us ud h rfl
end
end KV
end Go.Proofs
section
namespace Go.Proofs
namespace KL
def aZq(x:Int):List Int→List Int
 | []=>[x]
 | y::r=>if x≤y then x::y::r else y::aZq x r
def sortI:List Int→List Int
 | []=>[]
 | x::r=>aZq x (sortI r)
theorem aBi(x:Int):∀ l,(aZq x l).Perm (x::l)
 | [] => .refl _
 | y::r=>by
  unfold aZq
  split
  ·exact .refl _
  ·exact ((aBi x r).cons y).trans (List.Perm.swap x y r)
theorem aHi:∀ l,(sortI l).Perm l
 | [] => .refl _
 | x::r=>(aBi x _).trans ((aHi r).cons x)
theorem aCr(x:Int):∀ l,l.Pairwise (· ≤ ·)→(aZq x l).Pairwise (· ≤ ·)
 | [],_=>by simp [aZq]
 | y::r,h=>by
  obtain ⟨h1,h2⟩:=List.pairwise_cons.1 h;unfold aZq
  split
  ·rename_i hx
   exact List.pairwise_cons.2 ⟨fun z hz=>by
    rcases List.mem_cons.1 hz with rfl | hz
    ·exact hx
    ·have:=h1 z hz;omega,h⟩
  ·rename_i hx
   refine List.pairwise_cons.2 ⟨fun z hz => ?_,aCr x r h2⟩
   rcases List.mem_cons.1 ((aBi x r).mem_iff.1 hz) with rfl | hz
   ·omega
   ·exact h1 z hz
theorem zO:∀ l,(sortI l).Pairwise (· ≤ ·)
 | [] => .nil
 | x::r=>aCr x _ (zO r)
theorem aLh:∀ (a b:List Int),a.Perm b→a.Pairwise (· ≤ ·)→b.Pairwise (· ≤ ·)→a=b
 | [],b,h,_,_=>(List.nil_perm.1 h).symm
 | x::r,[],h,_,_=>absurd h.length_eq (by simp)
 | x::r,y::t,h,ha,hb=>by
  obtain ⟨h1,h2⟩:=List.pairwise_cons.1 ha;obtain ⟨h3,h4⟩:=List.pairwise_cons.1 hb;have e:x=y:=by
   have m1:x∈y::t:=h.mem_iff.1 (List.mem_cons_self ..);have m2:y∈x::r:=h.mem_iff.2 (List.mem_cons_self ..)
   rcases List.mem_cons.1 m1 with e | m1
   ·exact e
   ·rcases List.mem_cons.1 m2 with e | m2
    ·exact e.symm
    ·have:=h1 y m2;have:=h3 x m1;omega
  subst e;rw [aLh r t (List.Perm.cons_inv h) h2 h4]
theorem mergeSort_eq(l:List Int):l.mergeSort leB=sortI l:=by
 refine aLh _ _ ((List.mergeSort_perm _ _).trans (aHi l).symm) ?_ (zO l);have:=List.pairwise_mergeSort (le:=leB) (fun a b c h1 h2=>by simp only [leB,decide_eq_true_eq] at *;omega) (fun a b=>by simp only [leB,Bool.or_eq_true,decide_eq_true_eq];omega) l
 exact this.imp (fun h=>by simpa [leB] using h)
end KL
namespace KV
open Tryz
abbrev D4:List (List Int):=[[1,15000],[2,15100],[3,15200]]
abbrev F8:List (List Int):=[[1,0,0,1,300,0],[2,7,10,0,0,1]]
abbrev Q1:List (List Int):=[[1,0,0,1,300,0],[2,7,10,0,0,1],[3,9,40,0,0,2]]
abbrev Q2:List (List Int):=[[1,0,0,1,300,0],[2,7,10,0,0,1],[3,9,40,0,0,2],[4,5,50,0,0,3]]
abbrev On:List (List Int):=[[1,0,0,1,300,0],[2,7,10,0,0,1],[3,9,40,0,0,2],[4,5,50,0,0,3],[5,6,60,0,100,1]]
theorem uV{l:List (List Int)}(h:l.Pairwise fun a b=>a.getD 0 0≤b.getD 0 0):aA l=l:=List.mergeSort_of_pairwise (h.imp fun h=>decide_eq_true h)
theorem aIl:aA D4=D4:=uV (by decide)
theorem Hd:aA F8=F8:=uV (by decide)
theorem Us:aA Q1=Q1:=uV (by decide)
theorem Ut:aA Q2=Q2:=uV (by decide)
theorem Uu:aA On=On:=uV (by decide)
theorem Kk:bO 30 D4 F8:=⟨by unfold uni;decide,by unfold uni;decide,by decide,by decide,by decide,by decide,by decide,by decide,by decide,by decide,by decide⟩
theorem Uv:bO 30 D4 Q1:=⟨by unfold uni;decide,by unfold uni;decide,by decide,by decide,by decide,by decide,by decide,by decide,by decide,by decide,by decide⟩
theorem Uw:bO 30 D4 Q2:=⟨by unfold uni;decide,by unfold uni;decide,by decide,by decide,by decide,by decide,by decide,by decide,by decide,by decide,by decide⟩
theorem Q3:bO 30 D4 On:=⟨by unfold uni;decide,by unfold uni;decide,by decide,by decide,by decide,by decide,by decide,by decide,by decide,by decide,by decide⟩
def cBr(al:List eU)(s:Nat)(c:List aV):List Int:=Lib.compact (KL.sortI (c.flatMap (chL al s)))
theorem bCp(al:List eU)(s:Nat)(c:List aV):jQ al s c=cBr al s c:=by unfold jQ cBr;rw [KL.mergeSort_eq]
def bVb(dl:Int)(sk dc:List (List Int))(f:Int)(i:Nat):Bool:=match (aG dl sk dc)[i]? with
 | some h=>aYm (cBr (aG dl sk dc) i h.1) (h.1.any fun x=>x.2.1) (h.1.any fun x => !x.2.1) f
 | none=>false
theorem bVc(dl:Int)(sk dc:List (List Int))(f:Int):aCo dl sk dc f=bVb dl sk dc f:=by
 funext i
 unfold aCo bVb
 split
 ·rename_i h e
  first | rw [e] | skip
  simp only [bCp]
 ·rename_i e
  first | rw [e] | rfl
theorem Sz(base:Nat):FV Tryz.prog 28 [.p (.agg (bC 30 D4 F8))] base (.tup [.own base,.p (aB 0)]) [(base,.row 48 3 ([[2,1,15100],[3,2,15200],[1,3,15300]].flatten.map aB))]:=by
 have:=cMq Kk (by decide) (base:=base)
 rw [aIl,Hd,show bM 30 [] F8 D4=[[2,1,15100],[3,2,15200],[1,3,15300]] from by decide +kernel] at this
 exact this
theorem O8(base:Nat):FV Tryz.prog 21 [.p (.agg (bC 30 D4 F8)),.p (aF [2])] base (.tup [.own base,.p (aB 0)]) [(base,.row 48 3 ([[1,1,15000],[2,2,15100],[3,3,15200]].flatten.map aB))]:=by
 have:=bVj Kk (by decide) [2] (by decide) (by rw [Hd];decide +kernel) (base:=base)
 rw [aIl,Hd,show bM 30 [2] F8 D4=[[1,1,15000],[2,2,15100],[3,3,15200]] from by decide +kernel] at this
 exact this
theorem M3:aJ 30 F8=[2]:=by decide +kernel
theorem Yu(base:Nat):FV Tryz.prog 71 [.p (.agg (bC 30 D4 F8)),.p (aB 1)] base (.tup [.p (aF [1,3]),.p (blP false),.p (aB 0)]) []:=by
 have:=bUa Kk (bib:=1) (i:=0) (s0:=1) (s1:=15000) (by rw [aIl];decide +kernel) (by rw [aIl];rfl) (by rw [Hd,M3];decide) (base:=base)
 rw [aIl,Hd,bCp,show cBr (aG 30 D4 F8) 0 (lK 30 F8 1 15000 (mR 30 F8 1)).1=[1,3] from by decide +kernel,show ((lK 30 F8 1 15000 (mR 30 F8 1)).1.any fun x=>x.2.1)=false from by decide +kernel] at this
 exact this
theorem Md(base:Nat):FV Tryz.prog 33 [.p (.agg (bC 30 D4 F8)),.p (aB 2)] base (.tup [.p (aF [2]),.p (aB 0)]) []:=by
 have:=cKr Kk (f:=2) (by decide) (by rw [Hd,M3];decide) (base:=base)
 have e:aSe 30 D4 F8 2=[2]:=by
  unfold aSe;rw [bVc];decide +kernel
 rw [aIl,Hd,e] at this
 exact this
theorem Ux(base:Nat):FV Tryz.prog 19 [.p (.agg (bC 30 D4 Q1))] base (.tup [.p (aF []),.p (aB 0)]) []:=by
 have:=bSt Uv (base:=base);rw [Us,show aJ 30 Q1=[] from by decide +kernel] at this
 exact this
theorem Uy(base:Nat):FV Tryz.prog 19 [.p (.agg (bC 30 D4 Q2))] base (.tup [.p (aF [2]),.p (aB 0)]) []:=by
 have:=bSt Uw (base:=base);rw [Ut,show aJ 30 Q2=[2] from by decide +kernel] at this
 exact this
theorem Yv(base:Nat):FV Tryz.prog 61 [.p (.agg (bC 30 D4 On)),.p (aB 1)] base (.tup [.p (aB 15100),.p (blP false),.p (aB 0)]) []:=by
 obtain ⟨T',_,hT⟩:=bSv (dl:=30) (sk:=aA D4) (dc:=aA On) (dA Q3) aNo 1 15000 (by decide) (T:=[]) cU.nil
 have:=cKi Q3 (bib:=1) (i0:=0) (s1:=1) (s2:=15000) (by rw [aIl];decide +kernel) (by rw [aIl];rfl) hT (base:=base)
 rw [Uu,show cA 30 [] On 1 15000=(15100,false) from by decide +kernel] at this
 exact this
theorem Yw(base:Nat):FV Tryz.prog 58 [.p (.agg (bC 30 D4 F8)),.p (aB 2)] base (.tup [.p (blP true),.p (aB 0)]) []:=by
 have:=bVf Kk 2 (base:=base);have hB:∀ r6,zQ 30 D4 F8 2 r6=fun x => !(((cA 30 x F8 ((D4.getD (bJ (fun x=>decide (r6=x)) (aP D4 0)).toNat []).getD 0 0) ((D4.getD (bJ (fun x=>decide (r6=x)) (aP D4 0)).toNat []).getD 1 0)).1 == (cA 30 (x++[2]) F8 ((D4.getD (bJ (fun x=>decide (r6=x)) (aP D4 0)).toNat []).getD 0 0) ((D4.getD (bJ (fun x=>decide (r6=x)) (aP D4 0)).toNat []).getD 1 0)).1) && ((cA 30 x F8 ((D4.getD (bJ (fun x=>decide (r6=x)) (aP D4 0)).toNat []).getD 0 0) ((D4.getD (bJ (fun x=>decide (r6=x)) (aP D4 0)).toNat []).getD 1 0)).2 == (cA 30 (x++[2]) F8 ((D4.getD (bJ (fun x=>decide (r6=x)) (aP D4 0)).toNat []).getD 0 0) ((D4.getD (bJ (fun x=>decide (r6=x)) (aP D4 0)).toNat []).getD 1 0)).2)):=fun r6=>by
  funext x
  unfold zQ kF;rw [aIl,Hd]
 have e:uW 30 D4 F8 2=(true,0):=by
  unfold uW;rw [aIl,Hd,hB];decide +kernel
 rw [e] at this
 exact this
theorem bVd{base:Nat}:FV Tryz.prog 26 [] base (.p (blP true)) [] :=
 cMn Sz O8 Yu Md (fun base=>by
  have:=cKm [[2,1,15100],[3,2,15200],[1,3,15300]] [[2,1,15100],[3,2,15200],[1,3,15300]] (by unfold uni;decide) (by unfold uni;decide) (by decide) (base:=base)
  rw [decide_eq_true rfl] at this
  exact this) ⟨rfl,rfl⟩ (by decide) (fun base=>by
  have:=aHa [1,3] [1,3] (by decide) (base:=base)
  rw [decide_eq_true rfl] at this
  exact this) (fun base=>by
  have:=aHa [2] [2] (by decide) (base:=base)
  rw [decide_eq_true rfl] at this
  exact this) Ux Uy Yv Yw
end KV
end Go.Proofs
end
namespace Go.Proofs
namespace KV
open Tryz
section

end
section
def wS(L:Lqq)(bib:Int):List Int:=(L.find? fun y=>decide (y.getD 0 0=bib)).getD [0,0,0]
end
section

end
section
end
section

end
section
end
section

end
section

theorem zS{α:Type}{Q:List α→Prop}(h0:Q [])(hs:∀ l x,Q l→Q (l++[x]))(l:List α):Q l:=by
 have key:∀ r:List α,Q r.reverse:=fun r=>by
  induction r with
  | nil=>exact h0
  | cons a r ih=>rw [List.reverse_cons];exact hs _ _ ih
 have:=key l.reverse
 rwa [List.reverse_reverse] at this
def nE(L:Lqq)(t:Int):Nat:=(L.filter fun x=>decide (x.getD 2 0<t)).length
theorem aLk(L:Lqq)(x:List Int)(t:Int):nE (L++[x]) t=nE L t+if x.getD 2 0<t then 1 else 0:=by
 unfold nE;rw [oO,iJ]
 congr 1
 by_cases h:x.getD 2 0<t
 ·rw [if_pos h,List.filter_cons,if_pos (decide_eq_true h)];rfl
 ·rw [if_neg h,List.filter_cons,if_neg (by rw [decide_eq_false h];simp)];rfl
theorem aHo(L:Lqq):L.Pairwise (fun a b=>a.getD 2 0≤b.getD 2 0)→kG L=L.map fun x=>[x.getD 0 0,(nE L (x.getD 2 0):Int)+1,x.getD 2 0]:=by
 refine zS (Q:=fun L=>L.Pairwise (fun a b=>a.getD 2 0≤b.getD 2 0)→kG L=L.map fun x=>[x.getD 0 0,(nE L (x.getD 2 0):Int)+1,x.getD 2 0]) (fun _=>rfl) (fun l x ih hp => ?_) L
 obtain ⟨h1,_,h3⟩:=List.pairwise_append.1 hp;have h4:∀ a∈l,a.getD 2 0≤x.getD 2 0:=fun a ha=>h3 a ha x (by simp)
 have e:kG (l++[x])=kG l++[[x.getD 0 0,plN (kG l) (x.getD 2 0),x.getD 2 0]]:=by
  unfold kG;rw [aDa];rfl
 rw [e,ih h1,iA]
 congr 1
 ·refine aAi fun y hy => ?_
  rw [aLk,if_neg (by have:=h4 y hy;omega)];rfl
 ·have hx:nE (l++[x]) (x.getD 2 0)=nE l (x.getD 2 0):=by rw [aLk,if_neg (by omega)];rfl
  show [[x.getD 0 0,plN _ (x.getD 2 0),x.getD 2 0]]=[[x.getD 0 0,(nE (l++[x]) (x.getD 2 0):Int)+1,x.getD 2 0]];rw [hx]
  congr 3
  rcases List.eq_nil_or_concat l with rfl | ⟨m,y,rfl⟩
  ·rfl
  ·rw [List.concat_eq_append] at *
   unfold plN;rw [iA,iB,List.map_nil,List.getLast?_concat];show (if y.getD 2 0=x.getD 2 0 then (nE (m++[y]) (y.getD 2 0):Int)+1 else _)=_
   by_cases hc:y.getD 2 0=x.getD 2 0
   ·rw [if_pos hc,hc]
   ·rw [if_neg hc]
    have h5:=h4 y (by simp)
    have h6:nE (m++[y]) (x.getD 2 0)=(m++[y]).length:=by
     unfold nE;rw [List.filter_eq_self.2];intro a ha;refine decide_eq_true ?_
     rcases jK.1 ha with ha | ha
     ·have:=(List.pairwise_append.1 h1).2.2 a ha y (by simp)
      omega
     ·obtain rfl:a=y:=by simpa using ha
      omega
    rw [h6];simp
section
variable {dl:Int} {oc:List Int} {sk dc:Lqq}
def bCu(a b:List Int):Prop:=(b.getD 1 0 = -1→a.getD 1 0 = -1→a.getD 0 0<b.getD 0 0)∧(b.getD 1 0 ≠ -1→a.getD 1 0 ≠ -1∧a.getD 2 0≤b.getD 2 0∧(a.getD 2 0=b.getD 2 0→a.getD 0 0<b.getD 0 0))
def inL(t:Int)(y:List Int):Bool:=decide (y.getD 1 0 ≠ -1∧y.getD 2 0<t)
theorem aHp(hs:sk.Pairwise fun a b=>a.getD 0 0<b.getD 0 0) :
  (bM dl oc dc sk).Pairwise bCu ∧
  (∀ y∈bM dl oc dc sk,y.getD 1 0 ≠ -1→y.getD 1 0=1+(((bM dl oc dc sk).filter (inL (y.getD 2 0))).length:Int)) ∧
  (∀ y∈bM dl oc dc sk,∃ s∈sk,s.getD 0 0=y.getD 0 0∧cA dl oc dc (sB s) (sT s)=(y.getD 2 0,decide (y.getD 1 0 = -1))):=by
 have Uf:(fC dl oc dc sk).Pairwise fun a b=>a.getD 0 0<b.getD 0 0:=by
  unfold fC;rw [List.pairwise_map];exact (hs.sublist List.filter_sublist)
 have hO:(fD dl oc dc sk).Pairwise fun a b=>a.getD 0 0<b.getD 0 0:=by
  unfold fD;rw [List.pairwise_map];exact (hs.sublist List.filter_sublist)
 have s1:=sO (f:=fun x:List Int=>x.getD 2 0) (fun x y=>aOl 2 x y) (fC dl oc dc sk)
 have s2:=aOn (f:=fun x:List Int=>x.getD 2 0) (g:=fun x:List Int=>x.getD 0 0) (fun x y=>aOl 2 x y) (fC dl oc dc sk) Uf
 have hpl:=aHo _ s1;have hmI:∀ x,x∈isort (ltK 2) (fC dl oc dc sk)→x∈fC dl oc dc sk:=fun x hx=>(vX _ _ x).1 hx
 have e:bM dl oc dc sk=((isort (ltK 2) (fC dl oc dc sk)).map fun x=>[x.getD 0 0,(nE (isort (ltK 2) (fC dl oc dc sk)) (x.getD 2 0):Int)+1,x.getD 2 0])++fD dl oc dc sk:=by
  unfold bM;rw [hpl]
 generalize isort (ltK 2) (fC dl oc dc sk)=I at s1 s2 hmI e
 have o1:∀ y∈fD dl oc dc sk,y.getD 1 0 = -1:=fun y hy=>by
  unfold fD at hy
  obtain ⟨s,_,rfl⟩:=B3.1 hy;rfl
 refine ⟨?_,?_,?_⟩
 ·rw [e]
  refine List.pairwise_append.2 ⟨?_,?_,?_⟩
  ·rw [List.pairwise_map]
   refine s2.imp fun {a b} h => ?_
   refine ⟨fun h1=>absurd h1 ?_,fun _=>⟨?_,?_,?_⟩⟩
   ·show (nE I (b.getD 2 0):Int)+1 ≠ -1
    omega
   ·show (nE I (a.getD 2 0):Int)+1 ≠ -1
    omega
   ·show a.getD 2 0≤b.getD 2 0
    omega
   ·show a.getD 2 0=b.getD 2 0→a.getD 0 0<b.getD 0 0
    omega
  ·refine hO.imp_of_mem fun {a b} ha hb h=>⟨fun _ _=>h,fun h1=>absurd (o1 b hb) h1⟩
  ·intro a ha b hb
   obtain ⟨x,_,rfl⟩:=B3.1 ha;refine ⟨fun _ h1=>absurd h1 ?_,fun h1=>absurd (o1 b hb) h1⟩
   show (nE I (x.getD 2 0):Int)+1 ≠ -1;omega
 ·have hc:∀ t,((bM dl oc dc sk).filter (inL t)).length=nE I t:=fun t=>by
   rw [e,oO,iJ];have z:(fD dl oc dc sk).filter (inL t)=[]:=by
    rw [List.filter_eq_nil_iff];intro y hy;unfold inL;rw [o1 y hy];simp
   rw [z,List.filter_map,Co];unfold nE;rw [List.length_nil,Nat.add_zero]
   congr 1
   refine List.filter_congr fun x _ => ?_
   show decide ((nE I (x.getD 2 0):Int)+1 ≠ -1∧x.getD 2 0<t)=decide (x.getD 2 0<t)
   by_cases hx:x.getD 2 0<t
   ·rw [decide_eq_true hx,decide_eq_true ⟨by omega,hx⟩]
   ·rw [decide_eq_false hx,decide_eq_false fun h=>hx h.2]
  intro y hy h1;rw [hc];rw [e] at hy
  rcases jK.1 hy with hy | hy
  ·obtain ⟨x,_,rfl⟩:=B3.1 hy
   show (nE I (x.getD 2 0):Int)+1=1+(nE I (x.getD 2 0):Int);omega
  ·exact absurd (o1 y hy) h1
 ·intro y hy
  rw [e] at hy
  rcases jK.1 hy with hy | hy
  ·obtain ⟨x,hx,rfl⟩:=B3.1 hy
   have Vy:=hmI x hx;unfold fC at Vy
   obtain ⟨s,Cj,rfl⟩:=B3.1 Vy;obtain ⟨m1,m2⟩:=kY.1 Cj;refine ⟨s,m1,rfl,?_⟩;have m3:(cA dl oc dc (sB s) (sT s)).2=false:=by simpa using m2
   have m4:(decide ((nE I (cA dl oc dc (sB s) (sT s)).1:Int)+1 = -1))=false:=decide_eq_false (by omega)
   show cA dl oc dc (sB s) (sT s)=((cA dl oc dc (sB s) (sT s)).1,decide ((nE I (cA dl oc dc (sB s) (sT s)).1:Int)+1 = -1));rw [m4];exact Prod.ext rfl m3
  ·unfold fD at hy
   obtain ⟨s,Cj,rfl⟩:=B3.1 hy;obtain ⟨m1,m2⟩:=kY.1 Cj;refine ⟨s,m1,rfl,?_⟩;show cA dl oc dc (sB s) (sT s)=(0,true);unfold cA at m2 ⊢
   split at m2
   ·rename_i h;rw [if_pos h]
   ·cases m2
def oT(f:List Int→Int × Bool)(S:Lqq)(t:Int):Nat:=(S.filter fun j => !(f j).2 && decide ((f j).1<t)).length
theorem aHq(hs:sk.Pairwise fun a b=>a.getD 0 0<b.getD 0 0)(t:Int):((bM dl oc dc sk).filter (inL t)).length=oT (fun s=>cA dl oc dc (sB s) (sT s)) sk t:=by
 have s1:=sO (f:=fun x:List Int=>x.getD 2 0) (fun x y=>aOl 2 x y) (fC dl oc dc sk)
 have hp:=aZn (ltK 2) (fC dl oc dc sk);unfold bM;rw [oO,iJ,aHo _ s1];have z:(fD dl oc dc sk).filter (inL t)=[]:=by
  rw [List.filter_eq_nil_iff];intro y hy;unfold fD at hy
  obtain ⟨s,_,rfl⟩:=B3.1 hy;simp [inL]
 rw [z,List.filter_map,Co,List.length_nil,Nat.add_zero];have e1:∀ (I J:Lqq),(J.filter (inL t ∘ fun x=>[x.getD 0 0,(nE I (x.getD 2 0):Int)+1,x.getD 2 0]))=J.filter fun x=>decide (x.getD 2 0<t):=fun I J=>by
  refine List.filter_congr fun x _ => ?_
  show decide ((nE I (x.getD 2 0):Int)+1 ≠ -1∧x.getD 2 0<t)=decide (x.getD 2 0<t)
  by_cases hx:x.getD 2 0<t
  ·rw [decide_eq_true hx,decide_eq_true ⟨by omega,hx⟩]
  ·rw [decide_eq_false hx,decide_eq_false fun h=>hx h.2]
 rw [e1,(hp.filter _).length_eq];unfold fC oT;rw [List.filter_map,Co,List.filter_filter]
 congr 1
 refine List.filter_congr fun s _ => ?_
 show (decide ((cA dl oc dc (sB s) (sT s)).1<t) && !(cA dl oc dc (sB s) (sT s)).2)=_;rw [Bool.and_comm]
def fG(f:List Int→Int × Bool)(S:Lqq)(k:List Int):Int:=if (f k).2 then -1 else 1+(oT f S (f k).1:Int)
theorem uZ(hs:sk.Pairwise fun a b=>a.getD 0 0<b.getD 0 0){k:List Int}(hk:k∈sk) :
  (bM dl oc dc sk).find? (fun y=>decide (y.getD 0 0=k.getD 0 0))=some [k.getD 0 0,fG (fun s=>cA dl oc dc (sB s) (sT s)) sk k,(cA dl oc dc (sB k) (sT k)).1]:=by
 obtain ⟨_,q2,q3⟩:=aHp (dl:=dl) (oc:=oc) (dc:=dc) hs;have hn:(aP sk 0).Nodup:=by
  unfold aP;rw [List.Nodup,List.pairwise_map];exact hs.imp fun h=>by omega
 cases hf:(bM dl oc dc sk).find? (fun y=>decide (y.getD 0 0=k.getD 0 0)) with
 | none =>
  exfalso
  have hno:=aCz.1 hf;have Q4:∀ y∈bM dl oc dc sk,y.getD 0 0≠k.getD 0 0:=fun y hy e=>hno y hy (decide_eq_true e)
  cases ho:(cA dl oc dc (sB k) (sT k)).2 with
  | true =>
   refine Q4 [sB k,-1,0] (aCy _ ?_) rfl;unfold fD;exact B3.2 ⟨k,kY.2 ⟨hk,ho⟩,rfl⟩
  | false =>
   have s1:=sO (f:=fun x:List Int=>x.getD 2 0) (fun x y=>aOl 2 x y) (fC dl oc dc sk)
   have hm:[sB k,0,(cA dl oc dc (sB k) (sT k)).1]∈isort (ltK 2) (fC dl oc dc sk):=by
    rw [vX];unfold fC;exact B3.2 ⟨k,kY.2 ⟨hk,by rw [ho];rfl⟩,rfl⟩
   have hmem:[sB k,(nE (isort (ltK 2) (fC dl oc dc sk)) (cA dl oc dc (sB k) (sT k)).1:Int)+1,(cA dl oc dc (sB k) (sT k)).1]∈bM dl oc dc sk:=by
    unfold bM;rw [aHo _ s1];exact pN _ (B3.2 ⟨_,hm,rfl⟩)
   exact Q4 _ hmem rfl
 | some y =>
  have hy:=rD hf;have hb:y.getD 0 0=k.getD 0 0:=by simpa using aMr hf
  obtain ⟨y0,y1,y2,rfl⟩:=Dd (fE y hy);obtain ⟨s,h1,h2,h3⟩:=q3 _ hy;obtain rfl:s=k:=aDo hn h1 hk (h2.trans hb);have Kv:cA dl oc dc (sB s) (sT s)=(y2,decide (y1 = -1)):=h3;have A4:y0=s.getD 0 0:=hb;rw [Option.some.injEq,A4,Kv]
  congr 2
  unfold fG;dsimp only
  by_cases Rz:y1 = -1
  ·rw [if_pos (by rw [Kv];exact decide_eq_true Rz)];exact Rz
  ·rw [if_neg (by rw [Kv];simpa using Rz),Kv]
   have:=q2 _ hy Rz;rw [aHq hs] at this
   exact this
end
theorem bVk{sk:Lqq}(hn:(aP sk 0).Nodup){s:List Int}(hs:s∈sk):∃ i:Nat,oI sk (s.getD 0 0)=(i:Int)∧sk[i]? = some s:=by
 rcases aKu sk (s.getD 0 0) with ⟨i,x,h1,h2,h3⟩ | ⟨_,h2⟩
 ·exact ⟨i,h1,by rw [h2,aDo hn (Bl h2) hs h3]⟩
 ·exact absurd (B3.2 ⟨s,hs,rfl⟩) h2
end
section
section
variable {dl:Int} {sk dc:Lqq}
end
end
section
section
variable {dl:Int} {sk dc:Lqq} {q:List Int}
theorem bXl(hd:bP dc){i:Nat}{x:List Int}(h:dc[i]? = some x):∃ la op by_ fr,((bL dl q dc).map (cX dl))[i]? = some (la,dP dl q dc x,op,uH dl q dc x,jV dl q dc x,by_,fr):=by
 obtain ⟨s,h1,h2,h3⟩:=bRr (dl:=dl) (oc:=q) hd h;refine ⟨iI dl s.x,fA (dK s.x) && (s.cnt && s.rul.isNone),(s.rul.map dN).getD 0,(s.chg.map dN).getD 0,?_⟩;rw [fV,h1];show some (cX dl s)=_;have e1:dP dl q dc x=s.cnt:=by unfold dP;rw [h3]
 have e2:uH dl q dc x=s.upd:=by unfold uH;rw [h3]
 have e3:jV dl q dc x=s.much:=by unfold jV;rw [h3]
 rw [e1,e2,e3];rfl
theorem bXm(hd:bP dc){bib tm:Int}{ot:Bool}{i:Nat}{x:List Int}(hx:dc[i]? = some x)(ht : -1-36000*(i:Int)≤tm∧tm≤360000+43200000*(i:Int)) :
  (-1-36000*((i+1:Nat):Int)≤(oS dl q dc bib (ot,tm) x).2∧(oS dl q dc bib (ot,tm) x).2≤360000+43200000*((i+1:Nat):Int)) ∧
  aC Tp 0 (sub (cd Tryz.f66) dv) (dX dl sk dc bib q tm ot i) .normal (dX dl sk dc bib q (oS dl q dc bib (ot,tm) x).2 (oS dl q dc bib (ot,tm) x).1 (i+1)):=by
 have hlen:=hd.len;have hi:=aM hx;have hll:((bL dl q dc).map (cX dl)).length=dc.length:=by rw [Co,jW]
 have hm:=Bl hx;obtain ⟨la,op,b,fr,hr⟩:=bXl (dl:=dl) (q:=q) hd hx;have hb:=aNj (dl:=dl) (oc:=q) hd hm;have h5:=(iH.1 (hd.rng _ hm)).2.1;obtain ⟨y0,k,y2,y3,y4,y5,rfl⟩:=A7 (hd.ud x hm);have h5:0≤k∧k≤9:=h5;have hlt:(i:Int)<(((bL dl q dc).map (cX dl)).length:Int):=by rw [hll];omega
 have hn:inR (((i+1:Nat):Nat):Int):=aI (by omega)
 by_cases h3:y3=bib
 ·cases hc:dP dl q dc [y0,k,y2,y3,y4,y5] with
  | false =>
   have e:oS dl q dc bib (ot,tm) [y0,k,y2,y3,y4,y5]=(ot,tm):=by
    unfold oS aDc;rw [hc];simp
   rw [e];rw [hc] at hr
   exact ⟨by dsimp only;omega,bHb hlt hx hd.ud h3 ⟨by omega,hlt⟩ hr rfl hn rfl⟩
  | true =>
   have hh:aDc dl q dc bib [y0,k,y2,y3,y4,y5]=(decide (k≤4) && (!(k == 4) || uH dl q dc [y0,k,y2,y3,y4,y5])):=by
    unfold aDc;rw [hc];show (decide (k≤4) && (y3 == bib && (true && (!(k == 4) || uH dl q dc [y0,k,y2,y3,y4,y5]))))=_
    rw [h3];simp
   rw [hc] at hr
   unfold oS;rw [hh];revert hr hb;generalize jV dl q dc [y0,k,y2,y3,y4,y5]=m;generalize uH dl q dc [y0,k,y2,y3,y4,y5]=u;intro hr hb;show (_≤(if _ then (ot || k == 3,byI k tm m) else (ot,tm)).2∧_)∧aC _ _ _ _ _ (dX dl sk dc bib q (if _ then (ot || k == 3,byI k tm m) else (ot,tm)).2 (if _ then (ot || k == 3,byI k tm m) else (ot,tm)).1 (i+1))
   have hk:k=0∨k=1∨k=2∨k=3∨k=4∨4<k:=by omega
   rcases hk with rfl | rfl | rfl | rfl | rfl | h9
   ·simp only [byI]
    simp;refine ⟨by omega,?_⟩
    exact bHc hlt hx hd.ud h3 ⟨by omega,hlt⟩ hr rfl rfl (by show _∧_;omega) (by decide) (by decide) (by decide) hn rfl rfl
   ·simp only [byI]
    simp;refine ⟨by omega,?_⟩
    exact aVt hlt hx hd.ud h3 ⟨by omega,hlt⟩ hr rfl (by decide) (by decide) rfl (by show _∧_;omega) (by decide) (by decide) hn rfl rfl
   ·simp only [byI]
    simp;refine ⟨by omega,?_⟩
    exact aVu hlt hx hd.ud h3 ⟨by omega,hlt⟩ hr rfl (by decide) (by decide) (by decide) rfl (by show _∧_;omega) (by show _∧_;omega) (by decide) hn rfl rfl
   ·simp only [byI]
    simp;refine ⟨by omega,?_⟩
    exact aVv hlt hx hd.ud h3 ⟨by omega,hlt⟩ hr rfl (by decide) (by decide) (by decide) (by decide) rfl hn rfl
   ·simp only [byI]
    cases u with
    | true =>
     simp;refine ⟨by omega,?_⟩
     exact aVr hlt hx hd.ud h3 ⟨by omega,hlt⟩ hr rfl (by decide) rfl rfl (by show _∧_;omega) (by decide) (by decide) (by decide) hn rfl rfl
    | false =>
     simp;refine ⟨by omega,?_⟩
     exact aVs hlt hx hd.ud h3 ⟨by omega,hlt⟩ hr rfl (by decide) rfl rfl (by decide) (by decide) (by decide) hn rfl
   ·have e:decide (k≤4)=false:=decide_eq_false (by omega)
    rw [e,Bool.false_and];refine ⟨by simp;omega,?_⟩
    exact aVw hlt hx hd.ud h3 ⟨by omega,hlt⟩ hr rfl (by omega) (by omega) (by omega) (by omega) (by omega) hn rfl
 ·have e:oS dl q dc bib (ot,tm) [y0,k,y2,y3,y4,y5]=(ot,tm):=by
   have:([y0,k,y2,y3,y4,y5]:List Int).getD 3 0=y3:=rfl;unfold oS aDc;rw [show dB [y0,k,y2,y3,y4,y5]=y3 from rfl,show (y3 == bib)=false by simpa using h3];simp
  rw [e];exact ⟨by dsimp only;omega,bHa hlt hx hd.ud h3 hn rfl⟩
theorem cEr(hd:bP dc)(hq:q.length≤1000)(us:uni 2 sk)(hl:sk.length≤1000){bib:Int}{j:Nat}{s0 s1:Int}(hz:bJ (fun x=>decide (x.getD 0 0=bib)) sk=(j:Int))(hs:sk[j]? = some [s0,s1])(hr : -1≤s1∧s1≤360000){base:Nat}:FV Tp 66 [.p (.agg (bC dl sk dc)),.p (aB bib),.p (aF q)] base (.tup [.p (aB (cA dl q dc bib s1).1),.p (blP (cA dl q dc bib s1).2)]) []:=by
 have hll:((bL dl q dc).map (cX dl)).length=dc.length:=by rw [Co,jW]
 have:=aD.range (P:=Tp) (k:=0) (b:=sub (cd Tryz.f66) dv) (e := .exit 0) (fun i (a:Bool × Int)=>dX dl sk dc bib q a.2 a.1 i) (fun a=>dX dl sk dc bib q a.2 a.1 dc.length) (oS dl q dc bib) (fun i a => -1-36000*(i:Int)≤a.2∧a.2≤360000+43200000*(i:Int)) (by simp) dc (a0:=(s1 == -1,s1)) (by dsimp only;omega)
  (fun i x a hx ha=>bXm hd hx ha)
  (fun a _=>aVx (by rw [hll];omega))
 have e0:(s1 == -1)=decide (s1<(0:Int)):=by
  rw [Bool.eq_iff_iff,beq_iff_eq,decide_eq_true_eq];omega
 dsimp only at this
 rw [e0] at this
 unfold cA;unfold aAu;rw [e0];have Cj:sk[((j:Int)).toNat]? = some [s0,s1]:=by simpa using hs
 cases h:(dc.foldl (oS dl q dc bib) (decide (s1<(0:Int)),s1)).1 with
 | true =>
  rw [h] at this
  simp only [if_true];exact cEu hd hq us hl hz Cj (by omega) this rfl
 | false =>
  rw [h] at this
  simp only [Bool.false_eq_true,if_false];exact cEv hd hq us hl hz Cj (by omega) this rfl (by split <;> omega)
theorem cEs(a:Lqq)(ha:uni 3 a)(hl:a.length≤1000){base:Nat}:FV Tp 63 [.p (.sl a.length (a.flatten.map aB)),.p (.sl a.length (a.flatten.map aB))] base (.p (blP true)) []:=by
 have:=aD.range (P:=Tp) (k:=0) (b:=sub (cd Tryz.f63) g8) (e := .exit 0) (fun i (_:Unit)=>kB a a i) (fun _=>kB a a a.length) (fun u _=>u) (fun _ _=>True) (by simp) a (a0:=()) trivial
  (fun i x _ hx _=>by
   have hi:=aM hx;obtain ⟨x0,x1,x2,rfl⟩:=Dd (ha x (Bl hx));exact ⟨trivial,aJw (by omega) hx ha hx ha ⟨rfl,rfl⟩ (by simp [iV,tP]) (aI (by omega)) rfl⟩)
  (fun _ _=>aJx (by omega))
 exact bRq this (by simp)
theorem cEt(a:Lqq)(ha:uni 3 a)(hl:a.length≤1000){base:Nat}:FV Tp 43 [.p (.sl a.length (a.flatten.map aB))] base (.p (.sl a.length (a.flatten.map aB))) []:=by
 have:=aD.range (P:=Tp) (k:=0) (b:=sub (cd Tryz.f43) fy) (e := .exit 0) (fun i (o:Lqq)=>tZ a o.length (o.flatten.map aB) i) (fun o=>tZ a o.length (o.flatten.map aB) a.length) (fun o x=>o++[x]) (fun i o=>o.length=i) (by simp) a (a0:=[]) rfl
  (fun i x o hx ho=>by
   have hi:=aM hx;obtain ⟨x0,x1,x2,rfl⟩:=Dd (ha x (Bl hx));exact ⟨by simp [ho],bHe (by omega) hx ha ⟨rfl,by omega⟩ (aI (by omega)) (by simp) (by simp) rfl⟩)
  (fun o _=>bHf (by omega))
 have e:∀ (l o:Lqq),l.foldl (fun o x=>o++[x]) o=o++l:=by
  intro l
  induction l with
  | nil=>intro o;simp
  | cons x l ih=>intro o;rw [kO,ih];simp
 rw [e,List.nil_append] at this
 exact cEx this
end
end
section
variable {g h s h' s' I2 I3:Bool}{b p x y z p' bib S1 S2 S3 Nk Jc Nl Aa Ab Ac:Int}{l u Ag:Lqq}{o op:List Int}{i k i' Bm base Me:Nat}

noncomputable abbrev xL:Code:=sub (cd Tryz.f102) [1,0,1,0,0]
noncomputable abbrev xM:Code:=sub (cd Tryz.f40) [1,1,1,0,1,0,0,1,0,0,1,0,1,0,0]
noncomputable abbrev aNa:Code:=sub (cd Tryz.f40) [1,1,1,0,1,0,0]
noncomputable abbrev aVo:Code:=sub (cd Tryz.f38) [1,1,0,1,0,0]
noncomputable abbrev aVp:Code:=sub (cd Tryz.f38) [1,1,0,1,0,0,1,0,0,1,1,0,0]
def oiE(x:List Int):List PV:=[aF x]
def reE(x:Lqq):List PV:=[.sl x.length (x.flatten.map aB)]
def lB(l:Lqq)(b:Int)(i:Nat)(x y z:Int):St:=⟨fr 24 [(0,(.p (fS l))),(1,(pI b)),(4,(.ptr 0 0)),(5,(pI (i:Int)))],[some (.box 76 [(pI x),(pI y),(pI z)])]⟩
theorem cEn(hl0:aD Tp 0 xL (lB l b 0 0 0 0) (.exit 0) (lB l b Bm S1 S2 S3)):FV Tp 102 [(.p (fS l)),(pI b)] base (.p (.agg [(aB 0),(aB 0),(aB 0)])) []:=FV.fi func102 [hl0.k 6 (gI [2,2,6,17] [0])] (gc hl0.code gn)
theorem cEo(hl0:aD Tp 0 xL (lB l b 0 0 0 0) .ret (lB l b Bm S1 S2 S3)):FV Tp 102 [(.p (fS l)),(pI b)] base (.p (.agg [(aB S1),(aB S2),(aB S3)])) []:=FV.fi func102 [hl0.k 6 (gI [2,2,6,17] [0])] (gc hl0.code gn)
section
variable(h0:(i:Int)<(l.length:Int))(h1:l[i]? = some [Aa,Ab,Ac])(h2:uni 3 l)
include h0 h1 h2
theorem bGl(h3:Aa=b):aC Tp 0 xL (lB l b i x y z) .ret (lB l b i Aa Ab Ac):=aC.fi (gI [2,2,6,17] [0]) [bT,.x (aB Aa),bT,.x (.agg [(aB Aa),(aB Ab),(aB Ac)])] (gfl h2 h1 (gc (bX h3) (gt ((l.flatten.map aB)[(i*3)]? = some (aB Aa)) (bE (i:=i) (f:=0) h2 h1 rfl) (gc (gJ (k:=3) (i:=(i:Int)) (by decide) h2 (Bp _) h1) (g0 h0)))))
theorem bGm(h3:Aa≠b)(h4:gk i)(Ai:i'=(i+1)):aC Tp 0 xL (lB l b i x y z) .normal (lB l b i' x y z):=by
 subst Ai;exact aC.fi (gI [2,2,6,17] [0]) [bT,.x (aB Aa),bF] (gc h4 (gc (aS h3) (gt ((l.flatten.map aB)[(i*3)]? = some (aB Aa)) (bE (i:=i) (f:=0) h2 h1 rfl) (gc (gJ (k:=3) (i:=(i:Int)) (by decide) h2 (Bp _) h1) (g0 h0)))))
end
theorem bGn(h0:(l.length:Int)≤(i:Int)):aC Tp 0 xL (lB l b i x y z) (.exit 0) (lB l b i x y z):=aC.fi (gI [2,2,6,17] [0]) [bF] (gc (aK h0) gn)
theorem aNb{a b c:Int}(L:Lqq)(bib:Int)(hu:uni 3 L)(hl:L.length≤1000)(e:wS L bib=[a,b,c]){base:Nat}:FV Tp 102 [.p (fS L),.p (aB bib)] base (.p (.agg [aB a,aB b,aB c])) []:=by
 have key:∀ (d i:Nat),i+d=L.length→(L.drop i).find? (fun y=>decide (y.getD 0 0=bib))=L.find? (fun y=>decide (y.getD 0 0=bib)) →
   (∃ i' y0 y1 y2,L.find? (fun y=>decide (y.getD 0 0=bib))=some [y0,y1,y2]∧aD Tp 0 xL (lB L bib i 0 0 0) .ret (lB L bib i' y0 y1 y2)) ∨
   (∃ i',L.find? (fun y=>decide (y.getD 0 0=bib))=none∧aD Tp 0 xL (lB L bib i 0 0 0) (.exit 0) (lB L bib i' 0 0 0)):=by
  intro d
  induction d with
  | zero =>
   intro i hi hf;refine .inr ⟨i,?_,.exit (bGn (by omega)) (by simp)⟩
   rw [← hf,List.drop_eq_nil_of_le (by omega)];rfl
  | succ d ih =>
   intro i hi hf;have hlt:i<L.length:=by omega
   obtain ⟨y0,y1,y2,hy⟩:=Dd (hu _ (fP hlt));have hx:L[i]? = some [y0,y1,y2]:=by rw [Ay hlt,hy]
   have hd:L.drop i=[y0,y1,y2]::L.drop (i+1):=by rw [aMo hlt,hy]
   rw [hd,List.find?_cons] at hf
   by_cases hb:y0=bib
   ·rw [show decide (([y0,y1,y2]:List Int).getD 0 0=bib)=true from decide_eq_true hb] at hf
    exact .inl ⟨i,y0,y1,y2,hf.symm,.exit (bGl (by omega) hx hu hb) (by simp)⟩
   ·rw [show decide (([y0,y1,y2]:List Int).getD 0 0=bib)=false from decide_eq_false hb] at hf
    have hst:=bGm (l:=L) (b:=bib) (i:=i) (i':=i+1) (x:=0) (y:=0) (z:=0) (by omega) hx hu hb (aI (by omega)) rfl
    rcases ih (i+1) (by omega) hf with ⟨i',z0,z1,z2,q1,q2⟩ | ⟨i',q1,q2⟩
    ·exact .inl ⟨i',z0,z1,z2,q1,.step hst q2⟩
    ·exact .inr ⟨i',q1,.step hst q2⟩
 unfold wS at e
 rcases key L.length 0 (by omega) (by simp) with ⟨i',y0,y1,y2,q1,q2⟩ | ⟨i',q1,q2⟩
 ·rw [q1] at e
  obtain ⟨rfl,rfl,rfl⟩:y0=a∧y1=b∧y2=c:=by simpa using e
  exact cEo q2
 ·rw [q1] at e
  obtain ⟨rfl,rfl,rfl⟩:(0:Int)=a∧(0:Int)=b∧(0:Int)=c:=by simpa using e
  exact cEn q2

def pU(rs:List (Lqq))(bib:Int)(on:Nat)(oc:List PV)(g:Bool)(p:Int):St:=⟨fr 51 [(0,(.p (.sl rs.length ((rs.map reE).flatten)))),(1,(pI bib)),(4,(.p cC)),(5,(.kb false)),(6,(.own 0)),(7,(pB g)),(8,(pI p))],[some (.row 3 on oc)]⟩
theorem cEp{rs:List (Lqq)}{B9:List Int}{Vh:Bool}{W5:Int}(hl0:aD Tp 0 aNa (pU rs bib 0 [] false 1) (.exit 0) (pU rs bib B9.length (B9.map aB) Vh W5)):FV Tp 40 [(.p (.sl rs.length ((rs.map reE).flatten))),(pI bib)] base (.tup [(.p (aF B9)),(pB Vh)]) []:=FV.frz (FMM.fi 0 ⟨[],[],[0],[]⟩ func40 [hl0.k 10 (gN [2,2,9,42] [0] [(6,3),(7,0)])] (gc hl0.code gn)) (by kernel_rfl)
def iD(rs:List (Lqq))(bib:Int)(o:List Int)(p:Int)(s h:Bool)(i:Nat):St:=⟨fr 51 [(0,(.p (.sl rs.length ((rs.map reE).flatten)))),(1,(pI bib)),(4,(.p cC)),(5,(.kb false)),(6,(.own 0)),(7,(pB h)),(8,(pI p)),(9,(pB s)),(10,(pI (i:Int)))],[some (.row 3 o.length (o.map aB))]⟩
section
variable{rs:List (Lqq)}(h0:p≤30)(hl1:aD Tp 0 xM (iD rs bib o p false g 0) (.exit 2) (iD rs bib o p I3 I2 Me))
include h0 hl1
theorem bGo{o':List Int}(h2:I3=true)(h3:[(aB p)].length=1*1∧o.length+1≤1000000)(h4:inR (p+1))(Bq:o'.length=(o.length+1))(Br:o'.map aB=((o.map aB)++[(aB p)]))(Ph:p'=(p+1)):aC Tp 0 aNa (pU rs bib o.length (o.map aB) g p) .normal (pU rs bib o'.length (o'.map aB) I2 p'):=by
 subst Ph;rw [Bq,Br];exact aC.fi (gI [2,2,9,42] [2]) [bT,hl1.k 8 (gN g9 [0] [(9,0)]),bT] (gc h4 (gc h3 (gc h2 (gc hl1.code (gc (oQ h0) gn)))))
theorem bGp(h2:I3=false)(h3:inR (p+1))(Ph:p'=(p+1)):aC Tp 0 aNa (pU rs bib o.length (o.map aB) g p) .normal (pU rs bib o.length (o.map aB) I2 p'):=by
 subst Ph;exact aC.fi (gI [2,2,9,42] [0]) [bT,hl1.k 8 (gN g9 [0] [(9,0)]),bF] (gc h3 (gc h2 (gc hl1.code (gc (oQ h0) gn))))
end
theorem bGq{rs:List (Lqq)}(h0:(30:Int)<p):aC Tp 0 aNa (pU rs bib o.length (o.map aB) g p) (.exit 0) (pU rs bib o.length (o.map aB) g p):=aC.fi (gI [2,2,9,42] [0]) [bF] (gc (kZ h0) gn)
section
variable{rs:List (Lqq)}(h0:(i:Int)<(rs.length:Int))(h1:s=true)
include h0 h1
theorem bGr(h2:h=true)(h3:gk i)(Ai:i'=(i+1)):aC Tp 0 xM (iD rs bib o p s h i) .normal (iD rs bib o p true true i'):=by
 subst Ai;exact aC.fi (gN g9 [0] [(9,0),(7,0)]) (rT 20) (gc h3 (E1 h2 (gc h2 (E1 h1 (Aq h1 (g0 h0))))))
theorem bGs(h2:h=false)(h3:rs[i]? = some (Ag))(h4:uni 3 Ag)(h5:Ag.length≤1000)(h6:wS Ag bib=[Nk,Jc,Nl])(h7:gk i)(S4:h'=(decide (Jc<0)))(Ai:i'=(i+1)):aC Tp 0 xM (iD rs bib o p s h i) .normal (iD rs bib o p true h' i'):=by
 subst S4 Ai;have k1:=fk 1 (aNb Ag bib h4 h5 h6) rfl;exact aC.fi (gN g9 [0] [(9,0)]) (rT 11++[bF,bF,bF,bF,.x (fS Ag),bF,bF,k1.o,bF,bF,bF]) (gc h7 (Ak h2 (gc k1 (Aq h2 (gt (((rs.map reE).flatten)[(i*1)]? = some (fS Ag)) (bA (E:=reE) (i:=i) (f:=0) (k:=1) (fun _=>rfl) h3 rfl) (gc h2 (gc (cN (E:=reE) (k:=1) (i:=(i:Int)) (fun _=>rfl) (by decide) (Bp _) h3) (Ak h2 (E1 h1 (Aq h1 (g0 h0)))))))))))
end
section
variable{rs:List (Lqq)}(h0:(i:Int)<(rs.length:Int))(h1:s=false)(h2:rs[i]? = some (Ag))(h3:uni 3 Ag)(h4:Ag.length≤1000)(h5:wS Ag bib=[Nk,Jc,Nl])
include h0 h1 h2 h3 h4 h5
theorem bGt(h6:h=true)(h7:gk i)(Cw:s'=(Jc == p))(Ai:i'=(i+1)):aC Tp 0 xM (iD rs bib o p s h i) .normal (iD rs bib o p s' true i'):=by
 subst Cw Ai;have k1:=fk 1 (aNb Ag bib h3 h4 h5) rfl;exact aC.fi (gN g9 [0] [(7,0)]) ([bT,bF,bF,bF,bF,.x (fS Ag),bF,bF,k1.o,bF,bF,bF,bF]++rT 9) (gc h7 (E1 h6 (gc h6 (Au h1 (gc k1 (Aq h1 (gt (((rs.map reE).flatten)[(i*1)]? = some (fS Ag)) (bA (E:=reE) (i:=i) (f:=0) (k:=1) (fun _=>rfl) h2 rfl) (gc h1 (gc (cN (E:=reE) (k:=1) (i:=(i:Int)) (fun _=>rfl) (by decide) (Bp _) h2) (Ak h1 (g0 h0)))))))))))
theorem bGu{S5 Iq S6:Int}(h6:h=false)(h7:wS Ag bib=[S5,Iq,S6])(h8:gk i)(Cw:s'=(Jc == p))(S4:h'=(decide (Iq<0)))(Ai:i'=(i+1)):aC Tp 0 xM (iD rs bib o p s h i) .normal (iD rs bib o p s' h' i'):=by
 subst Cw S4 Ai;have k1:=fk 1 (aNb Ag bib h3 h4 h5) rfl;have k2:=fk 1 (aNb Ag bib h3 h4 h7) rfl;exact aC.fi (gI g9 [0]) ([bT,bF,bF,bF,bF,.x (fS Ag),bF,bF,k1.o]++rF 8++[.x (fS Ag),bF,bF,k2.o,bF,bF,bF]) (gc h8 (Ak h6 (gc k2 (Aq h6 (gt (((rs.map reE).flatten)[(i*1)]? = some (fS Ag)) (bA (E:=reE) (i:=i) (f:=0) (k:=1) (fun _=>rfl) h2 rfl) (gc h6 (gc (cN (E:=reE) (k:=1) (i:=(i:Int)) (fun _=>rfl) (by decide) (Bp _) h2) (Ak h6 (Au h1 (gc k1 (Aq h1 (gt (((rs.map reE).flatten)[(i*1)]? = some (fS Ag)) (bA (E:=reE) (i:=i) (f:=0) (k:=1) (fun _=>rfl) h2 rfl) (gc h1 (gc (cN (E:=reE) (k:=1) (i:=(i:Int)) (fun _=>rfl) (by decide) (Bp _) h2) (Ak h1 (g0 h0))))))))))))))))
end
theorem bGv{rs:List (Lqq)}(h0:(rs.length:Int)≤(i:Int)):aC Tp 0 xM (iD rs bib o p s h i) (.exit 2) (iD rs bib o p s h i):=aC.fi (gI g9 [0]) [bF] (gc (aK h0) gn)
def tY(op:List Int)(on:Nat)(oc:List PV)(i:Nat):St:=⟨fr 37 [(0,(.p (aF op))),(2,(.p cC)),(3,(.own 0)),(4,(pI (i:Int)))],[some (.row 33 on oc)]⟩
theorem cEq{B9:Lqq}{E0:Nat}(hl0:aD Tp 0 aVo (tY op 1 [cC] 0) (.exit 0) (tY op B9.length ((B9.map oiE).flatten) E0)):FV Tp 38 [(.p (aF op))] base (.p (.sl B9.length ((B9.map oiE).flatten))) []:=FV.frz (FMM.fi 0 ⟨[],[],[0],[]⟩ func38 [hl0.k 8 (gI [1,1,5,32] [0])] (gc hl0.code gn)) (by kernel_rfl)
def pV(op:List Int)(o:Lqq)(i un:Nat)(uc:List PV)(k:Nat):St:=⟨fr 37 [(0,(.p (aF op))),(2,(.p cC)),(3,(.own 0)),(4,(pI (i:Int))),(5,(pI (o.length:Int))),(6,(pI (k:Int)))],[some (.row 33 un uc)]⟩
theorem bGw{o I4:Lqq}{Pi:Nat}{o':Lqq}(h0:(i:Int)<(op.length:Int))(hl1:aD Tp 0 aVp (pV op o i o.length ((o.map oiE).flatten) 0) (.exit 2) (pV op o i I4.length ((I4.map oiE).flatten) Pi))(h2:gk i)(Bq:o'.length=I4.length)(Br:(o'.map oiE).flatten=((I4.map oiE).flatten))(Ai:i'=(i+1)):aC Tp 0 aVo (tY op o.length ((o.map oiE).flatten) i) .normal (tY op o'.length ((o'.map oiE).flatten) i'):=by
 subst Ai;rw [Bq,Br];exact aC.fi (gI [1,1,5,32] [0]) [bT,hl1.k 7 (gI [1,1,7,30] [0])] (gc h2 (gc hl1.code (g0 h0)))
theorem bGx{o:Lqq}(h0:(op.length:Int)≤(i:Int)):aC Tp 0 aVo (tY op o.length ((o.map oiE).flatten) i) (.exit 0) (tY op o.length ((o.map oiE).flatten) i):=aC.fi (gI [1,1,5,32] [0]) [bF] (gc (aK h0) gn)
theorem bGy{o:Lqq}{Ag:List Int}{J1:Int}{u':Lqq}{k':Nat}(h0:(k:Int)<(o.length:Int))(h1:0≤(k:Int)∧(k:Int)<(u.length:Int))(h2:u[k]? = some (Ag))(h3:(Ag.map aB).length=Ag.length*1∧0+Ag.length≤1000000)(h4:op[i]? = some J1)(h5:[(aB J1)].length=1*1∧(0+Ag.length)+1≤1000000)(h6:[(PV.sl ((0+Ag.length)+1) ((Ag.map aB)++[(aB J1)]))].length=1*1∧u.length+1≤1000000)(h7:gk k)(S7:u'.length=(u.length+1))(S8:(u'.map oiE).flatten=(((u.map oiE).flatten)++[(PV.sl ((0+Ag.length)+1) ((Ag.map aB)++[(aB J1)]))]))(Ci:k'=(k+1)):aC Tp 0 aVp (pV op o i u.length ((u.map oiE).flatten) k) .normal (pV op o i u'.length ((u'.map oiE).flatten) k'):=by
 subst Ci;rw [S7,S8];exact aC.fi (gI [1,1,7,30] [6]) [bT,.x (aF Ag),.x (aB J1)] (gc h7 (gc h6 (gc h5 (gc (atm aB h4) (gc (ixn aB h4) (gc h3 (gt (((u.map oiE).flatten)[(k*1)]? = some (aF Ag)) (bA (E:=oiE) (i:=k) (f:=0) (k:=1) (fun _=>rfl) h2 rfl) (gc h1 (g0 h0)))))))))
theorem bGz{o:Lqq}(h0:(o.length:Int)≤(k:Int)):aC Tp 0 aVp (pV op o i u.length ((u.map oiE).flatten) k) (.exit 2) (pV op o i u.length ((u.map oiE).flatten) k):=aC.fi (gI [1,1,7,30] [0]) [bF] (gc (aK h0) gn)
end
section
section
variable {P:Program} {C C0:Cx} {M M0:Mem} {w w0:World}
theorem bRo(hM:aU P C M w){id ty n:Nat}{cs Bz:List PV}(hb:M[id]? = some (some (.row ty n cs)))(hl:Bz.length=cs.length)
  (hx:∀ j (h:j<Bz.length) u,cM C.F w (cs[j]'(by omega)) u→cM C.F w Bz[j] u):aU P C (bB M id (some (.row ty n Bz))) w∧Fr C M w C (bB M id (some (.row ty n Bz))) w:=by
 have hold:∀ (i:Nat) (o:AO),i≠id→(bB M id (some (.row ty n Bz)))[i]? = some (some o)→M[i]? = some (some o):=fun i o h=>(aT M id i _ o (fun e=>h e.symm)).1
 have hnew:∀ (o:AO),(bB M id (some (.row ty n Bz)))[id]? = some (some o)→o = .row ty n Bz:=fun o h=>by rw [aY] at h;cases h;rfl
 have hliv:∀ (i:Nat) (o:AO),(bB M id (some (.row ty n Bz)))[i]? = some (some o)→o.live=true→∃ o1,M[i]? = some (some o1)∧o1.live=true:=fun i o h hl=>by
  by_cases e:i=id
  ·subst e;exact ⟨_,hb,rfl⟩
  ·exact ⟨o,hold i o e h,hl⟩
 have f:Fr C M w C (bB M id (some (.row ty n Bz))) w:=by
  refine ⟨rfl,rfl,rfl,dF _,fun _ _ _=>rfl,fun i o h=>⟨?_,rfl,rfl⟩,fun i o h Vg n2 M7 hm => ?_,fun i o h o' h' hl => ?_,fun i o b h hl hbb => ?_,fun b h=>h,fun b h => .inl h⟩
  ·by_cases e:i=id
   ·subst e;exact ⟨_,aY ..⟩
   ·exact ⟨o,(aT M id i _ o (fun e'=>e e'.symm)).2 h⟩
  ·by_cases e:i=id
   ·subst e
    have:=hnew _ hm;cases this;exact ⟨cs,hb⟩
   ·exact ⟨M7,hold i _ e hm⟩
  ·obtain ⟨o1,q1,q2⟩:=hliv i o' h' hl
   rw [h] at q1;cases q1;exact q2
  ·obtain ⟨o1,q1,q2⟩:=hliv i o h hl
   exact .inr ⟨i,o1,q1,q2,hbb⟩
 have hL:=hM.le f;refine ⟨⟨fun i Vg n2 M7 hm => ?_,fun i Vg M7 hm => ?_,fun i es cl hm => ?_,fun i i' o1 o2 b hm hl D3 Ed h1 h2 => ?_,fun i o b hm hl hbb => ?_,hM.Fs,fun i o b hm hl hbb => ?_⟩,f⟩
 ·by_cases e:i=id
  ·subst e
   have:=hnew _ hm;cases this
   rcases hM.row _ _ _ _ hb with ⟨h1,h2,h3⟩ | ⟨b,arr,i2,q0,q1,q2,q3,q4,q5,q6,q7,q8⟩
   ·refine .inl ⟨h1,h2,aCw (by rw [hl,h3];rfl)⟩
   ·exact .inr ⟨b,arr,i2,q0,q1,q2,q3,by rw [hl];exact q4,q5,q6,fun j hj=>hx j hj _ (q7 j (by omega)),fun j hj=>q8 j (by omega)⟩
  ·exact hM.row _ _ _ _ (hold i _ e hm)
 ·by_cases e:i=id
  ·subst e;cases hnew _ hm
  ·obtain ⟨b,arr,q0,q1,q2,q3,q4⟩:=hM.box _ _ _ (hold i _ e hm)
   exact ⟨b,arr,q0,q1,q2,fun j hj=>(q3 j hj).mono hL,q4⟩
 ·by_cases e:i=id
  ·subst e;cases hnew _ hm
  ·exact hM.mp _ _ _ (hold i _ e hm)
 ·obtain ⟨x1,y1,z1⟩:=hliv i o1 hm hl
  obtain ⟨x2,y2,z2⟩:=hliv i' o2 D3 Ed;exact hM.inj _ _ _ _ _ y1 z1 y2 z2 h1 h2
 ·obtain ⟨x1,y1,z1⟩:=hliv i o hm hl
  exact hM.nF _ _ _ y1 z1 hbb
 ·obtain ⟨x1,y1,z1⟩:=hliv i o hm hl
  exact hM.lt _ _ _ y1 z1 hbb
theorem bXj{t:List AV}{m:Mem}{id ty n:Nat}{cs Bz:List PV}{a:Act}(hb:m[id]? = some (some (.row ty n cs)))(hl:Bz.length=cs.length)
  (hx:∀ (F:Nat→Prop) j (h:j<Bz.length) u,cM F w (cs[j]'(by omega)) u→cM F w Bz[j] u) (hs:Sim P C0 M0 w0 ⟨t,m⟩ a w):Sim P C0 M0 w0 ⟨t,bB m id (some (.row ty n Bz))⟩ a w:=by
 obtain ⟨C,hS,hM,hF,hD⟩:=hs;obtain ⟨Iz,f2⟩:=bRo hM hb hl (fun j h u=>hx C.F j h u)
 exact ⟨C,hS.le (hM.le f2),Iz,hF.trans f2,hD.fr hM (gL rfl) f2⟩
theorem aD.sim{k:Nat}{b:Code}{st st1 Am:St}{e:Ex}(h:aD P k b st1 e Am)(hp:∀ (C0:Cx) (M0:Mem) (w0:World) (a:Act) (w:World),Sim P C0 M0 w0 st a w→Sim P C0 M0 w0 st1 a w):aD P k b st e Am:=fun C0 M0 w0 a w hk hs=>h C0 M0 w0 a w hk (hp _ _ _ _ _ hs)
end
theorem bRp{F:Nat→Prop}{w:World}:cM F w (aF []) (.slice none 0 0) := .sl 0 [] none 0 (fun _=>undef) (dF _) (Nat.zero_le _) (fun i h=>by simp at h) (fun i h=>by simp at h) (fun i h=>by simp at h)
abbrev plB(r:Lqq)(bib:Int):Int:=(wS r bib).getD 1 0
def plR(rs:List (Lqq))(bib:Int):List Int:=((List.range 30).map fun (i:Nat)=>(i:Int)+1).filter fun p=>rs.any fun r=>plB r bib == p
def gnR(rs:List (Lqq))(bib:Int):Bool:=rs.any fun r=>decide (plB r bib<0)
section
variable {rs:List (Lqq)} {bib:Int}
theorem bXk{r:Lqq}(hu:uni 3 r)(bib:Int):∃ a b c,wS r bib=[a,b,c]:=by
 unfold wS;cases h:r.find? (fun y=>decide (y.getD 0 0=bib)) with
 | none=>exact ⟨0,0,0,rfl⟩
 | some y =>
  obtain ⟨a,b,c,rfl⟩:=Dd (hu y (rD h));exact ⟨a,b,c,rfl⟩
theorem cEk(hr:∀ r∈rs,uni 3 r∧r.length≤1000)(hl:rs.length≤1000)(o:List Int)(p:Int)(h:Bool) :
  aD Tp 0 (sub (cd Tryz.f40) bl) (iD rs bib o p false h 0) (.exit 2) (iD rs bib o p (rs.any fun r=>plB r bib == p) (h || gnR rs bib) rs.length):=by
 have:=aD.range (P:=Tp) (k:=0) (b:=sub (cd Tryz.f40) bl) (e := .exit 2) (fun i (a:Bool × Bool)=>iD rs bib o p a.1 a.2 i) (fun a=>iD rs bib o p a.1 a.2 rs.length) (fun (a:Bool × Bool) r=>(a.1 || plB r bib == p,a.2 || decide (plB r bib<0))) (fun _ _=>True) (by simp) rs (a0:=(false,h)) trivial
  (fun i r a hx _=>by
   have hi:=aM hx;obtain ⟨u3,l3⟩:=hr r (Bl hx);obtain ⟨x,y,z,e⟩:=bXk u3 bib;have ep:plB r bib=y:=by unfold plB;rw [e];rfl
   obtain ⟨s,g⟩:=a;refine ⟨trivial,?_⟩;dsimp only;rw [ep];cases s with
   | true=>cases g with
    | true=>exact bGr (by omega) rfl rfl (aI (by omega)) rfl
    | false=>exact bGs (by omega) rfl rfl hx u3 l3 e (aI (by omega)) (Bool.false_or _) rfl
   | false=>cases g with
    | true=>exact bGt (by omega) rfl hx u3 l3 e rfl (aI (by omega)) (Bool.false_or _) rfl
    | false=>exact bGu (by omega) rfl hx u3 l3 e rfl e (aI (by omega)) (Bool.false_or _) (Bool.false_or _) rfl)
  (fun a _=>bGv (by omega))
 have ef:∀ (l:List (Lqq)) (a:Bool × Bool),l.foldl (fun (a:Bool × Bool) r=>(a.1 || plB r bib == p,a.2 || decide (plB r bib<0))) a=(a.1 || l.any (fun r=>plB r bib == p),a.2 || gnR l bib):=by
  intro l
  induction l with
  | nil=>intro a;simp [gnR]
  | cons r l ih =>
   intro a;rw [kO,ih];unfold gnR;simp [Bool.or_assoc]
 rw [ef] at this
 simpa using this
theorem cEl(hr:∀ r∈rs,uni 3 r∧r.length≤1000)(hl:rs.length≤1000){base:Nat}:FV Tp 40 [.p (.sl rs.length ((rs.map reE).flatten)),.p (aB bib)] base (.tup [.p (aF (plR rs bib)),.p (blP (gnR rs bib))]) []:=by
 have:=aD.times (P:=Tp) (k:=0) (b:=sub (cd Tryz.f40) ey) (e := .exit 0) (fun i (a:List Int × Bool)=>pU rs bib a.1.length (a.1.map aB) a.2 ((i:Int)+1)) (fun a=>pU rs bib a.1.length (a.1.map aB) a.2 31) (fun (a:List Int × Bool) i=>(if rs.any (fun r=>plB r bib == (i:Int)+1) then a.1++[(i:Int)+1] else a.1,a.2 || gnR rs bib)) (fun i a=>a.1.length≤i) (by simp) 30 (a0:=([],false)) (by simp)
  (fun i a hi ha=>by
   have hL:=cEk (bib:=bib) hr hl a.1 ((i:Int)+1) a.2;obtain ⟨o,g⟩:=a;dsimp only at hL ha ⊢
   cases hs:rs.any (fun r=>plB r bib == (i:Int)+1) with
   | true =>
    rw [hs] at hL
    exact ⟨by simp;omega,bGo (by omega) hL rfl ⟨rfl,by omega⟩ (by show _∧_;omega) (by simp) (by simp) (by omega)⟩
   | false =>
    rw [hs] at hL
    exact ⟨by simp;omega,bGp (by omega) hL rfl (by show _∧_;omega) (by omega)⟩)
  (fun a _=>bGq (by omega))
 have ef:∀ (l:List Nat) (a:List Int × Bool),l.foldl (fun (a:List Int × Bool) (i:Nat)=>(if rs.any (fun r=>plB r bib == (i:Int)+1) then a.1++[(i:Int)+1] else a.1,a.2 || gnR rs bib)) a=(a.1++(l.map fun (i:Nat)=>(i:Int)+1).filter (fun p=>rs.any fun r=>plB r bib == p),if l=[] then a.2 else a.2 || gnR rs bib):=by
  intro l
  induction l with
  | nil=>intro a;simp
  | cons i l ih =>
   intro a;rw [kO,ih,iB,List.filter_cons];cases hs:rs.any (fun r=>plB r bib == (i:Int)+1) with
   | true=>cases l <;> simp
   | false=>cases l <;> simp
 rw [ef] at this
 have e0:(((0:Nat):Int)+1)=1:=rfl;simp only [e0] at this
 have e1:(if List.range 30=[] then false else false || gnR rs bib)=gnR rs bib:=by
  rw [if_neg (by decide),Bool.false_or]
 rw [e1] at this
 exact cEp this
end
def cL(op:List Int):Lqq:=op.foldl (fun o x=>o++o.map (· ++ [x])) [[]]
section
variable {op:List Int}
theorem cEm{i:Nat}{x:Int}(hx:op[i]? = some x){o:Lqq}(ho:o.length≤100000)(hm:∀ l∈o,l.length≤1000) :
  aD Tp 0 (sub (cd Tryz.f38) bq) (pV op o i o.length ((o.map oiE).flatten) 0) (.exit 2) (pV op o i (o++o.map (· ++ [x])).length (((o++o.map (· ++ [x])).map oiE).flatten) o.length):=by
 obtain ⟨L,hL,h⟩:=aD.ex (P:=Tp) (k:=0) (b:=sub (cd Tryz.f38) bq) (e := .exit 2) (fun k (L:Lqq)=>pV op o i L.length ((L.map oiE).flatten) k) (fun L=>pV op o i L.length ((L.map oiE).flatten) o.length) (fun k L=>L=o++(o.take k).map (· ++ [x])) (by simp) o.length
  (fun k L hk hL=>by
   have hg:o[k]? = some o[k]:=Ay hk;have hc:L[k]? = some o[k]:=by rw [hL,aAh hk];exact hg
   have hLl:L.length=o.length+k:=by rw [hL];simp;omega
   have hcl:=hm _ (fP hk);refine ⟨L++[o[k]++[x]],?_,?_⟩
   ·rw [hL,List.take_add_one,hg,iA,List.append_assoc]
    rfl
   ·refine bGy (u':=L++[o[k]++[x]]) (Ag:=o[k]) (by omega) ⟨by omega,by omega⟩ hc ⟨by simp,by omega⟩ hx ⟨rfl,by omega⟩ ⟨rfl,by omega⟩ (aI (by omega)) (by simp) ?_ rfl
    rw [iA,aQx]
    congr 1
    show [aF (o[k]++[x])]++[]=_;simp [aF])
  (fun L hL=>bGz (by omega)) (acc:=o) (by simp)
 rw [List.take_length] at hL
 rw [hL] at h
 exact h
theorem aMz(hl:op.length≤8){base:Nat}:FV Tp 38 [.p (aF op)] base (.p (.sl (cL op).length (((cL op).map oiE).flatten))) []:=by
 have:=aD.range (P:=Tp) (k:=0) (b:=sub (cd Tryz.f38) fy) (e := .exit 0) (fun i (o:Lqq)=>tY op o.length ((o.map oiE).flatten) i) (fun o=>tY op o.length ((o.map oiE).flatten) op.length) (fun o x=>o++o.map (· ++ [x])) (fun i o=>o.length=2 ^ i∧∀ l∈o,l.length≤i) (by simp) op (a0:=[[]]) (by simp)
  (fun i x o hx ho=>by
   have hi:=aM hx;obtain ⟨h1,h2⟩:=ho;have h8:o.length≤256:=by
    rw [h1];exact fL (Nat.pow_le_pow_right (by omega) (show i≤8 by omega)) (by decide)
   have hin:=cEm hx (o:=o) (by omega) (fun l hl=>by have:=h2 l hl;omega)
   refine ⟨⟨by rw [iJ,Co,h1,Nat.pow_succ];omega,fun l hl => ?_⟩,bGw (by omega) hin (aI (by omega)) rfl rfl rfl⟩
   rcases jK.1 hl with h | h
   ·have:=h2 l h;omega
   ·obtain ⟨m,hm,rfl⟩:=B3.1 h
    have:=h2 m hm;simp;omega)
  (fun o _=>bGx (by omega))
 refine cEq (E0:=op.length) (aD.sim this fun C0 M0 w0 a w hs => ?_)
 exact bXj (id:=0) (n:=1) (ty:=33) (cs:=[cC]) (Bz:=[aF []]) rfl rfl (fun F j h u hu=>by
  have:j=0:=by simp at h;omega
  subst this;have hu:cM F w cC u:=hu;show cM F w (aF []) u;cases hu;exact bRp) hs
end
end
section
variable {Bs:Bool}{p Q5 Ia Ib Aa Ab F4 Cs Gu N7 Fo He Ej Dn E2 En Eo G5:Int}{o ls o' Ij Bd:Lqq}{q:List Int}{i j k i' j' k' Lv:Nat}
variable {dl:Int}{sk dc:Lqq}

noncomputable abbrev aBl:Code:=sub (cd Tryz.f39) [1,1,1,0,1,0,0,1,0,0,1,0,0]
noncomputable abbrev aOr:Code:=sub (cd Tryz.f39) [1,1,0,1,0,0]
noncomputable abbrev aOs:Code:=pS (cd Tryz.f39) 6 [0,1,0,0]
noncomputable abbrev aOt:Code:=pS (cd Tryz.f39) 5 [0,1,0,0,1,0,0,1,0,0]
noncomputable abbrev aZx:Code:=sub (cd Tryz.f39) [1,1,1,0,1,0,0]
noncomputable abbrev aZy:Code:=pS (cd Tryz.f39) 5 [0,1,0,0]
theorem bVo{q:List Int}(hd:bP dc)(hq:q.length≤1000)(us:uni 2 sk)(hl:sk.length≤1000){bib:Int}{j:Nat}{s0 s1 t:Int}{b:Bool}(hz:bJ (fun x=>decide (x.getD 0 0=bib)) sk=(j:Int))(hs:sk[j]? = some [s0,s1])(hr : -1≤s1∧s1≤360000)(ht:cA dl q dc bib s1=(t,b)){base:Nat}:FV Tp 66 [.p (.agg (bC dl sk dc)),.p (aB bib),.p (aF q)] base (.tup [.p (aB t),.p (blP b)]) []:=by
 have:=cEr (dl:=dl) hd hq us hl hz hs hr (base:=base);rw [ht] at this
 exact this
def oK(dl:Int)(sk dc:Lqq)(q:List Int)(lsn:Nat)(lsc:List PV)(i:Nat):St:=⟨fr 141 [(1,(.p (aF q))),(2,(.ptr 0 0)),(4,(.p cC)),(5,(.own 1)),(6,(pI (i:Int)))],[some (.box 61 [(pI dl),(.p (fS sk)),(.p (fS dc))]),some (.row 76 lsn lsc)]⟩
def vA(lsn:Nat)(lsc:List PV)(i:Nat):St:=⟨fr 141 [(4,(.p cC)),(5,(.own 0)),(11,(pI (i:Int)))],[some (.row 76 lsn lsc)]⟩
abbrev af(Bd:Lqq)(on:Nat)(oc:List PV):Mem:=[some (.row 76 Bd.length (Bd.flatten.map aB)),some (.row 76 on oc)]
def vB(Bd:Lqq)(on:Nat)(oc:List PV)(p:Int):St:=⟨fr 141 [(4,(.p cC)),(5,(.own 0)),(13,(.own 1)),(14,(pI p))],(af Bd on oc)⟩
def qL(Bd:Lqq)(on:Nat)(oc:List PV)(i:Nat):St:=⟨fr 141 [(4,(.p cC)),(5,(.own 0)),(13,(.own 1)),(16,(pI (i:Int)))],(af Bd on oc)⟩
theorem cMv{Lw:Lqq}{E0 Rj:Nat}{R3:Lqq}{Yz:Int}{Uz:Lqq}{Y0:Nat}(hl0:aD Tp 0 aOr (oK dl sk dc q 0 [] 0) (.exit 0) (oK dl sk dc q Lw.length (Lw.flatten.map aB) E0))(hl1:aD Tp 0 aZx (vA  Lw.length (Lw.flatten.map aB) 0) (.exit 2) (vA  Bd.length (Bd.flatten.map aB) Rj))(C6:aD Tp 0 aZy (vB Bd 0 [] 1) (.exit 6) (vB Bd R3.length (R3.flatten.map aB) Yz))(Dl:aD Tp 0 aOs (qL Bd R3.length (R3.flatten.map aB) 0) (.exit 10) (qL Bd Uz.length (Uz.flatten.map aB) Y0)){base:Nat}:FV Tp 39 [(.p (.agg (bC dl sk dc))),(.p (aF q))] base (.p (fS Uz)) []:=FV.frz (FMM.fi 0 ⟨[],[],[1],[]⟩ func39 [hl0.k 8 (gN dh [0,1] [(5,76)]),hl1.k 4 (gI cw [1]),C6.k 6 (gN cx [0,1] [(13,76)]),Dl.k 4 (gI cy [0,1])] (gc Dl.code (gc C6.code (gc hl1.code (gc hl0.code gn))))) (by kernel_rfl)
theorem bOk(h0:(i:Int)<(sk.length:Int))(h1:sk[i]? = some [Aa,Ab])(h2:uni 2 sk)(h3:bP dc)(h4:q.length≤1000)(h5:sk.length≤1000)(h6:bJ (fun x=>decide (x.getD 0 0=Aa)) sk=(Lv:Int))(h7:sk[Lv]? = some [Q5,Ia])(h8 : -1≤Ia∧Ia≤360000)(h9:cA dl q dc Aa Ia=(Ib,Bs))(A8:Bs=true)(Be:[(aB Aa),(aB (-1)),(aB Ib)].length=1*3∧ls.length+1≤1000000)(Bo:gk i)(Ga:Ij.length=(ls.length+1))(Gb:Ij.flatten.map aB=((ls.flatten.map aB)++[(aB Aa),(aB (-1)),(aB Ib)]))(Ai:i'=(i+1)):aC Tp 0 aOr (oK dl sk dc q ls.length (ls.flatten.map aB) i) .normal (oK dl sk dc q Ij.length (Ij.flatten.map aB) i'):=by
 subst Ai;have k1:=fk 2 (bVo h3 h4 h2 h5 h6 h7 h8 h9) rfl;rw [Ga,Gb];exact aC.fi (gI dh [0,4]) [bT,.x (aB Aa),k1.o,bT] (gc Bo (gc Be (gt ([(aB Aa),(aB (-1)),(aB Ib)].length=3) (by first | decide | simp) (gc A8 (gc k1 (gt ((sk.flatten.map aB)[(i*2)]? = some (aB Aa)) (bE (i:=i) (f:=0) h2 h1 rfl) (gc (gJ (k:=2) (i:=(i:Int)) (by decide) h2 (Bp _) h1) (g0 h0))))))))
theorem bOl(h0:(i:Int)<(sk.length:Int))(h1:sk[i]? = some [Aa,Ab])(h2:uni 2 sk)(h3:bP dc)(h4:q.length≤1000)(h5:sk.length≤1000)(h6:bJ (fun x=>decide (x.getD 0 0=Aa)) sk=(Lv:Int))(h7:sk[Lv]? = some [Q5,Ia])(h8 : -1≤Ia∧Ia≤360000)(h9:cA dl q dc Aa Ia=(Ib,Bs))(A8:Bs=false)(Be:[(aB Aa),(aB 1),(aB Ib)].length=1*3∧ls.length+1≤1000000)(Bo:gk i)(Ga:Ij.length=(ls.length+1))(Gb:Ij.flatten.map aB=((ls.flatten.map aB)++[(aB Aa),(aB 1),(aB Ib)]))(Ai:i'=(i+1)):aC Tp 0 aOr (oK dl sk dc q ls.length (ls.flatten.map aB) i) .normal (oK dl sk dc q Ij.length (Ij.flatten.map aB) i'):=by
 subst Ai;have k1:=fk 2 (bVo h3 h4 h2 h5 h6 h7 h8 h9) rfl;rw [Ga,Gb];exact aC.fi (gI dh [0,4]) [bT,.x (aB Aa),k1.o,bF] (gc Bo (gc Be (gt ([(aB Aa),(aB 1),(aB Ib)].length=3) (by first | decide | simp) (gc A8 (gc k1 (gt ((sk.flatten.map aB)[(i*2)]? = some (aB Aa)) (bE (i:=i) (f:=0) h2 h1 rfl) (gc (gJ (k:=2) (i:=(i:Int)) (by decide) h2 (Bp _) h1) (g0 h0))))))))
theorem bOm(h0:(sk.length:Int)≤(i:Int)):aC Tp 0 aOr (oK dl sk dc q ls.length (ls.flatten.map aB) i) (.exit 0) (oK dl sk dc q ls.length (ls.flatten.map aB) i):=aC.fi (gI dh [0,1]) [bF] (gc (aK h0) gn)
def jR(i lsn:Nat)(lsc:List PV)(k:Nat):St:=⟨fr 141 [(4,(.p cC)),(5,(.own 0)),(11,(pI (i:Int))),(12,(pI (k:Int)))],[some (.row 76 lsn lsc)]⟩
theorem bOn{Hf:Lqq}{Q6:Nat}(h0:(i:Int)<(ls.length:Int))(hl1:aD Tp 0 aBl (jR i ls.length (ls.flatten.map aB) 0) (.exit 4) (jR i Hf.length (Hf.flatten.map aB) Q6))(h2:gk i)(Ga:Ij.length=Hf.length)(Gb:Ij.flatten.map aB=(Hf.flatten.map aB))(Ai:i'=(i+1)):aC Tp 0 aZx (vA  ls.length (ls.flatten.map aB) i) .normal (vA  Ij.length (Ij.flatten.map aB) i'):=by
 subst Ai;rw [Ga,Gb];exact aC.fi (gI cw [0]) [bT,hl1.k 5 (gI ei [0])] (gc h2 (gc hl1.code (g0 h0)))
theorem bOo(h0:(ls.length:Int)≤(i:Int)):aC Tp 0 aZx (vA  ls.length (ls.flatten.map aB) i) (.exit 2) (vA  ls.length (ls.flatten.map aB) i):=aC.fi (gI cw [0]) [bF] (gc (aK h0) gn)
def qO(Bd:Lqq)(p:Int)(on:Nat)(oc:List PV)(j:Nat):St:=⟨fr 141 [(4,(.p cC)),(5,(.own 0)),(13,(.own 1)),(14,(pI p)),(15,(pI (j:Int)))],(af Bd on oc)⟩
theorem bOp{I9:Lqq}{Q7:Nat}{p':Int}(h0:p≤(Bd.length:Int))(hl1:aD Tp 0 aOt (qO Bd p o.length (o.flatten.map aB) 0) (.exit 8) (qO Bd p I9.length (I9.flatten.map aB) Q7))(h2:inR (p+1))(Bq:o'.length=I9.length)(Br:o'.flatten.map aB=(I9.flatten.map aB))(Ph:p'=(p+1)):aC Tp 0 aZy (vB Bd o.length (o.flatten.map aB) p) .normal (vB Bd o'.length (o'.flatten.map aB) p'):=by
 subst Ph;rw [Bq,Br];exact aC.fi (gI cx [0,1]) [bT,hl1.k 5 (gI eo [0,1])] (gc h2 (gc hl1.code (gc (oQ h0) gn)))
theorem bOq(h0:(Bd.length:Int)<p):aC Tp 0 aZy (vB Bd o.length (o.flatten.map aB) p) (.exit 6) (vB Bd o.length (o.flatten.map aB) p):=aC.fi (gI cx [0,1]) [bF] (gc (kZ h0) gn)
section
variable(h0:(i:Int)<(Bd.length:Int))(h1:Bd[i]? = some [En,Eo,G5])(h2:uni 3 Bd)
include h0 h1 h2
theorem bOr(h3:Eo<0)(h4:[(aB En),(aB Eo),(aB G5)].length=1*3∧o.length+1≤1000000)(h5:gk i)(Bq:o'.length=(o.length+1))(Br:o'.flatten.map aB=((o.flatten.map aB)++[(aB En),(aB Eo),(aB G5)]))(Ai:i'=(i+1)):aC Tp 0 aOs (qL Bd o.length (o.flatten.map aB) i) .normal (qL Bd o'.length (o'.flatten.map aB) i'):=by
 subst Ai;rw [Bq,Br];exact aC.fi (gI cy [0,3]) [bT,.x (aB Eo),bT,.x (.agg [(aB En),(aB Eo),(aB G5)])] (gc h5 (gc h4 (gt ([(aB En),(aB Eo),(aB G5)].length=3) (by first | decide | simp) (gc (mH (i:=i) h2 h1) (gc (nH (i:=i) h2 h1) (gc (cG (i:=(i:Int)) (Bp _) h1) (gc (bI h3) (gt ((Bd.flatten.map aB)[((i*3)+1)]? = some (aB Eo)) (bE (i:=i) (f:=1) h2 h1 rfl) (gc (cG (i:=(i:Int)) (Bp _) h1) (g0 h0))))))))))
theorem bOs(h3:(0:Int)≤Eo)(h4:gk i)(Ai:i'=(i+1)):aC Tp 0 aOs (qL Bd o.length (o.flatten.map aB) i) .normal (qL Bd o.length (o.flatten.map aB) i'):=by
 subst Ai;exact aC.fi (gI cy [0,1]) [bT,.x (aB Eo),bF] (gc h4 (gc (aK h3) (gt ((Bd.flatten.map aB)[((i*3)+1)]? = some (aB Eo)) (bE (i:=i) (f:=1) h2 h1 rfl) (gc (cG (i:=(i:Int)) (Bp _) h1) (g0 h0)))))
end
theorem bOt(h0:(Bd.length:Int)≤(i:Int)):aC Tp 0 aOs (qL Bd o.length (o.flatten.map aB) i) (.exit 10) (qL Bd o.length (o.flatten.map aB) i):=aC.fi (gI cy [0,1]) [bF] (gc (aK h0) gn)
section
variable(h0:(k:Int)<(ls.length:Int))(h1:ls[i]? = some [F4,Cs,Gu])(h2:uni 3 ls)(h3:(0:Int)<Cs)(h4:ls[k]? = some [N7,Fo,He])
include h0 h1 h2 h3 h4
theorem bOu(h5:(0:Int)<Fo)(h6:He<Gu)(h7:inR (Cs+1))(h8:((i*3)+1)<(ls.flatten.map aB).length)(h9:gk k)(Ga:Ij.length=ls.length)(Gb:Ij.flatten.map aB=((ls.flatten.map aB).set ((i*3)+1) (aB (Cs+1))))(Ci:k'=(k+1)):aC Tp 0 aBl (jR i ls.length (ls.flatten.map aB) k) .normal (jR i Ij.length (Ij.flatten.map aB) k'):=by
 subst Ci;rw [Ga,Gb];exact aC.fi (gI ei [0]) ([bT,.x (aB Cs)]++rT 5++[.x (aB Fo)]++rT 7++[.x (aB He)]++rT 5++[.x (aB Gu),bT,bT,bT,.x (aB Cs)]) (gc h9 (gc h8 (gc (cG (i:=(i:Int)) (Bp _) h1) (gc h7 (gt ((ls.flatten.map aB)[((i*3)+1)]? = some (aB Cs)) (bE (i:=i) (f:=1) h2 h1 rfl) (gc (cG (i:=(i:Int)) (Bp _) h1) (gc (bI h6) (Aq (bI h5) (gt ((ls.flatten.map aB)[((i*3)+2)]? = some (aB Gu)) (bE (i:=i) (f:=2) h2 h1 rfl) (Aq (bI h5) (gc (cG (i:=(i:Int)) (Bp _) h1) (Ak (bI h5) (gt ((ls.flatten.map aB)[((k*3)+2)]? = some (aB He)) (bE (i:=k) (f:=2) h2 h4 rfl) (Aq (bI h5) (gc (cG (i:=(k:Int)) (Bp _) h4) (Ak (bI h5) (Aq (bI h3) (gt ((ls.flatten.map aB)[((k*3)+1)]? = some (aB Fo)) (bE (i:=k) (f:=1) h2 h4 rfl) (Aq (bI h3) (gc (cG (i:=(k:Int)) (Bp _) h4) (Ak (bI h3) (gt ((ls.flatten.map aB)[((i*3)+1)]? = some (aB Cs)) (bE (i:=i) (f:=1) h2 h1 rfl) (gc (cG (i:=(i:Int)) (Bp _) h1) (g0 h0))))))))))))))))))))))))
theorem bOv(h5:(0:Int)<Fo)(h6:Gu≤He)(h7:gk k)(Ci:k'=(k+1)):aC Tp 0 aBl (jR i ls.length (ls.flatten.map aB) k) .normal (jR i ls.length (ls.flatten.map aB) k'):=by
 subst Ci;exact aC.fi (gI ei [0]) ([bT,.x (aB Cs)]++rT 5++[.x (aB Fo)]++rT 7++[.x (aB He)]++rT 5++[.x (aB Gu),bT,bT,bF]) (gc h7 (gc (aK h6) (Aq (bI h5) (gt ((ls.flatten.map aB)[((i*3)+2)]? = some (aB Gu)) (bE (i:=i) (f:=2) h2 h1 rfl) (Aq (bI h5) (gc (cG (i:=(i:Int)) (Bp _) h1) (Ak (bI h5) (gt ((ls.flatten.map aB)[((k*3)+2)]? = some (aB He)) (bE (i:=k) (f:=2) h2 h4 rfl) (Aq (bI h5) (gc (cG (i:=(k:Int)) (Bp _) h4) (Ak (bI h5) (Aq (bI h3) (gt ((ls.flatten.map aB)[((k*3)+1)]? = some (aB Fo)) (bE (i:=k) (f:=1) h2 h4 rfl) (Aq (bI h3) (gc (cG (i:=(k:Int)) (Bp _) h4) (Ak (bI h3) (gt ((ls.flatten.map aB)[((i*3)+1)]? = some (aB Cs)) (bE (i:=i) (f:=1) h2 h1 rfl) (gc (cG (i:=(i:Int)) (Bp _) h1) (g0 h0)))))))))))))))))))
theorem bOw(h5:Fo≤0)(h6:gk k)(Ci:k'=(k+1)):aC Tp 0 aBl (jR i ls.length (ls.flatten.map aB) k) .normal (jR i ls.length (ls.flatten.map aB) k'):=by
 subst Ci;exact aC.fi (gI ei [0]) ([bT,.x (aB Cs)]++rT 5++[.x (aB Fo),bT,bT]++rF 12) (gc h6 (E1 (aK h5) (Au (aK h5) (Aq (bI h3) (gt ((ls.flatten.map aB)[((k*3)+1)]? = some (aB Fo)) (bE (i:=k) (f:=1) h2 h4 rfl) (Aq (bI h3) (gc (cG (i:=(k:Int)) (Bp _) h4) (Ak (bI h3) (gt ((ls.flatten.map aB)[((i*3)+1)]? = some (aB Cs)) (bE (i:=i) (f:=1) h2 h1 rfl) (gc (cG (i:=(i:Int)) (Bp _) h1) (g0 h0)))))))))))
end
theorem bOx(h0:(k:Int)<(ls.length:Int))(h1:ls[i]? = some [F4,Cs,Gu])(h2:uni 3 ls)(h3:Cs≤0)(h4:gk k)(Ci:k'=(k+1)):aC Tp 0 aBl (jR i ls.length (ls.flatten.map aB) k) .normal (jR i ls.length (ls.flatten.map aB) k'):=by
 subst Ci;exact aC.fi (gI ei [0]) ([bT,.x (aB Cs)]++rF 7) (gc h4 (Ja (aK h3) (gt ((ls.flatten.map aB)[((i*3)+1)]? = some (aB Cs)) (bE (i:=i) (f:=1) h2 h1 rfl) (gc (cG (i:=(i:Int)) (Bp _) h1) (g0 h0)))))
theorem bOy(h0:(ls.length:Int)≤(k:Int)):aC Tp 0 aBl (jR i ls.length (ls.flatten.map aB) k) (.exit 4) (jR i ls.length (ls.flatten.map aB) k):=aC.fi (gI ei [0]) [bF] (gc (aK h0) gn)
section
variable(h0:(j:Int)<(Bd.length:Int))(h1:Bd[j]? = some [Ej,Dn,E2])(h2:uni 3 Bd)
include h0 h1 h2
theorem bOz(h3:Dn=p)(h4:[(aB Ej),(aB Dn),(aB E2)].length=1*3∧o.length+1≤1000000)(h5:gk j)(Bq:o'.length=(o.length+1))(Br:o'.flatten.map aB=((o.flatten.map aB)++[(aB Ej),(aB Dn),(aB E2)]))(Fl:j'=(j+1)):aC Tp 0 aOt (qO Bd p o.length (o.flatten.map aB) j) .normal (qO Bd p o'.length (o'.flatten.map aB) j'):=by
 subst Fl;rw [Bq,Br];exact aC.fi (gI eo [0,3]) [bT,.x (aB Dn),bT,.x (.agg [(aB Ej),(aB Dn),(aB E2)])] (gc h5 (gc h4 (gt ([(aB Ej),(aB Dn),(aB E2)].length=3) (by first | decide | simp) (gc (mH (i:=j) h2 h1) (gc (nH (i:=j) h2 h1) (gc (cG (i:=(j:Int)) (Bp _) h1) (gc (bX h3) (gt ((Bd.flatten.map aB)[((j*3)+1)]? = some (aB Dn)) (bE (i:=j) (f:=1) h2 h1 rfl) (gc (cG (i:=(j:Int)) (Bp _) h1) (g0 h0))))))))))
theorem bPa(h3:Dn≠p)(h4:gk j)(Fl:j'=(j+1)):aC Tp 0 aOt (qO Bd p o.length (o.flatten.map aB) j) .normal (qO Bd p o.length (o.flatten.map aB) j'):=by
 subst Fl;exact aC.fi (gI eo [0,1]) [bT,.x (aB Dn),bF] (gc h4 (gc (aS h3) (gt ((Bd.flatten.map aB)[((j*3)+1)]? = some (aB Dn)) (bE (i:=j) (f:=1) h2 h1 rfl) (gc (cG (i:=(j:Int)) (Bp _) h1) (g0 h0)))))
end
theorem bPb(h0:(Bd.length:Int)≤(j:Int)):aC Tp 0 aOt (qO Bd p o.length (o.flatten.map aB) j) (.exit 8) (qO Bd p o.length (o.flatten.map aB) j):=aC.fi (gI eo [0,1]) [bF] (gc (aK h0) gn)
end
section
theorem aSx{α:Type}{R:α→α→Prop}(ha:∀ a b,R a b→R b a→False):∀ (l l':List α),l.Pairwise R→l'.Pairwise R→(∀ x,x∈l↔x∈l')→l=l'
 | [],[],_,_,_=>rfl
 | [],b::l',_,_,h=>by have:=(h b).2 (by simp);simp at this
 | a::l,[],_,_,h=>by have:=(h a).1 (by simp);simp at this
 | a::l,b::l',h1,h2,h=>by
  obtain ⟨p1,p2⟩:=aMp.1 h1;obtain ⟨q1,q2⟩:=aMp.1 h2;have hab:a=b:=by
   rcases fW.1 ((h a).1 (by simp)) with e | hm
   ·exact e
   ·rcases fW.1 ((h b).2 (by simp)) with e | D5
    ·exact e.symm
    ·exact absurd (q1 a hm) fun h3=>ha _ _ h3 (p1 b D5)
  subst hab
  congr 1
  refine aSx ha l l' p2 q2 fun x=>⟨fun hx => ?_,fun hx => ?_⟩
  ·rcases fW.1 ((h x).1 (Ch _ hx)) with e | hm
   ·subst e;exact absurd (p1 _ hx) fun h3=>ha _ _ h3 h3
   ·exact hm
  ·rcases fW.1 ((h x).2 (Ch _ hx)) with e | hm
   ·subst e;exact absurd (q1 _ hx) fun h3=>ha _ _ h3 h3
   ·exact hm
theorem aZw(a b:List Int)(h1:bCu a b)(h2:bCu b a):False:=by
 unfold bCu at h1 h2
 by_cases hb:b.getD 1 0 = -1
 ·by_cases ha:a.getD 1 0 = -1
  ·have:=h1.1 hb ha;have:=h2.1 ha hb;omega
  ·exact (h2.2 ha).1 hb
 ·obtain ⟨p1,p2,p3⟩:=h1.2 hb
  obtain ⟨q1,q2,q3⟩:=h2.2 p1;have:=p3 (by omega);have:=q3 (by omega);omega
theorem aSy{α β:Type}(g:α→List β):∀ (l:List α) (o:List β),l.foldl (fun o i=>o++g i) o=o++l.flatMap g
 | [],o=>by simp
 | x::l,o=>by rw [kO,aSy g l];simp
section
variable {dl:Int} {sk dc:Lqq} {q:List Int}
abbrev fT(dl:Int)(q:List Int)(dc:Lqq)(s:List Int):Int × Bool:=cA dl q dc (sB s) (sT s)
def xZ(dl:Int)(q:List Int)(dc sk:Lqq):Lqq:=sk.map fun s=>[sB s,fG (fT dl q dc) sk s,(fT dl q dc s).1]
def byP(L:Lqq)(n:Nat):Lqq:=((List.range n).flatMap fun (i:Nat)=>L.filter fun x=>decide (x.getD 1 0=(i:Int)+1))++L.filter fun x=>decide (x.getD 1 0<0)
theorem aSz(f:List Int→Int × Bool)(S:Lqq){t u:Int}(h:t≤u):oT f S t≤oT f S u:=by
 unfold oT
 induction S with
 | nil=>simp
 | cons x S ih =>
  rw [List.filter_cons,List.filter_cons]
  split
  ·rename_i h1
   rw [if_pos (by
    simp only [Ce,decide_eq_true_eq] at h1 ⊢
    exact ⟨h1.1,by omega⟩)]
   simp only [oE];omega
  ·split
   ·simp only [oE];omega
   ·exact ih
theorem bVn(f:List Int→Int × Bool){S:Lqq}{k:List Int}(hk:k∈S)(hi:(f k).2=false){u:Int}(h:(f k).1<u):oT f S (f k).1<oT f S u:=by
 induction S with
 | nil=>cases hk
 | cons x S ih =>
  have hm:=aSz f S (t:=(f k).1) (u:=u) (by omega)
  unfold oT at ih hm ⊢
  rw [List.filter_cons,List.filter_cons]
  rcases fW.1 hk with rfl | hk
  ·rw [if_neg (by simp),if_pos (by simp [hi,h]),oE];omega
  ·have:=ih hk
   split
   ·rename_i h1
    rw [if_pos (by
     simp only [Ce,decide_eq_true_eq] at h1 ⊢
     exact ⟨h1.1,by omega⟩)]
    simp only [oE];omega
   ·split
    ·simp only [oE];omega
    ·exact this
theorem bCv(f:List Int→Int × Bool){S:Lqq}{k:List Int}(hk:k∈S):oT f S (f k).1<S.length:=by
 unfold oT;rw [List.length_filter_lt_length_iff_exists];exact ⟨k,hk,by simp⟩
theorem mK(f:List Int→Int × Bool)(S:Lqq)(k:List Int):(fG f S k = -1↔(f k).2=true)∧((f k).2=false→fG f S k=1+(oT f S (f k).1:Int)):=by
 unfold fG;cases h:(f k).2 with
 | true=>simp
 | false=>simp;omega
theorem aTa(hs:sk.Pairwise fun a b=>a.getD 0 0<b.getD 0 0){a b:List Int}(ha:a∈xZ dl q dc sk)(hb:b∈xZ dl q dc sk)(h:a.getD 1 0 ≠ -1)(h2:b.getD 1 0 ≠ -1):(a.getD 1 0<b.getD 1 0→a.getD 2 0<b.getD 2 0)∧(a.getD 1 0=b.getD 1 0→a.getD 2 0=b.getD 2 0):=by
 unfold xZ at ha hb
 obtain ⟨s,hsm,rfl⟩:=B3.1 ha;obtain ⟨u,hum,rfl⟩:=B3.1 hb;have h:fG (fT dl q dc) sk s ≠ -1:=h;have h2:fG (fT dl q dc) sk u ≠ -1:=h2;obtain ⟨p1,p2⟩:=mK (fT dl q dc) sk s;obtain ⟨q1,q2⟩:=mK (fT dl q dc) sk u;have hsf:(fT dl q dc s).2=false:=by
  cases hh:(fT dl q dc s).2 with
  | true=>exact absurd (p1.2 hh) h
  | false=>rfl
 have huf:(fT dl q dc u).2=false:=by
  cases hh:(fT dl q dc u).2 with
  | true=>exact absurd (q1.2 hh) h2
  | false=>rfl
 have e1:=p2 hsf;have e2:=q2 huf;show (fG (fT dl q dc) sk s<fG (fT dl q dc) sk u→(fT dl q dc s).1<(fT dl q dc u).1)∧(fG (fT dl q dc) sk s=fG (fT dl q dc) sk u→(fT dl q dc s).1=(fT dl q dc u).1);rw [e1,e2];have m1:=fun h=>aSz (fT dl q dc) sk (t:=(fT dl q dc u).1) (u:=(fT dl q dc s).1) h
 have m2:=fun h=>bVn (fT dl q dc) hsm hsf (u:=(fT dl q dc u).1) h
 have m3:=fun h=>bVn (fT dl q dc) hum huf (u:=(fT dl q dc s).1) h
 constructor
 ·intro h3
  by_cases h4:(fT dl q dc u).1≤(fT dl q dc s).1
  ·have:=m1 h4;omega
  ·omega
 ·intro h3
  by_cases h4:(fT dl q dc s).1<(fT dl q dc u).1
  ·have:=m2 h4;omega
  ·by_cases h5:(fT dl q dc u).1<(fT dl q dc s).1
   ·have:=m3 h5;omega
   ·omega
theorem aTb(hs:sk.Pairwise fun a b=>a.getD 0 0<b.getD 0 0):(xZ dl q dc sk).Pairwise fun a b=>a.getD 0 0<b.getD 0 0:=by
 unfold xZ;rw [List.pairwise_map];exact hs
theorem cMu(hs:sk.Pairwise fun a b=>a.getD 0 0<b.getD 0 0):byP (xZ dl q dc sk) sk.length=bM dl q dc sk:=by
 obtain ⟨r1,r2,r3⟩:=aHp (dl:=dl) (oc:=q) (dc:=dc) hs;have hL:=aTb (dl:=dl) (q:=q) (dc:=dc) hs;have hmem:∀ x,x∈byP (xZ dl q dc sk) sk.length↔x∈xZ dl q dc sk:=fun x=>by
  unfold byP;rw [jK,List.mem_flatMap,kY];constructor
  ·rintro (⟨i,_,h⟩ | h)
   ·exact (kY.1 h).1
   ·exact h.1
  ·intro hx
   have Qk:=hx;unfold xZ at hx
   obtain ⟨s,hsm,rfl⟩:=B3.1 hx;obtain ⟨p1,p2⟩:=mK (fT dl q dc) sk s;cases hh:(fT dl q dc s).2 with
   | true =>
    refine .inr ⟨Qk,?_⟩;show decide (fG (fT dl q dc) sk s<0)=true;rw [p1.2 hh];rfl
   | false =>
    refine .inl ⟨oT (fT dl q dc) sk (fT dl q dc s).1,iN.2 (bCv _ hsm),kY.2 ⟨Qk,?_⟩⟩;show decide (fG (fT dl q dc) sk s=_)=true;rw [p2 hh,decide_eq_true_eq];omega
 refine aSx aZw _ _ ?_ r1 fun x=>(hmem x).trans ?_
 ·unfold byP
  rw [List.pairwise_append];refine ⟨List.pairwise_flatMap.2 ⟨fun i _ => ?_,?_⟩,?_,?_⟩
  ·refine (List.pairwise_filter.2 (hL.imp_of_mem fun {a b} ha hb h h1 h2 => ?_))
   have h1:=of_decide_eq_true h1;have h2:=of_decide_eq_true h2;have:=(aTa hs ha hb (by omega) (by omega)).2 (by omega)
   exact ⟨fun h3=>by omega,fun _=>⟨by omega,by omega,fun _=>h⟩⟩
  ·refine List.pairwise_lt_range.imp fun {i j} hij=>fun x hx y hy => ?_
   obtain ⟨hx,h1⟩:=kY.1 hx;obtain ⟨hy,h2⟩:=kY.1 hy;have h1:=of_decide_eq_true h1;have h2:=of_decide_eq_true h2;have:=(aTa hs hx hy (by omega) (by omega)).1 (by omega)
   exact ⟨fun h3=>by omega,fun _=>⟨by omega,by omega,fun h=>by omega⟩⟩
  ·refine (List.pairwise_filter.2 (hL.imp_of_mem fun {a b} ha hb h h1 h2 => ?_))
   have h2:=of_decide_eq_true h2;have Dm:b.getD 1 0 = -1:=by
    unfold xZ at hb
    obtain ⟨s,_,rfl⟩:=B3.1 hb;obtain ⟨p1,p2⟩:=mK (fT dl q dc) sk s;cases hh:(fT dl q dc s).2 with
    | true=>exact p1.2 hh
    | false =>
     have:=p2 hh;have h2:fG (fT dl q dc) sk s<0:=h2;omega
   exact ⟨fun _ _=>h,fun h3=>absurd Dm h3⟩
  ·intro a ha b hb
   obtain ⟨i,_,ha⟩:=List.mem_flatMap.1 ha;obtain ⟨ha,h1⟩:=kY.1 ha;obtain ⟨hb,h2⟩:=kY.1 hb;have h1:=of_decide_eq_true h1;have h2:=of_decide_eq_true h2;have Dm:b.getD 1 0 = -1:=by
    unfold xZ at hb
    obtain ⟨s,_,rfl⟩:=B3.1 hb;obtain ⟨p1,p2⟩:=mK (fT dl q dc) sk s;cases hh:(fT dl q dc s).2 with
    | true=>exact p1.2 hh
    | false =>
     have:=p2 hh;have h2:fG (fT dl q dc) sk s<0:=h2;omega
   exact ⟨fun _ h3=>by omega,fun h3=>absurd Dm h3⟩
 ·constructor
  ·intro hx
   unfold xZ at hx
   obtain ⟨s,hsm,rfl⟩:=B3.1 hx;exact rD (uZ (dl:=dl) (oc:=q) (dc:=dc) hs hsm)
  ·intro hx
   obtain ⟨s,hsm,e1,e2⟩:=r3 x hx;obtain ⟨a,b,c,rfl⟩:=Dd (fE x hx);have h2:=r2 _ hx;have e1:s.getD 0 0=a:=e1;have e2:cA dl q dc (sB s) (sT s)=(c,decide (b = -1)):=e2;unfold xZ;refine B3.2 ⟨s,hsm,?_⟩;have e3:fT dl q dc s=(c,decide (b = -1)):=e2;obtain ⟨p1,p2⟩:=mK (fT dl q dc) sk s;rw [e3] at p1 p2
   have hb:fG (fT dl q dc) sk s=b:=by
    by_cases hb:b = -1
    ·rw [hb];exact p1.2 (by simp [hb])
    ·have h2:b=1+_:=h2 hb
     rw [aHq hs] at h2
     rw [p2 (by simp [hb]),h2]
     rfl
   rw [hb,e3];show [s.getD 0 0,b,c]=[a,b,c];rw [e1]
end
end
section
section
variable {dl:Int} {sk dc:Lqq} {q:List Int}
def Kl(dl:Int)(q:List Int)(dc:Lqq)(s:List Int):List Int:=[sB s,if (fT dl q dc s).2 then -1 else 1,(fT dl q dc s).1]
def iK(dl:Int)(q:List Int)(dc sk:Lqq)(s:List Int)(k:Nat):Int:=if (fT dl q dc s).2 then -1 else 1+(oT (fT dl q dc) (sk.take k) (fT dl q dc s).1:Int)
theorem cMs(f:List Int→Int × Bool)(S:Lqq)(t:Int):oT f S t≤S.length:=rZ _ _
theorem bOj{s x:List Int}{k:Nat}(hx:sk[k]? = some x):iK dl q dc sk s (k+1)=if (fT dl q dc s).2=false∧(fT dl q dc x).2=false∧(fT dl q dc x).1<(fT dl q dc s).1 then iK dl q dc sk s k+1 else iK dl q dc sk s k:=by
 have e:oT (fT dl q dc) (sk.take (k+1)) (fT dl q dc s).1=oT (fT dl q dc) (sk.take k) (fT dl q dc s).1+if (fT dl q dc x).2=false∧(fT dl q dc x).1<(fT dl q dc s).1 then 1 else 0:=by
  unfold oT;rw [List.take_add_one,hx,oO,iJ]
  congr 1
  show (List.filter (fun j => !(fT dl q dc j).2 && decide ((fT dl q dc j).1<(fT dl q dc s).1)) [x]).length=_
  rw [List.filter_cons,List.filter_nil];generalize fT dl q dc s=a;generalize fT dl q dc x=b;obtain ⟨b1,b2⟩:=b;cases b2 with
  | true=>simp
  | false =>
   by_cases h:b1<a.1
   ·simp [h]
   ·simp [h]
 unfold iK;rw [e];clear e;generalize oT (fT dl q dc) (sk.take k) (fT dl q dc s).1=c;generalize fT dl q dc s=a;generalize fT dl q dc x=b;obtain ⟨a1,a2⟩:=a;obtain ⟨b1,b2⟩:=b;cases a2 with
 | true=>simp
 | false =>
  cases b2 with
  | true=>simp
  | false =>
   by_cases h:b1<a1
   ·simp [h];omega
   ·simp [h]
theorem zT(s:List Int)(k:Nat):(0<iK dl q dc sk s k↔(fT dl q dc s).2=false):=by
 unfold iK;cases h:(fT dl q dc s).2 with
 | true=>simp
 | false=>simp;omega
theorem bVl(s:List Int)(k:Nat):iK dl q dc sk s k≤1+(sk.length:Int):=by
 have h1:=cMs (fT dl q dc) (sk.take k) (fT dl q dc s).1;have h2:(sk.take k).length≤sk.length:=by rw [oD];omega
 unfold iK
 split <;> omega
theorem aSw(s:List Int):iK dl q dc sk s sk.length=fG (fT dl q dc) sk s:=by
 unfold iK fG;rw [List.take_length]
def LnI(dl:Int)(q:List Int)(dc sk:Lqq)(i:Nat)(g:List Int→Int)(L:Lqq):Prop:=L.length=sk.length∧∀ (j:Nat) (s:List Int),sk[j]? = some s→L[j]? = some [sB s,if j<i then fG (fT dl q dc) sk s else if j=i then g s else iK dl q dc sk s 0,(fT dl q dc s).1]
theorem LnI.uni{i:Nat}{g:List Int→Int}{L:Lqq}(h:LnI dl q dc sk i g L):uni 3 L:=fun x hx=>by
 obtain ⟨j,hj,rfl⟩:=List.mem_iff_getElem.1 hx;have Ee:j<sk.length:=by rw [← h.1];exact hj
 have:=h.2 j sk[j] (Ay Ee);rw [Ay hj] at this
 rw [Option.some.inj this];rfl
theorem cMt{i:Nat}{s:List Int}(hi:sk[i]? = some s)(hl:sk.length≤1000){L:Lqq}(hL:LnI dl q dc sk i (fun s=>iK dl q dc sk s 0) L) :
  ∃ L',LnI dl q dc sk i (fun s=>iK dl q dc sk s sk.length) L'∧aD Tp 0 (sub (cd Tryz.f39) [1,1,1,0,1,0,0,1,0,0,1,0,0]) (jR i L.length (L.flatten.map aB) 0) (.exit 4) (jR i L'.length (L'.flatten.map aB) sk.length):=by
 have hil:=aM hi;refine aD.ex (P:=Tp) (k:=0) (e := .exit 4) (fun k (L:Lqq)=>jR i L.length (L.flatten.map aB) k) (fun L=>jR i L.length (L.flatten.map aB) sk.length) (fun k L=>LnI dl q dc sk i (fun s=>iK dl q dc sk s k) L) (by simp) sk.length
  (fun k L hk hI => ?_) (fun L hI=>bOy (by rw [hI.1];omega)) hL
 have hu:=hI.uni;have hx:sk[k]? = some sk[k]:=Ay hk;have e1:L[i]? = some [sB s,iK dl q dc sk s k,(fT dl q dc s).1]:=by
  have:=hI.2 i s hi;rw [if_neg (by omega),if_pos rfl] at this
  exact this
 have e2:L[k]? = some [sB sk[k],if k<i then fG (fT dl q dc) sk sk[k] else if k=i then iK dl q dc sk sk[k] k else iK dl q dc sk sk[k] 0,(fT dl q dc sk[k]).1]:=hI.2 k _ hx
 have hsu:=bOj (dl:=dl) (q:=q) (dc:=dc) (s:=s) hx;have hp:=zT (dl:=dl) (q:=q) (dc:=dc) (sk:=sk) s k;have hr:=bVl (dl:=dl) (q:=q) (dc:=dc) (sk:=sk) s k;have hkk:(k:Int)<(L.length:Int):=by rw [hI.1];omega
 have hn:inR (((k+1:Nat):Nat):Int):=aI (by omega)
 have same:iK dl q dc sk s (k+1)=iK dl q dc sk s k→LnI dl q dc sk i (fun s=>iK dl q dc sk s (k+1)) L:=fun h=>⟨hI.1,fun j u hj=>by
  have:=hI.2 j u hj
  by_cases hji:j=i
  ·subst hji
   rw [hi] at hj
   cases hj;rw [if_neg (by omega),if_pos rfl]
   show L[j]? = some [sB s,iK dl q dc sk s (k+1),(fT dl q dc s).1];rw [h];exact e1
  ·rw [if_neg hji]
   rw [if_neg hji] at this
   exact this⟩
 have hq:(0:Int)<(if k<i then fG (fT dl q dc) sk sk[k] else if k=i then iK dl q dc sk sk[k] k else iK dl q dc sk sk[k] 0)↔(fT dl q dc sk[k]).2=false:=by
  split
  ·rw [← aSw];exact zT _ _
  ·split
   ·exact zT _ _
   ·exact zT _ _
 revert e2 hq;generalize (if k<i then fG (fT dl q dc) sk sk[k] else if k=i then iK dl q dc sk sk[k] k else iK dl q dc sk sk[k] 0)=pz
 intro e2 hq
 by_cases h1:(0:Int)<iK dl q dc sk s k
 ·by_cases h2:(0:Int)<pz
  ·by_cases h3:(fT dl q dc sk[k]).1<(fT dl q dc s).1
   ·have hv:iK dl q dc sk s (k+1)=iK dl q dc sk s k+1:=by rw [hsu,if_pos ⟨hp.1 h1,hq.1 h2,h3⟩]
    have hle:=nH hu e1;refine ⟨L.set i [sB s,iK dl q dc sk s k+1,(fT dl q dc s).1],⟨by rw [oP];exact hI.1,fun j u hj => ?_⟩,?_⟩
    ·have:=hI.2 j u hj
     by_cases hji:j=i
     ·subst hji
      rw [hi] at hj
      cases hj;rw [if_neg (by omega),if_pos rfl,bRi (by rw [hI.1];exact hil)]
      show _=some [sB s,iK dl q dc sk s (k+1),(fT dl q dc s).1];rw [hv]
     ·rw [if_neg hji]
      rw [if_neg hji] at this
      rw [bRj (fun e=>hji e.symm)]
      exact this
    ·exact bOu hkk e1 hu h1 e2 h2 h3 (by show _∧_;omega) (by omega) hn (by rw [oP]) (zR hu e1 _).symm rfl
   ·exact ⟨L,same (by rw [hsu,if_neg (fun h=>h3 h.2.2)]),bOv hkk e1 hu h1 e2 h2 (by omega) hn rfl⟩
  ·exact ⟨L,same (by rw [hsu,if_neg (fun h=>h2 (hq.2 h.2.1))]),bOw hkk e1 hu h1 e2 (by omega) hn rfl⟩
 ·exact ⟨L,same (by rw [hsu,if_neg (fun h=>h1 (hp.2 h.1))]),bOx hkk e1 hu (by omega) hn rfl⟩
theorem bVm(sk:Lqq)(bib:Int):oI sk bib=bJ (fun x=>decide (x.getD 0 0=bib)) sk:=by
 unfold oI aP bJ;rw [List.findIdx?_map]
 congr 2
 funext x
 show decide (bib=x.getD 0 0)=_;rw [Bool.eq_iff_iff,decide_eq_true_eq,decide_eq_true_eq];exact eq_comm
theorem xY(hd:bP dc)(hq:q.length≤1000)(us:uni 2 sk)(Ed:sk.length≤100)(hs:sk.Pairwise fun a b=>a.getD 0 0<b.getD 0 0)(hr:∀ s∈sk,-1≤sT s∧sT s≤360000){base:Nat}:FV Tp 39 [.p (.agg (bC dl sk dc)),.p (aF q)] base (.p (.sl (bM dl q dc sk).length ((bM dl q dc sk).flatten.map aB))) []:=by
 have hl:sk.length≤1000:=by omega
 have hn:(aP sk 0).Nodup:=by
  unfold aP;rw [List.Nodup,List.pairwise_map];exact hs.imp fun h=>by omega
 have h0:=aD.range (P:=Tp) (k:=0) (b:=sub (cd Tryz.f39) fy) (e := .exit 0) (fun i (o:Lqq)=>oK dl sk dc q o.length (o.flatten.map aB) i) (fun o=>oK dl sk dc q o.length (o.flatten.map aB) sk.length) (fun o s=>o++[Kl dl q dc s]) (fun i o=>o.length=i) (by simp) sk (a0:=[]) rfl
  (fun i x o hx ho=>by
   have hi:=aM hx;have hm:=Bl hx;refine ⟨by simp [ho],?_⟩
   obtain ⟨j,hj,Ee⟩:=bVk hn hm;have hrx:=hr x hm;obtain ⟨y0,y1,rfl⟩:=len2 (us x hm);have hz:bJ (fun x=>decide (x.getD 0 0=y0)) sk=(j:Int):=(bVm sk y0).symm.trans hj
   unfold Kl;show aC _ _ _ _ _ (oK dl sk dc q (o++[[y0,if (cA dl q dc y0 y1).2 then -1 else 1,(cA dl q dc y0 y1).1]]).length ((o++[[y0,if (cA dl q dc y0 y1).2 then -1 else 1,(cA dl q dc y0 y1).1]]).flatten.map aB) (i+1))
   cases ht:cA dl q dc y0 y1 with
   | mk t b=>cases b with
    | true=>exact bOk (by omega) hx us hd hq hl hz Ee hrx ht rfl ⟨rfl,by omega⟩ (aI (by omega)) (by simp) (by simp) rfl
    | false=>exact bOl (by omega) hx us hd hq hl hz Ee hrx ht rfl ⟨rfl,by omega⟩ (aI (by omega)) (by simp) (by simp) rfl)
  (fun o _=>bOm (by omega))
 have em:∀ (l:Lqq) (o:Lqq),l.foldl (fun o s=>o++[Kl dl q dc s]) o=o++l.map (Kl dl q dc):=by
  intro l
  induction l with
  | nil=>intro o;simp
  | cons x l ih=>intro o;rw [kO,ih];simp
 rw [em,List.nil_append] at h0
 obtain ⟨L,hL,h1⟩:=aD.ex (P:=Tp) (k:=0) (b:=sub (cd Tryz.f39) ey) (e := .exit 2) (fun i (L:Lqq)=>vA L.length (L.flatten.map aB) i) (fun L=>vA L.length (L.flatten.map aB) sk.length) (fun i L=>LnI dl q dc sk i (fun s=>iK dl q dc sk s 0) L) (by simp) sk.length
  (fun i L hi hI=>by
   have hx:sk[i]? = some sk[i]:=Ay hi;obtain ⟨L',Kr,hlp⟩:=cMt hx hl hI;refine ⟨L',⟨Kr.1,fun j u hj => ?_⟩,bOn (by rw [hI.1];omega) hlp (aI (by omega)) rfl rfl rfl⟩
   have:=Kr.2 j u hj;rw [this]
   by_cases h:j<i
   ·rw [if_pos h,if_pos (by omega)]
   ·by_cases h2:j=i
    ·rw [if_neg h,if_pos h2,if_pos (by omega)]
     show some [sB u,iK dl q dc sk u sk.length,(fT dl q dc u).1]=_;rw [aSw]
    ·rw [if_neg h,if_neg h2,if_neg (by omega)]
     split <;> rfl)
  (fun L hI=>bOo (by rw [hI.1];omega)) (acc:=sk.map (Kl dl q dc)) ⟨by rw [Co],fun j s hj=>by
   rw [fV,hj,if_neg (by omega)]
   have:iK dl q dc sk s 0=if (fT dl q dc s).2 then -1 else 1:=by
    unfold iK;rw [List.take_zero];rfl
   show some [sB s,if (fT dl q dc s).2 then -1 else 1,(fT dl q dc s).1]=some [sB s,if j=0 then iK dl q dc sk s 0 else iK dl q dc sk s 0,(fT dl q dc s).1]
   rw [← this]
   split <;> rfl⟩
 have hLe:L=xZ dl q dc sk:=by
  refine List.ext_getElem? fun j => ?_
  unfold xZ;rw [fV];cases hj:sk[j]? with
  | none =>
   have:=List.getElem?_eq_none_iff.1 hj;rw [List.getElem?_eq_none_iff.2 (by rw [hL.1];exact this)]
   rfl
  | some s =>
   have:=aM hj;rw [hL.2 j s hj,if_pos this];rfl
 have hLu:=hL.uni;have hLl:=hL.1;have h2:=aD.times (P:=Tp) (k:=0) (b:=sub (cd Tryz.f39) dp) (e := .exit 6) (fun i (o:Lqq)=>vB L o.length (o.flatten.map aB) ((i:Int)+1)) (fun o=>vB L o.length (o.flatten.map aB) ((sk.length:Int)+1)) (fun o i=>o++L.filter fun x=>decide (x.getD 1 0=(i:Int)+1)) (fun i o=>o.length≤100*i) (by simp) sk.length (a0:=[]) (by simp)
  (fun i o hi ho=>by
   have hfl:(L.filter fun x=>decide (x.getD 1 0=(i:Int)+1)).length≤L.length:=rZ _ _
   refine ⟨by rw [iJ];omega,?_⟩
   have hin:=aD.range (P:=Tp) (k:=0) (b:=sub (cd Tryz.f39) bj) (e := .exit 8) (fun j (o:Lqq)=>qO L ((i:Int)+1) o.length (o.flatten.map aB) j) (fun o=>qO L ((i:Int)+1) o.length (o.flatten.map aB) L.length) (fun o x=>if x.getD 1 0=(i:Int)+1 then o++[x] else o) (fun j o'=>o'.length≤o.length+j) (by simp) L (a0:=o) (by simp)
    (fun j x o' hx D7=>by
     have hj:=aM hx;obtain ⟨x0,x1,x2,rfl⟩:=Dd (hLu x (Bl hx))
     by_cases he:x1=(i:Int)+1
     ·rw [if_pos (show ([x0,x1,x2]:List Int).getD 1 0=_ from he)]
      exact ⟨by rw [iJ,List.length_singleton];omega,bOz (by omega) hx hLu he ⟨rfl,by omega⟩ (aI (by omega)) (by simp) (by simp) rfl⟩
     ·rw [if_neg (show ¬ ([x0,x1,x2]:List Int).getD 1 0=_ from he)]
      exact ⟨by omega,bPa (by omega) hx hLu he (aI (by omega)) rfl⟩)
    (fun o' _=>bPb (by omega))
   have ef:∀ (l:Lqq) (o:Lqq),l.foldl (fun o x=>if x.getD 1 0=(i:Int)+1 then o++[x] else o) o=o++l.filter fun x=>decide (x.getD 1 0=(i:Int)+1):=by
    intro l
    induction l with
    | nil=>intro o;simp
    | cons x l ih =>
     intro o;rw [kO,ih,List.filter_cons]
     by_cases h:x.getD 1 0=(i:Int)+1
     ·rw [if_pos h,if_pos (by simp only [h,decide_true])];simp
     ·rw [if_neg h,if_neg (by simp only [h,decide_false];simp)]
   rw [ef] at hin
   exact bOp (by rw [hLl];omega) hin (by show _∧_;omega) rfl rfl (by omega))
  (fun o _=>bOq (by rw [hLl];omega))
 rw [aSy,List.nil_append] at h2
 have e1:(((0:Nat):Int)+1)=1:=rfl;simp only [e1] at h2
 revert h2;have hol:((List.range sk.length).flatMap fun (i:Nat)=>L.filter fun x=>decide (x.getD 1 0=(i:Int)+1)).length≤100*sk.length:=by
  have key:∀ n,((List.range n).flatMap fun (i:Nat)=>L.filter fun x=>decide (x.getD 1 0=(i:Int)+1)).length≤100*n:=by
   intro n
   induction n with
   | zero=>simp
   | succ n ih =>
    rw [List.range_succ,List.flatMap_append,iJ];have hfl:(L.filter fun x=>decide (x.getD 1 0=(n:Int)+1)).length≤L.length:=rZ _ _
    have e:([n].flatMap fun (i:Nat)=>L.filter fun x=>decide (x.getD 1 0=(i:Int)+1))=L.filter fun x=>decide (x.getD 1 0=(n:Int)+1):=by simp
    rw [e];omega
  exact key _
 have hb:=cMu (dl:=dl) (q:=q) (dc:=dc) hs;rw [← hLe] at hb
 unfold byP at hb
 revert hol hb;generalize ((List.range sk.length).flatMap fun (i:Nat)=>L.filter fun x=>decide (x.getD 1 0=(i:Int)+1))=O
 intro hol hb h2;have h3:=aD.range (P:=Tp) (k:=0) (b:=sub (cd Tryz.f39) ck) (e := .exit 10) (fun j (o:Lqq)=>qL L o.length (o.flatten.map aB) j) (fun o=>qL L o.length (o.flatten.map aB) L.length) (fun o x=>if x.getD 1 0<0 then o++[x] else o) (fun j o'=>o'.length≤O.length+j) (by simp) L (a0:=O) (by simp)
  (fun j x o' hx D7=>by
   have hj:=aM hx;obtain ⟨x0,x1,x2,rfl⟩:=Dd (hLu x (Bl hx))
   by_cases he:x1<0
   ·rw [if_pos (show ([x0,x1,x2]:List Int).getD 1 0<0 from he)]
    exact ⟨by rw [iJ,List.length_singleton];omega,bOr (by omega) hx hLu he ⟨rfl,by omega⟩ (aI (by omega)) (by simp) (by simp) rfl⟩
   ·rw [if_neg (show ¬ ([x0,x1,x2]:List Int).getD 1 0<0 from he)]
    exact ⟨by omega,bOs (by omega) hx hLu (by omega) (aI (by omega)) rfl⟩)
  (fun o' _=>bOt (by omega))
 have ef:∀ (l:Lqq) (o:Lqq),l.foldl (fun o x=>if x.getD 1 0<0 then o++[x] else o) o=o++l.filter fun x=>decide (x.getD 1 0<0):=by
  intro l
  induction l with
  | nil=>intro o;simp
  | cons x l ih =>
   intro o;rw [kO,ih,List.filter_cons]
   by_cases h:x.getD 1 0<0
   ·rw [if_pos h,if_pos (by simp only [h,decide_true])];simp
   ·rw [if_neg h,if_neg (by simp only [h,decide_false];simp)]
 rw [ef,hb] at h3
 exact cMv h0 h1 h2 h3
end
end
section
section
variable {dl:Int} {sk dc:Lqq}
theorem aZz(us:uni 2 sk)(l1:sk.length≤1000):∀ (d b:Nat) (o:Lqq),b+d=1000→o.length≤b→uni 2 o→∃ b' o',uni 2 o'∧aD Tp 0 (sub (cd Tryz.f36) fy) (lC dl sk dc b o.length (o.flatten.map aB)) (.exit 0) (lC dl sk dc b' o'.length (o'.flatten.map aB))
 | 0,b,o,hb,ho,hu=>⟨b,o,hu,.exit (aKc (by omega)) (by simp)⟩
 | d+1,b,o,hb,ho,hu=>by
  by_cases h:0≤bJ (fun x=>decide (x.getD 0 0=(b:Int))) sk
  ·obtain ⟨x,hx,_⟩:=aDn h
   obtain ⟨y0,y1,rfl⟩:=len2 (us x (Bl hx));obtain ⟨b',o',K9,hL⟩:=aZz us l1 d (b+1) (o++[[y0,y1]]) (by omega) (by simp;omega) (aRm hu rfl)
   exact ⟨b',o',K9,.step (aKa (by omega) us l1 rfl h hx h ⟨rfl,by omega⟩ (aI (by omega)) rfl (by simp) (by simp)) hL⟩
  ·obtain ⟨b',o',K9,hL⟩:=aZz us l1 d (b+1) o (by omega) (by omega) hu
   exact ⟨b',o',K9,.step (aKb (by omega) us l1 rfl (by omega) (aI (by omega)) rfl) hL⟩
theorem bAa(ud:uni 6 dc)(l2:dc.length≤1000){o:Lqq}:∀ (d n:Nat) (q:Lqq),n+d=10000→q.length≤n→uni 6 q→∃ n' q',uni 6 q'∧aD Tp 0 (sub (cd Tryz.f36) ey) (lD dl sk dc o n q.length (q.flatten.map aB)) (.exit 2) (lD dl sk dc o n' q'.length (q'.flatten.map aB))
 | 0,n,q,hn,hq,hu=>⟨n,q,hu,.exit (aKg (by omega)) (by simp)⟩
 | d+1,n,q,hn,hq,hu=>by
  by_cases hl:q.length<dc.length
  ·by_cases h:0≤bJ (fun x=>decide (x.getD 0 0=(n:Int))) dc
   ·obtain ⟨x,hx,_⟩:=aDn h
    obtain ⟨y0,y1,y2,y3,y4,y5,rfl⟩:=A7 (ud x (Bl hx));obtain ⟨n',q',K9,hL⟩:=bAa ud l2 d (n+1) (q++[[y0,y1,y2,y3,y4,y5]]) (by omega) (by simp;omega) (aRm hu rfl)
    exact ⟨n',q',K9,.step (aKd (by omega) (by omega) ud l2 rfl h hx h ⟨rfl,by omega⟩ (aI (by omega)) rfl (by simp) (by simp)) hL⟩
   ·obtain ⟨n',q',K9,hL⟩:=bAa ud l2 d (n+1) q (by omega) (by omega) hu
    exact ⟨n',q',K9,.step (aKe (by omega) (by omega) ud l2 rfl (by omega) (aI (by omega)) rfl) hL⟩
  ·exact ⟨n,q,hu,.exit (aKf (by omega) (by omega)) (by simp)⟩
theorem cCg(dl:Int)(us:uni 2 sk)(l1:sk.length≤1000)(ud:uni 6 dc)(l2:dc.length≤1000):∃ a b,∀ {base:Nat},FV Tp 36 [.p (.agg (bC dl sk dc))] base (.p (.agg (bC dl a b))) []:=by
 obtain ⟨b',o,hu,h0⟩:=aZz (dl:=dl) (dc:=dc) us l1 999 1 [] rfl (by simp) (fun _ h=>by cases h)
 obtain ⟨n',q,hv,h1⟩:=bAa (dl:=dl) (sk:=sk) ud l2 (o:=o) 9999 1 [] rfl (by simp) (fun _ h=>by cases h)
 exact ⟨o,q,bRv h0 h1⟩
end
end
section

end
section
end
section

end
section

end
section

end
section

end
section

end
section
end
section
end
section

end
section
section
variable {dl:Int} {oc:List Int} {D:Lqq} {x:List Int}
theorem sQ{α β:Type}(f g:β→α→β):∀ (l:List α) (b:β),(∀ x∈l,∀ b,f b x=g b x)→l.foldl f b=l.foldl g b
 | [],_,_=>rfl
 | x::l,b,h=>by
  rw [kO,kO,h x (gA ..),sQ f g l _ fun y hy=>h y (Ch _ hy)]
end
end
section
section
variable {dl:Int} {oc:List Int} {D:Lqq} {x:List Int}
end
theorem bPd{dl:Int}{sk dc:Lqq}(h:bO dl sk dc):(aA sk).Pairwise fun a b=>a.getD 0 0<b.getD 0 0:=by
 have h1:=iX sk;have h2:(aA sk).Pairwise fun a b=>a.getD 0 0≠b.getD 0 0:=by
  have:=uA h.ns;unfold aP at this
  exact List.pairwise_map.1 this
 exact (h1.and h2).imp fun {a b} h=>by have:=h.1;have:=h.2;omega
end
section
theorem aBm{α:Type}{p q:α→Bool}:∀ {l:List α},(∀ s∈l,p s=false→q s=false)→(l.filter p).find? q=l.find? q
 | [],_=>rfl
 | a::l,h=>by
  have ih:=aBm (p:=p) (q:=q) (l:=l) fun s hs=>h s (Ch _ hs)
  cases hp:p a with
  | true=>rw [List.filter_cons_of_pos hp,List.find?_cons,List.find?_cons,ih]
  | false=>rw [List.filter_cons_of_neg (by rw [hp];exact Bool.false_ne_true),List.find?_cons_of_neg (by rw [h a (gA ..) hp];exact Bool.false_ne_true),ih]
section
variable {dl:Int} {oc:List Int} {R:List Int→Bool}
end
theorem bVu{dl:Int}{oc:List Int}{L:Lqq}{s:DS}(h:s∈bL dl oc L):s.x∈L:=by
 have:s.x∈(bL dl oc L).map (·.x):=B3.2 ⟨s,h,rfl⟩
 rwa [pY] at this
end
section
section
variable {dl:Int} {oc Ei:List Int}
end
section
variable {dl:Int} {oc Ei:List Int} {F:List Int→Int}
theorem bCx{b:Int}:∀ {L:Lqq},bP L→(∀ s∈L,∀ y∈L,dAb s=dN y→F s=F y)→(∀ y∈L,F y≠b→oc.contains (dN y)=Ei.contains (dN y))→(bL dl oc L).filter (fun s=>decide (F s.x≠b))=(bL dl Ei L).filter (fun s=>decide (F s.x≠b))
 | [],_,_,_=>rfl
 | y::L,hd,hF,ho=>by
  have ih:=bCx (b:=b) hd.tail (fun s hs z hz=>hF s (Ch _ hs) z (Ch _ hz)) fun z hz=>ho z (Ch _ hz)
  have ex:∀ q,(mkS dl q y (bL dl q L)).x=y:=fun _=>rfl
  by_cases hy:F y=b
  ·rw [bL,bL,List.filter_cons_of_neg (by rw [ex];simpa using hy),List.filter_cons_of_neg (by rw [ex];simpa using hy),ih]
  ·rw [bL,bL,List.filter_cons_of_pos (by rw [ex];simpa using hy),List.filter_cons_of_pos (by rw [ex];simpa using hy),ih]
   congr 1
   have key:∀ q,cV (bL dl q L) (dN y)=cV ((bL dl q L).filter fun s=>decide (F s.x≠b)) (dN y):=fun q=>by
    unfold cV;rw [← List.filter_reverse,List.filter_filter];refine List.filter_congr fun s hs => ?_
    cases e:dAb s.x == dN y with
    | false=>rfl
    | true =>
     have e:dAb s.x=dN y:=by simpa using e
     have:=hF s.x (Ch _ (bVu (yZ.1 hs))) y (gA ..) e;rw [this,decide_eq_true hy];rfl
   have e:cV (bL dl oc L) (dN y)=cV (bL dl Ei L) (dN y):=by rw [key,key,ih]
   unfold mkS;rw [e,ho y (gA ..) hy]
theorem cCk{b:Int}{L:Lqq}(hd:bP L)(hF:∀ s∈L,∀ y∈L,dAb s=dN y→F s=F y)(ho:∀ y∈L,F y≠b→oc.contains (dN y)=Ei.contains (dN y)){y:List Int}(hm:y∈L)(hy:F y≠b):stF dl oc L y=stF dl Ei L y:=by
 have h:=bCx (dl:=dl) hd hF ho;have key:∀ q,(bL dl q L).find? (fun s=>s.x == y)=((bL dl q L).filter fun s=>decide (F s.x≠b)).find? (fun s=>s.x == y):=fun q=>(aBm fun s _ hs=>by
  cases e:s.x == y with
  | false=>rfl
  | true =>
   have e:s.x=y:=by simpa using e
   rw [e,decide_eq_true hy] at hs
   cases hs).symm
 have hs:∀ q,((bL dl q L).find? fun s=>s.x == y).isSome=true:=fun q=>by
  rw [List.find?_isSome];have hm:=hm;rw [← pY dl q L] at hm
  obtain ⟨s,h1,h2⟩:=B3.1 hm;exact ⟨s,h1,by rw [h2];exact beq_self_eq_true y⟩
 have e:(bL dl oc L).find? (fun s=>s.x == y)=(bL dl Ei L).find? (fun s=>s.x == y):=by rw [key oc,key Ei,h]
 obtain ⟨s,Io⟩:=Option.isSome_iff_exists.1 (hs oc);unfold stF;rw [← e,Io];rfl
theorem bVs{b:Int}{L:Lqq}(hd:bP L)(hF:∀ s∈L,∀ y∈L,dAb s=dN y→F s=F y)(hB:∀ y∈L,dK y≤4→F y=dB y)(ho:∀ y∈L,F y≠b→oc.contains (dN y)=Ei.contains (dN y)){c t:Int}(hc:c≠b):aAu dl oc L c t=aAu dl Ei L c t:=by
 unfold aAu;refine sQ _ _ _ _ fun y hy a => ?_
 unfold oS aDc
 by_cases h4:dK y≤4
 ·by_cases hb:dB y=c
  ·have Y1:F y≠b:=by rw [hB y hy h4,hb];exact hc
   unfold dP uH jV;rw [cCk hd hF ho hy Y1]
  ·rw [show (dB y == c)=false by simpa using hb];simp
 ·rw [decide_eq_false h4];simp
end
section
variable {dc:Lqq}
theorem aHr(hd:bP dc):∀ (k:Nat) (x:List Int),x∈dc→dN x<(k:Int)→mQ dc k x=mQ dc (k+1) x
 | 0,x,hx,hk=>by have:=eT hd hx;omega
 | k+1,x,hx,hk=>by
  unfold mQ
  by_cases h4:dK x≤4
  ·rw [if_pos h4,if_pos h4]
  ·rw [if_neg h4,if_neg h4]
   cases h:ofN dc (dAb x) with
   | none=>rfl
   | some y =>
    obtain ⟨h1,h2⟩:=uJ h;have ho:=hd.ord _ hx;unfold orB at ho
    rw [if_neg (show ¬ x.getD 1 0≤4 from h4)] at ho
    have Kn:=bW.1 ho;have h3:dAb x≤dN x-1:=Kn.2;exact aHr hd k y h1 (by omega)
theorem aHs(hd:bP dc){s y:List Int}(hs:s∈dc)(hy:y∈dc)(e:dAb s=dN y):jI dc s=jI dc y:=by
 have hk:¬ dK s≤4:=fun h4=>by
  have ho:=hd.ord _ hs;unfold orB at ho
  rw [if_pos (show s.getD 1 0≤4 from h4)] at ho
  have h0:dAb s=0:=by simpa using ho
  have:=eT hd hy;omega
 unfold jI;have e1:mQ dc (10000+1) s=mQ dc 10000 y:=by
  conv=>lhs;unfold mQ
  rw [if_neg hk,e,zF hd hy]
 rw [e1];exact aHr hd 10000 y hy (by have:=eT hd hy;omega)
theorem aTe{y:List Int}(h:dK y≤4):jI dc y=dB y:=by
 unfold jI mQ;rw [if_pos h]
theorem bVt{dl:Int}{oc Ei:List Int}(hd:bP dc){x:List Int}(hx:x∈dc)(ho:∀ m,m≠dN x→oc.contains m=Ei.contains m){c t:Int}(hc:c≠jI dc x):cA dl oc dc c t=cA dl Ei dc c t:=by
 unfold cA;rw [bVs (F:=jI dc) (b:=jI dc x) hd (fun s hs y hy e=>aHs hd hs hy e) (fun y hy h4=>aTe h4) (fun y hy hF=>ho _ fun e=>hF (by rw [zG hd hy hx e])) hc]
end
end
section
theorem cCh{s k j:Nat}(h:j<k):(s+2 ^ k) / 2 ^ j % 2=s / 2 ^ j % 2:=by
 obtain ⟨m,rfl⟩:∃ m,k=j+(m+1):=⟨k-j-1,by omega⟩
 have e:2 ^ (j+(m+1))=2 ^ j*(2*2 ^ m):=by rw [Nat.pow_add,Nat.pow_succ,Nat.mul_comm (2 ^ m) 2]
 rw [e,Nat.add_mul_div_left _ _ (Nat.two_pow_pos j)];omega
theorem cCi{s k:Nat}(h:s<2 ^ k):(s+2 ^ k) / 2 ^ k % 2=1:=by
 rw [Nat.add_div_right _ (Nat.two_pow_pos k),Nat.div_eq_of_lt h]
theorem bVq{s k:Nat}(h:s<2 ^ k):s / 2 ^ k % 2=0:=by
 rw [Nat.div_eq_of_lt h]
theorem vY(q:List Int)(s k:Nat):fO q s (k+1)=fO q s k++(if s / 2 ^ k % 2 == 1 then [q.getD k 0] else []):=by
 unfold fO;rw [List.range_succ,oO,iA]
 congr 1
 by_cases h:(s / 2 ^ k % 2 == 1)=true
 ·rw [if_pos h,List.filter_cons_of_pos (p:=fun j=>s / 2 ^ j % 2 == 1) h];rfl
 ·rw [if_neg h,List.filter_cons_of_neg (p:=fun j=>s / 2 ^ j % 2 == 1) h];rfl
theorem yA(q r:List Int)(s s':Nat):∀ k,k≤q.length→(∀ j,j<k→s / 2 ^ j % 2=s' / 2 ^ j % 2)→fO (q++r) s k=fO q s' k
 | 0,_,_=>rfl
 | k+1,hk,h=>by
  rw [vY,vY,yA q r s s' k (by omega) (fun j hj=>h j (by omega)),h k (by omega)]
  congr 2
  rw [B5,B5,aAh (by omega)]
theorem bCw{n:Int}{u:List Int}(h:u.Sublist [n]):u=[]∨u=[n]:=by
 cases u with
 | nil=>exact .inl rfl
 | cons a t =>
  have hl:=h.length_le;rw [oE,List.length_singleton] at hl
  have ht:t=[]:=aCw (by omega)
  have ha:a=n:=List.mem_singleton.1 (h.subset (gA ..));rw [ht,ha];exact .inr rfl
theorem aTd(q:List Int):∀ u:List Int,u.Sublist q→u∈gK q:=by
 refine zS (Q:=fun q=>∀ u:List Int,u.Sublist q→u∈gK q) ?_ ?_ q
 ·intro u hu
  rw [List.sublist_nil.1 hu];exact gA ..
 ·intro q n ih u hu
  obtain ⟨u1,u2,rfl,h1,h2⟩:=List.sublist_append_iff.1 hu;obtain ⟨s,hs,e⟩:=B3.1 (ih u1 h1);have hs:s<2 ^ q.length:=iN.1 hs;have hl:(q++[n]).length=q.length+1:=by simp
  have hg:(q++[n]).getD q.length 0=n:=by rw [B5,xJ (by omega)];simp
  unfold gK;rw [hl]
  rcases bCw h2 with rfl | rfl
  ·refine B3.2 ⟨s,iN.2 (by rw [Nat.pow_succ];omega),?_⟩
   rw [vY,yA q [n] s s q.length (dF _) (fun _ _=>rfl),e,bVq hs]
   rfl
  ·refine B3.2 ⟨s+2 ^ q.length,iN.2 (by rw [Nat.pow_succ];omega),?_⟩
   rw [vY,yA q [n] (s+2 ^ q.length) s q.length (dF _) (fun j hj=>cCh hj),e,cCi hs,hg]
   rfl
section
variable {dl:Int} {sk dc:Lqq}
theorem bVr{oc Ei:List Int}{D S:Lqq}(h:∀ s∈S,cA dl oc D (sB s) (sT s)=cA dl Ei D (sB s) (sT s)):bM dl oc D S=bM dl Ei D S:=by
 have e1:S.filter (fun s => !(cA dl oc D (sB s) (sT s)).2)=S.filter (fun s => !(cA dl Ei D (sB s) (sT s)).2):=List.filter_congr fun s hs=>by rw [h s hs]
 have e2:S.filter (fun s=>(cA dl oc D (sB s) (sT s)).2)=S.filter (fun s=>(cA dl Ei D (sB s) (sT s)).2):=List.filter_congr fun s hs=>by rw [h s hs]
 have e3:fC dl oc D S=fC dl Ei D S:=by
  unfold fC;rw [e1];exact aAi fun s hs=>by rw [h s (kY.1 hs).1]
 have e4:fD dl oc D S=fD dl Ei D S:=by
  unfold fD;rw [e2]
 unfold bM;rw [e3,e4]
theorem bPc(u:List Int)(n m:Int):m≠n→u.contains m=(u++[n]).contains m:=fun h=>by
 rw [Bool.eq_iff_iff,List.contains_iff_mem,List.contains_iff_mem,jK,List.mem_singleton];exact ⟨.inl,fun q=>q.resolve_right h⟩
theorem cCj(hr:bO dl sk dc){x:List Int}(hx:x∈aA dc)(ho:dN x∈aJ dl (aA dc))(h8:(aJ dl (aA dc)).length≤8)(hm:(uW dl sk dc (dN x)).1=false){u:List Int}(hu:u.Sublist ((aJ dl (aA dc)).filter fun n => !(n == dN x))){s:List Int}(hs:s∈aA sk):cA dl u (aA dc) (sB s) (sT s)=cA dl (u++[dN x]) (aA dc) (sB s) (sT s):=by
 have hd:=dA hr;have hsb:rH (aA dc) (dN x)=jI (aA dc) x:=by unfold rH;rw [zF hd hx]
 by_cases hc:sB s=jI (aA dc) x
 ·unfold uW at hm
  have hco:(aJ dl (aA dc)).contains (dN x)=true:=List.contains_iff_mem.2 ho;rw [if_neg (by rw [hco];simp),if_neg (by omega),hsb] at hm
  obtain ⟨j,hj,rfl⟩:=List.getElem_of_mem hs;have hcol:(aP (aA sk) 0)[j]? = some (sB (aA sk)[j]):=by
   unfold aP;rw [fV,Ay hj];rfl
  have hpos:=bVk (sk:=aA sk) (uA hr.ns) hs;obtain ⟨i,hi,Cj⟩:=hpos;have hi:bJ (fun x=>decide (sB (aA sk)[j]=x)) (aP (aA sk) 0)=(i:Int):=hi
  rw [← hc,hi,if_neg (by omega)] at hm
  have hm:((gK ((aJ dl (aA dc)).filter fun n => !(n == dN x))).any (zQ dl sk dc (dN x) (sB (aA sk)[j])))=false:=hm
  have:=List.any_eq_false.1 hm u (aTd _ u hu);unfold zQ at this
  have hT:∀ q,kF dl sk dc (sB (aA sk)[j]) q=cA dl q (aA dc) (sB (aA sk)[j]) (sT (aA sk)[j]):=fun q=>by
   have hg:(aA sk).getD i []=(aA sk)[j]:=by rw [B5,Cj];rfl
   unfold kF;rw [hi,aMq,hg]
  rw [hT,hT] at this
  simp only [Bool.not_eq_true,Bool.not_eq_false',Ce,beq_iff_eq] at this
  exact Prod.ext this.1 this.2
 ·exact bVt hd hx (fun m hm=>bPc u (dN x) m hm) hc
end
end
section

end
section

end
section
theorem aOu{dl:Int}{oc:List Int}{D:Lqq}{b:Int}(hd:bP D):∀ (l:Lqq) (o:Bool) (t:Int),(∀ x∈l,x∈D)→(l.foldl (oS dl oc D b) (o,t)).2≤t+43200000*(l.length:Int)
 | [],o,t,_=>by simp
 | x::l,o,t,h=>by
  have hm:=aNj (dl:=dl) (oc:=oc) hd (h x (gA ..));have hl:=fun y hy=>h y (Ch _ hy)
  rw [kO,oE];unfold oS;dsimp only
  by_cases hh:aDc dl oc D b x=true
  ·rw [if_pos hh]
   have ih:=aOu (dl:=dl) (oc:=oc) (b:=b) hd l (o || dK x == 3) (byI (dK x) t (jV dl oc D x)) hl
   unfold oS at ih
   have:byI (dK x) t (jV dl oc D x)≤t+43200000:=by unfold byI;repeat' split <;> omega
   omega
  ·rw [if_neg hh]
   have ih:=aOu (dl:=dl) (oc:=oc) (b:=b) hd l o t hl;unfold oS at ih
   omega
theorem aOv{dl:Int}{oc:List Int}{D:Lqq}{b t:Int}(hd:bP D)(ht:t≤360000):0≤(cA dl oc D b t).1∧(cA dl oc D b t).1≤100000000000:=by
 have h:=aOu (dl:=dl) (oc:=oc) (b:=b) hd D (t == -1) t fun _ h=>h
 have hl:=hd.len;have h2:(aAu dl oc D b t).2≤t+43200000*(D.length:Int):=h;unfold cA
 split
 ·exact ⟨by simp,by simp⟩
 ·show 0≤max 0 (aAu dl oc D b t).2∧max 0 (aAu dl oc D b t).2≤100000000000
  omega
end
section
theorem aTc{q u:List Int}(h:u∈gK q):u.Sublist q:=by
 obtain ⟨s,_,rfl⟩:=B3.1 h;have e:((List.range q.length).map fun j=>q.getD j 0)=q:=by
  apply List.ext_getElem (by simp)
  intro i h1 h2;simp [B5,Ay h2]
 have h2:(fO q s q.length).Sublist ((List.range q.length).map fun j=>q.getD j 0):=by
  unfold fO;exact List.filter_sublist.map _
 rwa [e] at h2
theorem aDw(dl:Int)(dc:Lqq)(b:Int):(mR dl dc b).Sublist (aJ dl dc):=List.filter_sublist
section
variable {dl:Int} {sk dc:Lqq}
end
end
section

theorem bVp{dl:Int}{sk dc:Lqq}{n:Int}{b:Bool}{e:Int}(h:bO dl sk dc)(hm:uW dl sk dc n=(b,e)){base:Nat}:FV Tp 58 [.p (.agg (bC dl sk dc)),.p (aB n)] base (.tup [.p (blP b),.p (aB e)]) []:=by
 have:=bVf h n (base:=base);rw [hm] at this
 exact this
end
section

theorem bRn{rs:List (Lqq)}{bib:Int}{p:List Int}{g:Bool}(hr:∀ r∈rs,uni 3 r∧r.length≤1000)(hl:rs.length≤1000)(hp:plR rs bib=p)(hg:gnR rs bib=g){base:Nat}:FV Tp 40 [.p (.sl rs.length ((rs.map reE).flatten)),.p (aB bib)] base (.tup [.p (aF p),.p (blP g)]) []:=by
 rw [← hp,← hg];exact cEl hr hl
end
section
variable {fb le B6 Bj Ly Iq:Bool}{ft mo pl s1 s2 bib Av Rt R4 Ru A0 Lz L4 B7 Az:Int}{o fq o' B2 Cg Cc Cd:List Int}{i k i' i0 k' Bm Rv base Bf:Nat}
variable {dl:Int}{sk dc:Lqq}

noncomputable abbrev oM:Code:=sub (cd Tryz.f72) [1,0,1,1,1,1,1,1,1,1,1,0,1,0,0]
noncomputable abbrev yB:Code:=sub (cd Tryz.f72) [1,0,1,1,1,1,0,1,0,0]
noncomputable abbrev aBn:Code:=sub (cd Tryz.f143) [1,0,1,0,0]
theorem vC:0≤(1:Int)∧(1:Int)<2:=by first | decide | simp
theorem aBo:0≤(0:Int)∧(0:Int)<2:=by first | decide | simp
theorem bWb:((0:Int) != 0)=false:=by first | decide | simp
def bWc(st:St)(id:Nat)(o:Option AO):St:=⟨st.t,st.m.set id o⟩
theorem cNc{t:Int}{b:Bool}{q:List Int}{r0:Bool}(A6:r0=((decide (t<ft)) == le)):FV Tp 144 [(.p (.agg [(aB t),(blP b),(aF q)])),(.rp [(PV.rp [(aB ft),(blP fb),(aF fq)] 0)] 0),(.rp [(blP le)] 0)] base (pB r0) []:=by
 subst A6;exact FV.fi func144 [.x (PV.rp [(aB ft),(blP fb),(aF fq)] 0),.x (aB ft),.x (blP le)] (gr (blP le) (gr (aB ft) (gr (PV.rp [(aB ft),(blP fb),(aF fq)] 0) gn)))
theorem bWd(t:Int)(b:Bool)(q:List Int)(ft:Int)(fb:Bool)(fq:List Int)(le:Bool){base:Nat}:FV Tp 144 [.p (.agg [aB t,blP b,aF q]),.rp [.rp [aB ft,blP fb,aF fq] 0] 0,.rp [blP le] 0] base (pB (decide (t<ft) == le)) []:=cNc rfl
def mD(c:List aV)(ft:Int)(fb:Bool)(fq:List Int)(le:Bool)(i:Nat):St:=⟨fr 19 [(0,(.p (.sl c.length ((c.map chE).flatten)))),(1,(.fn 144 [] [(.rp [(PV.rp [(aB ft),(blP fb),(aF fq)] 0)] 0),(.rp [(blP le)] 0)])),(7,(pI (c.length:Int))),(8,(pI (i:Int)))],[]⟩
theorem cNd{c:List aV}(hl0:aD Tp 0 aBn (mD c ft fb fq le 0) (.exit 0) (mD c ft fb fq le Bm)):FV Tp 143 [(.p (.sl c.length ((c.map chE).flatten))),(.fn 144 [] [(.rp [(PV.rp [(aB ft),(blP fb),(aF fq)] 0)] 0),(.rp [(blP le)] 0)])] base (pI (-1)) []:=FV.fi func143 [hl0.k 6 (gZ ga)] (gc hl0.code gn)
theorem cNe{c:List aV}(hl0:aD Tp 0 aBn (mD c ft fb fq le 0) .ret (bQ (mD c ft fb fq le Bm) [(4,(pI (Bm:Int)))])):FV Tp 143 [(.p (.sl c.length ((c.map chE).flatten))),(.fn 144 [] [(.rp [(PV.rp [(aB ft),(blP fb),(aF fq)] 0)] 0),(.rp [(blP le)] 0)])] base (pI (Bm:Int)) []:=FV.fi func143 [hl0.k 6 (gZ ga)] (gc hl0.code gn)
section
variable{c:List aV}(h0:(i:Int)<(c.length:Int))(h1:c[i]? = some (A0,Bj,Cg))
include h0 h1
theorem bPe(h2:(decide (A0<ft) == le)=true):aC Tp 0 aBn (mD c ft fb fq le i) .ret (bQ (mD c ft fb fq le i) [(4,(pI (i:Int)))]):=have k1:=fk 0 (bWd A0 Bj Cg ft fb fq le) rfl;aC.fi (gZ fm) [bT,.x (.agg [(aB A0),(blP Bj),(aF Cg)]),k1.o,bT] (gc h2 (gc k1 (gc (dE (E:=chE) (i:=i) (k:=3) (fun _=>rfl) h1 rfl) (gc (fJ (E:=chE) (i:=i) (k:=3) (fun _=>rfl) h1) (gc (cN (E:=chE) (k:=3) (i:=(i:Int)) (fun _=>rfl) (by decide) (Bp _) h1) (g0 h0))))))
theorem bPf(h2:(decide (A0<ft) == le)=false)(h3:gk i)(Ai:i'=(i+1)):aC Tp 0 aBn (mD c ft fb fq le i) .normal (mD c ft fb fq le i'):=by
 subst Ai;have k1:=fk 0 (bWd A0 Bj Cg ft fb fq le) rfl;exact aC.fi (gZ ga) [bT,.x (.agg [(aB A0),(blP Bj),(aF Cg)]),k1.o,bF] (gc h3 (gc h2 (gc k1 (gc (dE (E:=chE) (i:=i) (k:=3) (fun _=>rfl) h1 rfl) (gc (fJ (E:=chE) (i:=i) (k:=3) (fun _=>rfl) h1) (gc (cN (E:=chE) (k:=3) (i:=(i:Int)) (fun _=>rfl) (by decide) (Bp _) h1) (g0 h0)))))))
end
theorem bPg{c:List aV}(h0:(c.length:Int)≤(i:Int)):aC Tp 0 aBn (mD c ft fb fq le i) (.exit 0) (mD c ft fb fq le i):=aC.fi (gZ ga) [bF] (gc (aK h0) gn)
theorem vD(c:List aV)(ft:Int)(fb:Bool)(fq:List Int)(le:Bool)(hl:c.length≤1000){base:Nat}:FV Tp 143 [.p (.sl c.length (c.map chE).flatten),.fn 144 [] [.rp [.rp [aB ft,blP fb,aF fq] 0] 0,.rp [blP le] 0]] base (pI (bJ (fun x=>decide (x.1<ft) == le) c)) []:=by
 rcases aD.find (P:=Tp) (k:=0) (b:=aBn) (fun i=>mD c ft fb fq le i) (fun i _=>bQ (mD c ft fb fq le i) [(4,.p (aB (i:Int)))]) (mD c ft fb fq le c.length) .ret (.exit 0) (by simp) (by simp) (fun x:aV=>decide (x.1<ft) == le) c
  (fun i x hx hq=>by
   obtain ⟨t,b,q⟩:=x;exact bPf (by have:=aM hx;omega) hx hq (aI (by have:=aM hx;omega)) rfl)
  (fun i x hx hq=>by
   obtain ⟨t,b,q⟩:=x;exact bPe (by have:=aM hx;omega) hx hq)
  (bPg (by omega)) with ⟨j,x,h1,h2,h3,h4⟩ | ⟨h1,h2,h3⟩
 ·rw [eF h2]
  exact cNe h4
 ·rw [gC h1]
  exact cNd h3
def fU(dl:Int)(sk dc:Lqq)(pl:Int)(i0:Nat)(c3:List aV)(i:Nat):St:=⟨fr 137 [(2,(pI pl)),(6,(.p cC)),(7,(pI 0)),(8,(.p (.sl ((aG dl (aA sk) (aA dc)).length) (((aG dl (aA sk) (aA dc)).map hpE).flatten)))),(9,(pI (i0:Int))),(11,(.ptr 0 0)),(38,(.p (.sl c3.length ((c3.map chE).flatten)))),(39,(pI (c3.length:Int))),(40,(pI (i:Int)))],[some (.box 191 [(.p (.v (.pointer none)))])]⟩
def eK(dl:Int)(sk dc:Lqq)(i0:Nat)(Av:Int)(B6:Bool)(B2:List Int)(k on:Nat)(oc:List PV)(mo:Int):St:=⟨fr 137 [(6,(.p cC)),(7,(pI 0)),(9,(pI (i0:Int))),(11,(.rp [(PV.rp [(aB Av),(blP B6),(aF B2)] 0)] 0)),(16,(.own 0)),(19,(pI mo)),(84,(.p (.sl ((aG dl (aA sk) (aA dc)).length) (((aG dl (aA sk) (aA dc)).map hpE).flatten)))),(85,(pI ((aG dl (aA sk) (aA dc)).length:Int))),(86,(pI (k:Int)))],[some (.row 3 on oc)]⟩
section
variable{c3:List aV}(h0:bO dl sk dc)(h1:oI (aA sk) bib=(i0:Int))(h2:(aA sk)[i0]? = some [s1,s2])(h3:(aJ dl (aA dc)).length≤8)(h4:(aG dl (aA sk) (aA dc))[i0]? = some (c3,Rt,Ru))
include h0 h1 h2 h3 h4
theorem bWe(Dp:aD Tp 0 yB (fU dl sk dc pl i0 c3 0) (.exit 0) (fU dl sk dc pl i0 c3 Rv)):FV Tp 72 [(.p (.agg (bC dl sk dc))),(pI bib),(pI pl)] base (.tup [(.p cC),(pI 6)]) []:=have k1:=fk 1 (aYn h0 h1 h2 h3) rfl;FV.frz (FMM.fi 0 gE func72 [k1.o,bF,.x (.sl c3.length ((c3.map chE).flatten)),Dp.k 1 (gI b5 [1])] (gc Dp.code (gt ((((aG dl (aA sk) (aA dc)).map hpE).flatten)[(i0*3)]? = some (.sl c3.length ((c3.map chE).flatten))) (bA (E:=hpE) (i:=i0) (f:=0) (k:=3) (fun _=>rfl) h4 rfl) (gc (cN (E:=hpE) (k:=3) (i:=(i0:Int)) (fun _=>rfl) (by decide) (Bp _) h4) (gc bWb (gc k1 gn)))))) (by kernel_rfl)
theorem cNf{U0:Nat}{Km:List Int}{Q8:Int}(Dp:aD Tp 0 yB (fU dl sk dc pl i0 c3 0) (.exit 0) (bWc (fU dl sk dc pl i0 c3 Rv) 0 (some (.box 191 [(.rp [(aB Av),(blP B6),(aF B2)] 0)]))))(h6:B2.length≤1000)(h7:(aG dl (aA sk) (aA dc)).length≤1000)(h8:inR (pl-1))(h9:inR ((pl-1)-(((bR (aG dl (aA sk) (aA dc)) i0 Av).1:Nat):Int)))(D8:aD Tp 0 oM (eK dl sk dc i0 Av B6 B2 0 B2.length (B2.map aB) ((pl-1)-(((bR (aG dl (aA sk) (aA dc)) i0 Av).1:Nat):Int))) (.exit 2) (eK dl sk dc i0 Av B6 B2 U0 Km.length (Km.map aB) Q8))(Be:Km.length≤1000000):FV Tp 72 [(.p (.agg (bC dl sk dc))),(pI bib),(pI pl)] base (.tup [(.p (aF (Km.mergeSort KL.leB))),(pI 0)]) []:=have k1:=fk 1 (aYn h0 h1 h2 h3) rfl;have k2:=fk 0 (bUl B2 h6) rfl;have k3:=fk 1 (aOc (aG dl (aA sk) (aA dc)) i0 Av h7) rfl;have k4:=mq [0] 1 (aSq Km Be);FV.frz (FMM.fi 0 ⟨[],[],[0],[]⟩ func72 [k1.o,bF,.x (.sl c3.length ((c3.map chE).flatten)),Dp.k 1 (gI b5 [1]),.g 5 ⟨[],[],[0],[]⟩,.x (PV.rp [(aB Av),(blP B6),(aF B2)] 0),.x (aF B2),k2.o,.x (PV.rp [(aB Av),(blP B6),(aF B2)] 0),.x (aB Av),k3.o,D8.k 6 (gI b7 [0]),k4.o] (gc k4 (gc D8.code (gc h9 (gc h8 (gc k3 (gr (aB Av) (gr (PV.rp [(aB Av),(blP B6),(aF B2)] 0) (gc k2 (gr (aF B2) (gr (PV.rp [(aB Av),(blP B6),(aF B2)] 0) (gc Dp.code (gt ((((aG dl (aA sk) (aA dc)).map hpE).flatten)[(i0*3)]? = some (.sl c3.length ((c3.map chE).flatten))) (bA (E:=hpE) (i:=i0) (f:=0) (k:=3) (fun _=>rfl) h4 rfl) (gc (cN (E:=hpE) (k:=3) (i:=(i0:Int)) (fun _=>rfl) (by decide) (Bp _) h4) (gc bWb (gc k1 gn)))))))))))))))) (by kernel_rfl)
end
section
variable{c3:List aV}(h0:(i:Int)<(c3.length:Int))(h1:c3[i]? = some (A0,Bj,Cg))(h2:Bj=true)
include h0 h1 h2
theorem bPh(h3:pl=(-1:Int)):aC Tp 0 yB (fU dl sk dc pl i0 c3 i) (.exit 0) (bWc (fU dl sk dc pl i0 c3 i) 0 (some (.box 191 [(.rp [(aB A0),(blP Bj),(aF Cg)] 0)]))):=aC.fi (gI b5 [0]) [bT,.x (.agg [(aB A0),(blP Bj),(aF Cg)]),bT,bT,.g 1 ⟨[],[0],[1],[]⟩] (gc (bX h3) (gc h2 (gc (dE (E:=chE) (i:=i) (k:=3) (fun _=>rfl) h1 rfl) (gc (fJ (E:=chE) (i:=i) (k:=3) (fun _=>rfl) h1) (gc (cN (E:=chE) (k:=3) (i:=(i:Int)) (fun _=>rfl) (by decide) (Bp _) h1) (g0 h0))))))
theorem bPi(h3:pl≠(-1:Int))(h4:gk i)(Ai:i'=(i+1)):aC Tp 0 yB (fU dl sk dc pl i0 c3 i) .normal (fU dl sk dc pl i0 c3 i'):=by
 subst Ai;exact aC.fi (gI b5 [0]) [bT,.x (.agg [(aB A0),(blP Bj),(aF Cg)]),bT,bF] (gc h4 (gc (aS h3) (gc h2 (gc (dE (E:=chE) (i:=i) (k:=3) (fun _=>rfl) h1 rfl) (gc (fJ (E:=chE) (i:=i) (k:=3) (fun _=>rfl) h1) (gc (cN (E:=chE) (k:=3) (i:=(i:Int)) (fun _=>rfl) (by decide) (Bp _) h1) (g0 h0)))))))
end
section
variable{c3:List aV}(h0:(i:Int)<(c3.length:Int))(h1:c3[i]? = some (A0,Bj,Cg))(h2:Bj=false)(h3:(aG dl (aA sk) (aA dc)).length≤1000)(h4:inR ((((bR (aG dl (aA sk) (aA dc)) i0 A0).1+1):Nat):Int))(h5:inR ((((bR (aG dl (aA sk) (aA dc)) i0 A0).2+1):Nat):Int))
include h0 h1 h2 h3 h4 h5
theorem bPj(h6:(within pl ((((bR (aG dl (aA sk) (aA dc)) i0 A0).1+1):Nat):Int) ((((bR (aG dl (aA sk) (aA dc)) i0 A0).2+1):Nat):Int))=true):aC Tp 0 yB (fU dl sk dc pl i0 c3 i) (.exit 0) (bWc (fU dl sk dc pl i0 c3 i) 0 (some (.box 191 [(.rp [(aB A0),(blP Bj),(aF Cg)] 0)]))):=have k1:=fk 2 (aOc (aG dl (aA sk) (aA dc)) i0 A0 h3) rfl;have k2:=fk 2 (cD pl ((((bR (aG dl (aA sk) (aA dc)) i0 A0).1+1):Nat):Int) ((((bR (aG dl (aA sk) (aA dc)) i0 A0).2+1):Nat):Int)) rfl;aC.fi (gI b5 [0]) [bT,.x (.agg [(aB A0),(blP Bj),(aF Cg)]),bF,k1.o,k2.o,bT,.g 1 ⟨[],[0],[1],[]⟩] (gc h6 (gc k2 (gc h5 (gc h4 (gc k1 (gc h2 (gc (dE (E:=chE) (i:=i) (k:=3) (fun _=>rfl) h1 rfl) (gc (fJ (E:=chE) (i:=i) (k:=3) (fun _=>rfl) h1) (gc (cN (E:=chE) (k:=3) (i:=(i:Int)) (fun _=>rfl) (by decide) (Bp _) h1) (g0 h0))))))))))
theorem bPk(h6:(within pl ((((bR (aG dl (aA sk) (aA dc)) i0 A0).1+1):Nat):Int) ((((bR (aG dl (aA sk) (aA dc)) i0 A0).2+1):Nat):Int))=false)(h7:gk i)(Ai:i'=(i+1)):aC Tp 0 yB (fU dl sk dc pl i0 c3 i) .normal (fU dl sk dc pl i0 c3 i'):=by
 subst Ai;have k1:=fk 2 (aOc (aG dl (aA sk) (aA dc)) i0 A0 h3) rfl;have k2:=fk 2 (cD pl ((((bR (aG dl (aA sk) (aA dc)) i0 A0).1+1):Nat):Int) ((((bR (aG dl (aA sk) (aA dc)) i0 A0).2+1):Nat):Int)) rfl;exact aC.fi (gI b5 [0]) [bT,.x (.agg [(aB A0),(blP Bj),(aF Cg)]),bF,k1.o,k2.o,bF] (gc h7 (gc h6 (gc k2 (gc h5 (gc h4 (gc k1 (gc h2 (gc (dE (E:=chE) (i:=i) (k:=3) (fun _=>rfl) h1 rfl) (gc (fJ (E:=chE) (i:=i) (k:=3) (fun _=>rfl) h1) (gc (cN (E:=chE) (k:=3) (i:=(i:Int)) (fun _=>rfl) (by decide) (Bp _) h1) (g0 h0)))))))))))
end
theorem bPl{c3:List aV}(h0:(c3.length:Int)≤(i:Int)):aC Tp 0 yB (fU dl sk dc pl i0 c3 i) (.exit 0) (fU dl sk dc pl i0 c3 i):=aC.fi (gI b5 [0]) [bF] (gc (aK h0) gn)
theorem bPm{Ag:List aV}(h0:(k:Int)<((aG dl (aA sk) (aA dc)).length:Int))(h1:(aG dl (aA sk) (aA dc))[k]? = some (Ag,B7,Az))(h2:(k:Int)=(i0:Int))(h3:gk k)(Ci:k'=(k+1)):aC Tp 0 oM (eK dl sk dc i0 Av B6 B2 k o.length (o.map aB) mo) .normal (eK dl sk dc i0 Av B6 B2 k' o.length (o.map aB) mo):=by
 subst Ci;exact aC.fi (gI b7 [0]) [bT,.x (.agg [(.sl Ag.length ((Ag.map chE).flatten)),(aB B7),(aB Az)]),bT] (gc h3 (gc (bX h2) (gc (dE (E:=hpE) (i:=k) (k:=3) (fun _=>rfl) h1 rfl) (gc (fJ (E:=hpE) (i:=k) (k:=3) (fun _=>rfl) h1) (gc (cN (E:=hpE) (k:=3) (i:=(k:Int)) (fun _=>rfl) (by decide) (Bp _) h1) (g0 h0))))))
section
variable{Ag:List aV}(h0:(k:Int)<((aG dl (aA sk) (aA dc)).length:Int))(h1:(aG dl (aA sk) (aA dc))[k]? = some (Ag,B7,Az))(h2:(k:Int)≠(i0:Int))
include h0 h1 h2
theorem bPn(h3:Av≤Az)(h4:B7<Av)(h5:(0:Int)<mo)(h6:inR (mo-1))(h7:Ag.length≤1000)(h8:bJ (fun x=>decide (x.1<Av) == true) Ag=(Bf:Int))(h9:Ag[(if (Bf:Int) > 0 then (Bf:Int) else 0).toNat]? = some (L4,Iq,Cd))(A8:0≤(if (Bf:Int) > 0 then (Bf:Int) else 0))(Be:(Cd.map aB).length=Cd.length*1∧o.length+Cd.length≤1000000)(Bo:gk k)(Ci:k'=(k+1))(Bq:o'.length=(o.length+Cd.length))(Br:o'.map aB=((o.map aB)++(Cd.map aB)))(N8:R4=(mo-1)):aC Tp 0 oM (eK dl sk dc i0 Av B6 B2 k o.length (o.map aB) mo) .normal (eK dl sk dc i0 Av B6 B2 k' o'.length (o'.map aB) R4):=by
 subst Ci N8;rw [Bq,Br];exact aC.fi (gI b7 [2]) ([bT,.x (.agg [(.sl Ag.length ((Ag.map chE).flatten)),(aB B7),(aB Az)]),bF,.x (PV.rp [(aB Av),(blP B6),(aF B2)] 0),.x (aB Av),bT,bT,bT,bT,.x (PV.rp [(aB Av),(blP B6),(aF B2)] 0),bT,bT,bT,.x (aB Av)]++rT 6++[.g 4 ⟨[],[0,1],[2],[]⟩,.c (pI (Bf:Int)) [],.x (aF Cd)]) (gc Bo (gc Be (gt (((Ag.map chE).flatten)[(((if (Bf:Int) > 0 then (Bf:Int) else 0).toNat*3)+2)]? = some (aF Cd)) (bA (E:=chE) (i:=(if (Bf:Int) > 0 then (Bf:Int) else 0).toNat) (f:=2) (k:=3) (fun _=>rfl) h9 rfl) (gc (cN (E:=chE) (k:=3) (i:=(if (Bf:Int) > 0 then (Bf:Int) else 0)) (fun _=>rfl) (by decide) A8 h9) (gt (FC Tp 143 [(.p (.sl Ag.length ((Ag.map chE).flatten))),(.fn 144 [] [(.rp [(PV.rp [(aB Av),(blP B6),(aF B2)] 0)] 0),(.rp [(blP true)] 0)])] [] 2 (pI (Bf:Int)) []) (by rw [← h8];exact FV.fc (vD Ag Av B6 B2 true h7) (by kernel_rfl)) (gc h6 (gc (bI h5) (Ak (bI h4) (Aq (bN (aK h3)) (gr (aB Av) (Ak (bN (aK h3)) (gr (PV.rp [(aB Av),(blP B6),(aF B2)] 0) (Aq (bN (aK h3)) (gc aBo (Aq (bN (aK h3)) (gr (aB Av) (gr (PV.rp [(aB Av),(blP B6),(aF B2)] 0) (gc vC (gc (aS h2) (gc (dE (E:=hpE) (i:=k) (k:=3) (fun _=>rfl) h1 rfl) (gc (fJ (E:=hpE) (i:=k) (k:=3) (fun _=>rfl) h1) (gc (cN (E:=hpE) (k:=3) (i:=(k:Int)) (fun _=>rfl) (by decide) (Bp _) h1) (g0 h0)))))))))))))))))))))))
theorem bPo(h3:Av≤Az)(h4:B7<Av)(h5:(0:Int)<mo)(h6:inR (mo-1))(h7:Ag.length≤1000)(h8:bJ (fun x=>decide (x.1<Av) == true) Ag=(-1:Int))(h9:Ag[(if (-1) > 0 then (-1) else 0).toNat]? = some (Lz,Ly,Cc))(A8:0≤(if (-1) > 0 then (-1) else 0))(Be:(Cc.map aB).length=Cc.length*1∧o.length+Cc.length≤1000000)(Bo:gk k)(Ci:k'=(k+1))(Bq:o'.length=(o.length+Cc.length))(Br:o'.map aB=((o.map aB)++(Cc.map aB)))(N8:R4=(mo-1)):aC Tp 0 oM (eK dl sk dc i0 Av B6 B2 k o.length (o.map aB) mo) .normal (eK dl sk dc i0 Av B6 B2 k' o'.length (o'.map aB) R4):=by
 subst Ci N8;rw [Bq,Br];exact aC.fi (gI b7 [2]) ([bT,.x (.agg [(.sl Ag.length ((Ag.map chE).flatten)),(aB B7),(aB Az)]),bF,.x (PV.rp [(aB Av),(blP B6),(aF B2)] 0),.x (aB Av),bT,bT,bT,bT,.x (PV.rp [(aB Av),(blP B6),(aF B2)] 0),bT,bT,bT,.x (aB Av)]++rT 6++[.g 4 ⟨[],[0,1],[2],[]⟩,.c (pI (-1)) [],.x (aF Cc)]) (gc Bo (gc Be (gt (((Ag.map chE).flatten)[(((if (-1) > 0 then (-1) else 0).toNat*3)+2)]? = some (aF Cc)) (bA (E:=chE) (i:=(if (-1) > 0 then (-1) else 0).toNat) (f:=2) (k:=3) (fun _=>rfl) h9 rfl) (gc (cN (E:=chE) (k:=3) (i:=(if (-1) > 0 then (-1) else 0)) (fun _=>rfl) (by decide) A8 h9) (gt (FC Tp 143 [(.p (.sl Ag.length ((Ag.map chE).flatten))),(.fn 144 [] [(.rp [(PV.rp [(aB Av),(blP B6),(aF B2)] 0)] 0),(.rp [(blP true)] 0)])] [] 2 (pI (-1)) []) (by rw [← h8];exact FV.fc (vD Ag Av B6 B2 true h7) (by kernel_rfl)) (gc h6 (gc (bI h5) (Ak (bI h4) (Aq (bN (aK h3)) (gr (aB Av) (Ak (bN (aK h3)) (gr (PV.rp [(aB Av),(blP B6),(aF B2)] 0) (Aq (bN (aK h3)) (gc aBo (Aq (bN (aK h3)) (gr (aB Av) (gr (PV.rp [(aB Av),(blP B6),(aF B2)] 0) (gc vC (gc (aS h2) (gc (dE (E:=hpE) (i:=k) (k:=3) (fun _=>rfl) h1 rfl) (gc (fJ (E:=hpE) (i:=k) (k:=3) (fun _=>rfl) h1) (gc (cN (E:=hpE) (k:=3) (i:=(k:Int)) (fun _=>rfl) (by decide) (Bp _) h1) (g0 h0)))))))))))))))))))))))
theorem bPp(h3:Av≤Az)(h4:B7<Av)(h5:mo≤0)(h6:Ag.length≤1000)(h7:bJ (fun x=>decide (x.1<Av) == (decide (Az<Av))) Ag=(Bf:Int))(h8:Ag[(if (Bf:Int) > 0 then (Bf:Int) else 0).toNat]? = some (L4,Iq,Cd))(h9:0≤(if (Bf:Int) > 0 then (Bf:Int) else 0))(A8:(Cd.map aB).length=Cd.length*1∧o.length+Cd.length≤1000000)(Be:gk k)(Ci:k'=(k+1))(Bq:o'.length=(o.length+Cd.length))(Br:o'.map aB=((o.map aB)++(Cd.map aB))):aC Tp 0 oM (eK dl sk dc i0 Av B6 B2 k o.length (o.map aB) mo) .normal (eK dl sk dc i0 Av B6 B2 k' o'.length (o'.map aB) mo):=by
 subst Ci;rw [Bq,Br];exact aC.fi (gI b7 [2]) ([bT,.x (.agg [(.sl Ag.length ((Ag.map chE).flatten)),(aB B7),(aB Az)]),bF,.x (PV.rp [(aB Av),(blP B6),(aF B2)] 0),.x (aB Av),bT,bT,bT,bT,.x (PV.rp [(aB Av),(blP B6),(aF B2)] 0),bT,bT,bT,.x (aB Av)]++rT 5++[bF,.g 1 ⟨[],[0,1],[2],[]⟩,.c (pI (Bf:Int)) [],.x (aF Cd)]) (gc Be (gc A8 (gt (((Ag.map chE).flatten)[(((if (Bf:Int) > 0 then (Bf:Int) else 0).toNat*3)+2)]? = some (aF Cd)) (bA (E:=chE) (i:=(if (Bf:Int) > 0 then (Bf:Int) else 0).toNat) (f:=2) (k:=3) (fun _=>rfl) h8 rfl) (gc (cN (E:=chE) (k:=3) (i:=(if (Bf:Int) > 0 then (Bf:Int) else 0)) (fun _=>rfl) (by decide) h9 h8) (gt (FC Tp 143 [(.p (.sl Ag.length ((Ag.map chE).flatten))),(.fn 144 [] [(.rp [(PV.rp [(aB Av),(blP B6),(aF B2)] 0)] 0),(.rp [(blP (decide (Az<Av)))] 0)])] [] 2 (pI (Bf:Int)) []) (by rw [← h7];exact FV.fc (vD Ag Av B6 B2 (decide (Az<Av)) h6) (by kernel_rfl)) (gc (aK h5) (Ak (bI h4) (Aq (bN (aK h3)) (gr (aB Av) (Ak (bN (aK h3)) (gr (PV.rp [(aB Av),(blP B6),(aF B2)] 0) (Aq (bN (aK h3)) (gc aBo (Aq (bN (aK h3)) (gr (aB Av) (gr (PV.rp [(aB Av),(blP B6),(aF B2)] 0) (gc vC (gc (aS h2) (gc (dE (E:=hpE) (i:=k) (k:=3) (fun _=>rfl) h1 rfl) (gc (fJ (E:=hpE) (i:=k) (k:=3) (fun _=>rfl) h1) (gc (cN (E:=hpE) (k:=3) (i:=(k:Int)) (fun _=>rfl) (by decide) (Bp _) h1) (g0 h0))))))))))))))))))))))
theorem bPq(h3:Av≤Az)(h4:B7<Av)(h5:mo≤0)(h6:Ag.length≤1000)(h7:bJ (fun x=>decide (x.1<Av) == (decide (Az<Av))) Ag=(-1:Int))(h8:Ag[(if (-1) > 0 then (-1) else 0).toNat]? = some (Lz,Ly,Cc))(h9:0≤(if (-1) > 0 then (-1) else 0))(A8:(Cc.map aB).length=Cc.length*1∧o.length+Cc.length≤1000000)(Be:gk k)(Ci:k'=(k+1))(Bq:o'.length=(o.length+Cc.length))(Br:o'.map aB=((o.map aB)++(Cc.map aB))):aC Tp 0 oM (eK dl sk dc i0 Av B6 B2 k o.length (o.map aB) mo) .normal (eK dl sk dc i0 Av B6 B2 k' o'.length (o'.map aB) mo):=by
 subst Ci;rw [Bq,Br];exact aC.fi (gI b7 [2]) ([bT,.x (.agg [(.sl Ag.length ((Ag.map chE).flatten)),(aB B7),(aB Az)]),bF,.x (PV.rp [(aB Av),(blP B6),(aF B2)] 0),.x (aB Av),bT,bT,bT,bT,.x (PV.rp [(aB Av),(blP B6),(aF B2)] 0),bT,bT,bT,.x (aB Av)]++rT 5++[bF,.g 1 ⟨[],[0,1],[2],[]⟩,.c (pI (-1)) [],.x (aF Cc)]) (gc Be (gc A8 (gt (((Ag.map chE).flatten)[(((if (-1) > 0 then (-1) else 0).toNat*3)+2)]? = some (aF Cc)) (bA (E:=chE) (i:=(if (-1) > 0 then (-1) else 0).toNat) (f:=2) (k:=3) (fun _=>rfl) h8 rfl) (gc (cN (E:=chE) (k:=3) (i:=(if (-1) > 0 then (-1) else 0)) (fun _=>rfl) (by decide) h9 h8) (gt (FC Tp 143 [(.p (.sl Ag.length ((Ag.map chE).flatten))),(.fn 144 [] [(.rp [(PV.rp [(aB Av),(blP B6),(aF B2)] 0)] 0),(.rp [(blP (decide (Az<Av)))] 0)])] [] 2 (pI (-1)) []) (by rw [← h7];exact FV.fc (vD Ag Av B6 B2 (decide (Az<Av)) h6) (by kernel_rfl)) (gc (aK h5) (Ak (bI h4) (Aq (bN (aK h3)) (gr (aB Av) (Ak (bN (aK h3)) (gr (PV.rp [(aB Av),(blP B6),(aF B2)] 0) (Aq (bN (aK h3)) (gc aBo (Aq (bN (aK h3)) (gr (aB Av) (gr (PV.rp [(aB Av),(blP B6),(aF B2)] 0) (gc vC (gc (aS h2) (gc (dE (E:=hpE) (i:=k) (k:=3) (fun _=>rfl) h1 rfl) (gc (fJ (E:=hpE) (i:=k) (k:=3) (fun _=>rfl) h1) (gc (cN (E:=hpE) (k:=3) (i:=(k:Int)) (fun _=>rfl) (by decide) (Bp _) h1) (g0 h0))))))))))))))))))))))
theorem bPr(h3:Av≤Az)(h4:Av≤B7)(h5:Ag.length≤1000)(h6:bJ (fun x=>decide (x.1<Av) == (decide (Az<Av))) Ag=(Bf:Int))(h7:Ag[(if (Bf:Int) > 0 then (Bf:Int) else 0).toNat]? = some (L4,Iq,Cd))(h8:0≤(if (Bf:Int) > 0 then (Bf:Int) else 0))(h9:(Cd.map aB).length=Cd.length*1∧o.length+Cd.length≤1000000)(A8:gk k)(Ci:k'=(k+1))(Bq:o'.length=(o.length+Cd.length))(Br:o'.map aB=((o.map aB)++(Cd.map aB))):aC Tp 0 oM (eK dl sk dc i0 Av B6 B2 k o.length (o.map aB) mo) .normal (eK dl sk dc i0 Av B6 B2 k' o'.length (o'.map aB) mo):=by
 subst Ci;rw [Bq,Br];exact aC.fi (gI b7 [2]) [bT,.x (.agg [(.sl Ag.length ((Ag.map chE).flatten)),(aB B7),(aB Az)]),bF,.x (PV.rp [(aB Av),(blP B6),(aF B2)] 0),.x (aB Av),bT,bT,bT,bT,.x (PV.rp [(aB Av),(blP B6),(aF B2)] 0),bT,bT,bT,.x (aB Av),bT,bT,bF,bF,bF,.g 2 ⟨[],[0,1],[2],[]⟩,.c (pI (Bf:Int)) [],.x (aF Cd)] (gc A8 (gc h9 (gt (((Ag.map chE).flatten)[(((if (Bf:Int) > 0 then (Bf:Int) else 0).toNat*3)+2)]? = some (aF Cd)) (bA (E:=chE) (i:=(if (Bf:Int) > 0 then (Bf:Int) else 0).toNat) (f:=2) (k:=3) (fun _=>rfl) h7 rfl) (gc (cN (E:=chE) (k:=3) (i:=(if (Bf:Int) > 0 then (Bf:Int) else 0)) (fun _=>rfl) (by decide) h8 h7) (gt (FC Tp 143 [(.p (.sl Ag.length ((Ag.map chE).flatten))),(.fn 144 [] [(.rp [(PV.rp [(aB Av),(blP B6),(aF B2)] 0)] 0),(.rp [(blP (decide (Az<Av)))] 0)])] [] 2 (pI (Bf:Int)) []) (by rw [← h6];exact FV.fc (vD Ag Av B6 B2 (decide (Az<Av)) h5) (by kernel_rfl)) (Ak (aK h4) (Aq (bN (aK h3)) (gr (aB Av) (Ak (bN (aK h3)) (gr (PV.rp [(aB Av),(blP B6),(aF B2)] 0) (Aq (bN (aK h3)) (gc aBo (Aq (bN (aK h3)) (gr (aB Av) (gr (PV.rp [(aB Av),(blP B6),(aF B2)] 0) (gc vC (gc (aS h2) (gc (dE (E:=hpE) (i:=k) (k:=3) (fun _=>rfl) h1 rfl) (gc (fJ (E:=hpE) (i:=k) (k:=3) (fun _=>rfl) h1) (gc (cN (E:=hpE) (k:=3) (i:=(k:Int)) (fun _=>rfl) (by decide) (Bp _) h1) (g0 h0)))))))))))))))))))))
theorem bPs(h3:Av≤Az)(h4:Av≤B7)(h5:Ag.length≤1000)(h6:bJ (fun x=>decide (x.1<Av) == (decide (Az<Av))) Ag=(-1:Int))(h7:Ag[(if (-1) > 0 then (-1) else 0).toNat]? = some (Lz,Ly,Cc))(h8:0≤(if (-1) > 0 then (-1) else 0))(h9:(Cc.map aB).length=Cc.length*1∧o.length+Cc.length≤1000000)(A8:gk k)(Ci:k'=(k+1))(Bq:o'.length=(o.length+Cc.length))(Br:o'.map aB=((o.map aB)++(Cc.map aB))):aC Tp 0 oM (eK dl sk dc i0 Av B6 B2 k o.length (o.map aB) mo) .normal (eK dl sk dc i0 Av B6 B2 k' o'.length (o'.map aB) mo):=by
 subst Ci;rw [Bq,Br];exact aC.fi (gI b7 [2]) [bT,.x (.agg [(.sl Ag.length ((Ag.map chE).flatten)),(aB B7),(aB Az)]),bF,.x (PV.rp [(aB Av),(blP B6),(aF B2)] 0),.x (aB Av),bT,bT,bT,bT,.x (PV.rp [(aB Av),(blP B6),(aF B2)] 0),bT,bT,bT,.x (aB Av),bT,bT,bF,bF,bF,.g 2 ⟨[],[0,1],[2],[]⟩,.c (pI (-1)) [],.x (aF Cc)] (gc A8 (gc h9 (gt (((Ag.map chE).flatten)[(((if (-1) > 0 then (-1) else 0).toNat*3)+2)]? = some (aF Cc)) (bA (E:=chE) (i:=(if (-1) > 0 then (-1) else 0).toNat) (f:=2) (k:=3) (fun _=>rfl) h7 rfl) (gc (cN (E:=chE) (k:=3) (i:=(if (-1) > 0 then (-1) else 0)) (fun _=>rfl) (by decide) h8 h7) (gt (FC Tp 143 [(.p (.sl Ag.length ((Ag.map chE).flatten))),(.fn 144 [] [(.rp [(PV.rp [(aB Av),(blP B6),(aF B2)] 0)] 0),(.rp [(blP (decide (Az<Av)))] 0)])] [] 2 (pI (-1)) []) (by rw [← h6];exact FV.fc (vD Ag Av B6 B2 (decide (Az<Av)) h5) (by kernel_rfl)) (Ak (aK h4) (Aq (bN (aK h3)) (gr (aB Av) (Ak (bN (aK h3)) (gr (PV.rp [(aB Av),(blP B6),(aF B2)] 0) (Aq (bN (aK h3)) (gc aBo (Aq (bN (aK h3)) (gr (aB Av) (gr (PV.rp [(aB Av),(blP B6),(aF B2)] 0) (gc vC (gc (aS h2) (gc (dE (E:=hpE) (i:=k) (k:=3) (fun _=>rfl) h1 rfl) (gc (fJ (E:=hpE) (i:=k) (k:=3) (fun _=>rfl) h1) (gc (cN (E:=hpE) (k:=3) (i:=(k:Int)) (fun _=>rfl) (by decide) (Bp _) h1) (g0 h0)))))))))))))))))))))
theorem bPt(h3:Az<Av)(h4:Ag.length≤1000)(h5:bJ (fun x=>decide (x.1<Av) == (decide (Az<Av))) Ag=(Bf:Int))(h6:Ag[(if (Bf:Int) > 0 then (Bf:Int) else 0).toNat]? = some (L4,Iq,Cd))(h7:0≤(if (Bf:Int) > 0 then (Bf:Int) else 0))(h8:(Cd.map aB).length=Cd.length*1∧o.length+Cd.length≤1000000)(h9:gk k)(Ci:k'=(k+1))(Bq:o'.length=(o.length+Cd.length))(Br:o'.map aB=((o.map aB)++(Cd.map aB))):aC Tp 0 oM (eK dl sk dc i0 Av B6 B2 k o.length (o.map aB) mo) .normal (eK dl sk dc i0 Av B6 B2 k' o'.length (o'.map aB) mo):=by
 subst Ci;rw [Bq,Br];exact aC.fi (gI b7 [2]) ([bT,.x (.agg [(.sl Ag.length ((Ag.map chE).flatten)),(aB B7),(aB Az)]),bF,.x (PV.rp [(aB Av),(blP B6),(aF B2)] 0),.x (aB Av)]++rF 9++[.g 2 ⟨[],[0,1],[2],[]⟩,.c (pI (Bf:Int)) [],.x (aF Cd)]) (gc h9 (gc h8 (gt (((Ag.map chE).flatten)[(((if (Bf:Int) > 0 then (Bf:Int) else 0).toNat*3)+2)]? = some (aF Cd)) (bA (E:=chE) (i:=(if (Bf:Int) > 0 then (Bf:Int) else 0).toNat) (f:=2) (k:=3) (fun _=>rfl) h6 rfl) (gc (cN (E:=chE) (k:=3) (i:=(if (Bf:Int) > 0 then (Bf:Int) else 0)) (fun _=>rfl) (by decide) h7 h6) (gt (FC Tp 143 [(.p (.sl Ag.length ((Ag.map chE).flatten))),(.fn 144 [] [(.rp [(PV.rp [(aB Av),(blP B6),(aF B2)] 0)] 0),(.rp [(blP (decide (Az<Av)))] 0)])] [] 2 (pI (Bf:Int)) []) (by rw [← h5];exact FV.fc (vD Ag Av B6 B2 (decide (Az<Av)) h4) (by kernel_rfl)) (E1 (aR (bI h3)) (gc (aR (bI h3)) (gr (aB Av) (gr (PV.rp [(aB Av),(blP B6),(aF B2)] 0) (gc vC (gc (aS h2) (gc (dE (E:=hpE) (i:=k) (k:=3) (fun _=>rfl) h1 rfl) (gc (fJ (E:=hpE) (i:=k) (k:=3) (fun _=>rfl) h1) (gc (cN (E:=hpE) (k:=3) (i:=(k:Int)) (fun _=>rfl) (by decide) (Bp _) h1) (g0 h0)))))))))))))))
theorem bPu(h3:Az<Av)(h4:Ag.length≤1000)(h5:bJ (fun x=>decide (x.1<Av) == (decide (Az<Av))) Ag=(-1:Int))(h6:Ag[(if (-1) > 0 then (-1) else 0).toNat]? = some (Lz,Ly,Cc))(h7:0≤(if (-1) > 0 then (-1) else 0))(h8:(Cc.map aB).length=Cc.length*1∧o.length+Cc.length≤1000000)(h9:gk k)(Ci:k'=(k+1))(Bq:o'.length=(o.length+Cc.length))(Br:o'.map aB=((o.map aB)++(Cc.map aB))):aC Tp 0 oM (eK dl sk dc i0 Av B6 B2 k o.length (o.map aB) mo) .normal (eK dl sk dc i0 Av B6 B2 k' o'.length (o'.map aB) mo):=by
 subst Ci;rw [Bq,Br];exact aC.fi (gI b7 [2]) ([bT,.x (.agg [(.sl Ag.length ((Ag.map chE).flatten)),(aB B7),(aB Az)]),bF,.x (PV.rp [(aB Av),(blP B6),(aF B2)] 0),.x (aB Av)]++rF 9++[.g 2 ⟨[],[0,1],[2],[]⟩,.c (pI (-1)) [],.x (aF Cc)]) (gc h9 (gc h8 (gt (((Ag.map chE).flatten)[(((if (-1) > 0 then (-1) else 0).toNat*3)+2)]? = some (aF Cc)) (bA (E:=chE) (i:=(if (-1) > 0 then (-1) else 0).toNat) (f:=2) (k:=3) (fun _=>rfl) h6 rfl) (gc (cN (E:=chE) (k:=3) (i:=(if (-1) > 0 then (-1) else 0)) (fun _=>rfl) (by decide) h7 h6) (gt (FC Tp 143 [(.p (.sl Ag.length ((Ag.map chE).flatten))),(.fn 144 [] [(.rp [(PV.rp [(aB Av),(blP B6),(aF B2)] 0)] 0),(.rp [(blP (decide (Az<Av)))] 0)])] [] 2 (pI (-1)) []) (by rw [← h5];exact FV.fc (vD Ag Av B6 B2 (decide (Az<Av)) h4) (by kernel_rfl)) (E1 (aR (bI h3)) (gc (aR (bI h3)) (gr (aB Av) (gr (PV.rp [(aB Av),(blP B6),(aF B2)] 0) (gc vC (gc (aS h2) (gc (dE (E:=hpE) (i:=k) (k:=3) (fun _=>rfl) h1 rfl) (gc (fJ (E:=hpE) (i:=k) (k:=3) (fun _=>rfl) h1) (gc (cN (E:=hpE) (k:=3) (i:=(k:Int)) (fun _=>rfl) (by decide) (Bp _) h1) (g0 h0)))))))))))))))
end
theorem bPv(h0:((aG dl (aA sk) (aA dc)).length:Int)≤(k:Int)):aC Tp 0 oM (eK dl sk dc i0 Av B6 B2 k o.length (o.map aB) mo) (.exit 2) (eK dl sk dc i0 Av B6 B2 k o.length (o.map aB) mo):=aC.fi (gI b7 [0]) [bF] (gc (aK h0) gn)
end
section
theorem cCo{dl:Int}{D:Lqq}{u:List Int}(h2:u.Pairwise (· < ·))(hu:∀ n∈u,n∈aJ dl D):sX dl D u=0:=by
 unfold sX;rw [if_pos (gB.2 fun n hn=>by
  unfold ocB;rw [List.contains_iff_mem];exact hu n hn),if_pos]
 unfold nN;rw [gB];intro i hi;have hi:=iN.1 hi
 rcases Nat.eq_zero_or_pos i with rfl | h0
 ·rfl
 ·rw [wB]
  refine .inr (decide_eq_true ?_);have:=List.pairwise_iff_getElem.1 h2 (i-1) i (by omega) hi (by omega)
  rw [B5,B5,Ay hi,Ay (show i-1<u.length by omega)]
  exact this
theorem aHu{dl:Int}{D:Lqq}(hd:bP D):(aJ dl D).Pairwise (· < ·):=by
 unfold aJ;rw [List.pairwise_map];exact hd.up.sublist List.filter_sublist
theorem cCp{l:List Int}(h:l.Nodup):(l.mergeSort KL.leB).Pairwise (· < ·):=by
 have h1:(l.mergeSort KL.leB).Pairwise fun a b=>KL.leB a b=true:=List.pairwise_mergeSort (fun a b c h1 h2=>by simp only [KL.leB,decide_eq_true_eq] at *;omega) (fun a b=>by simp only [KL.leB,wB,decide_eq_true_eq];omega) l
 have h2:(l.mergeSort KL.leB).Nodup:=(List.mergeSort_perm l KL.leB).nodup_iff.2 h;exact (h1.and h2).imp fun {a b} q=>by
  have q1:a≤b:=of_decide_eq_true q.1;have q2:a≠b:=q.2;omega
end
section
section
variable {dl:Int} {oc Ei:List Int} {F:List Int→Int}
theorem aTj{P:Int→Bool}:∀ {L:Lqq},bP L→(∀ s∈L,∀ y∈L,dAb s=dN y→F s=F y)→(∀ y∈L,P (F y)=true→oc.contains (dN y)=Ei.contains (dN y))→(bL dl oc L).filter (fun s=>P (F s.x))=(bL dl Ei L).filter (fun s=>P (F s.x))
 | [],_,_,_=>rfl
 | y::L,hd,hF,ho=>by
  have ih:=aTj (P:=P) hd.tail (fun s hs z hz=>hF s (Ch _ hs) z (Ch _ hz)) fun z hz=>ho z (Ch _ hz)
  have ex:∀ q,(mkS dl q y (bL dl q L)).x=y:=fun _=>rfl
  cases hy:P (F y) with
  | false=>rw [bL,bL,List.filter_cons_of_neg (by rw [ex,hy];exact Bool.false_ne_true),List.filter_cons_of_neg (by rw [ex,hy];exact Bool.false_ne_true),ih]
  | true =>
   rw [bL,bL,List.filter_cons_of_pos (by rw [ex,hy]),List.filter_cons_of_pos (by rw [ex,hy]),ih]
   congr 1
   have key:∀ q,cV (bL dl q L) (dN y)=cV ((bL dl q L).filter fun s=>P (F s.x)) (dN y):=fun q=>by
    unfold cV;rw [← List.filter_reverse,List.filter_filter];refine List.filter_congr fun s hs => ?_
    cases e:dAb s.x == dN y with
    | false=>rfl
    | true =>
     have e:dAb s.x=dN y:=by simpa using e
     have:=hF s.x (Ch _ (bVu (yZ.1 hs))) y (gA ..) e;rw [this,hy];rfl
   have e:cV (bL dl oc L) (dN y)=cV (bL dl Ei L) (dN y):=by rw [key,key,ih]
   unfold mkS;rw [e,ho y (gA ..) hy]
theorem bWg{P:Int→Bool}{L:Lqq}(hd:bP L)(hF:∀ s∈L,∀ y∈L,dAb s=dN y→F s=F y)(ho:∀ y∈L,P (F y)=true→oc.contains (dN y)=Ei.contains (dN y)){y:List Int}(hm:y∈L)(hy:P (F y)=true):stF dl oc L y=stF dl Ei L y:=by
 have h:=aTj (dl:=dl) (P:=P) hd hF ho;have key:∀ q,(bL dl q L).find? (fun s=>s.x == y)=((bL dl q L).filter fun s=>P (F s.x)).find? (fun s=>s.x == y):=fun q=>(aBm fun s _ hs=>by
  cases e:s.x == y with
  | false=>rfl
  | true =>
   have e:s.x=y:=by simpa using e
   rw [e,hy] at hs
   cases hs).symm
 have hs:((bL dl oc L).find? fun s=>s.x == y).isSome=true:=by
  rw [List.find?_isSome];have hm:=hm;rw [← pY dl oc L] at hm
  obtain ⟨s,h1,h2⟩:=B3.1 hm;exact ⟨s,h1,by rw [h2];exact beq_self_eq_true y⟩
 have e:(bL dl oc L).find? (fun s=>s.x == y)=(bL dl Ei L).find? (fun s=>s.x == y):=by rw [key oc,key Ei,h]
 obtain ⟨s,Io⟩:=Option.isSome_iff_exists.1 hs;unfold stF;rw [← e,Io];rfl
theorem aLl{D:Lqq}(hd:bP D){c t:Int}(ho:∀ y∈D,jI D y=c→oc.contains (dN y)=Ei.contains (dN y)):cA dl oc D c t=cA dl Ei D c t:=by
 have e:aAu dl oc D c t=aAu dl Ei D c t:=by
  unfold aAu;refine sQ _ _ _ _ fun y hy a => ?_
  unfold oS aDc
  by_cases h4:dK y≤4
  ·by_cases hb:dB y=c
   ·have hs:stF dl oc D y=stF dl Ei D y:=bWg (F:=jI D) (P:=fun b=>decide (b=c)) hd (fun s hs y hy e=>aHs hd hs hy e) (fun y hy h=>ho y hy (of_decide_eq_true h)) hy (decide_eq_true ((aTe h4).trans hb))
    unfold dP uH jV;rw [hs]
   ·rw [show (dB y == c)=false by simpa using hb];simp
  ·rw [decide_eq_false h4];simp
 unfold cA;rw [e]
end
section
variable {dl:Int} {sk dc:Lqq}
def mT(dl:Int)(D:Lqq)(u s:List Int):Int:=(chM dl D (s.getD 0 0) (s.getD 1 0) u).1
theorem bWh(hr:bO dl sk dc){s:List Int}(hs:s∈aA sk)(u:List Int):0≤mT dl (aA dc) u s∧mT dl (aA dc) u s≤far:=by
 obtain ⟨_,_,h3,_⟩:=gQ hr;have hb:=aOv (dl:=dl) (oc:=u) (b:=s.getD 0 0) (dA hr) (h3 s hs).2;unfold mT chM;dsimp only
 split
 ·exact ⟨by decide,bEv _⟩
 ·exact ⟨hb.1,Int.le_trans hb.2 (by decide)⟩
theorem cNi(hr:bO dl sk dc){s:List Int}(hs:s∈aA sk){u:List Int}{t:Int}(ht:t≤100000000000):decide (mT dl (aA dc) u s<t)=(!(cA dl u (aA dc) (sB s) (sT s)).2 && decide ((cA dl u (aA dc) (sB s) (sT s)).1<t)):=by
 unfold mT chM;dsimp only;cases h:(cA dl u (aA dc) (s.getD 0 0) (s.getD 1 0)).2 with
 | true =>
  rw [if_pos rfl];have:¬ (far<t):=by
   have:(far:Int)=1099511627776:=rfl;omega
  rw [decide_eq_false this];rfl
 | false =>
  rw [if_neg Bool.false_ne_true];rfl
theorem cCy(hd:bP (aA dc)){y:List Int}(hy:y∈aA dc):rH (aA dc) (dN y)=jI (aA dc) y:=by unfold rH;rw [zF hd hy]
theorem bDb(hr:bO dl sk dc)(u s:List Int):chM dl (aA dc) (s.getD 0 0) (s.getD 1 0) u=((chM dl (aA dc) (s.getD 0 0) (s.getD 1 0) (u.filter fun n => !(rH (aA dc) n != s.getD 0 0))).1,(chM dl (aA dc) (s.getD 0 0) (s.getD 1 0) (u.filter fun n => !(rH (aA dc) n != s.getD 0 0))).2.1,u):=by
 have hd:=dA hr;have e:cA dl u (aA dc) (s.getD 0 0) (s.getD 1 0)=cA dl (u.filter fun n => !(rH (aA dc) n != s.getD 0 0)) (aA dc) (s.getD 0 0) (s.getD 1 0):=aLl hd fun y hy h=>by
  rw [Bool.eq_iff_iff,List.contains_iff_mem,List.contains_iff_mem,kY,cCy hd hy,h];simp
 unfold chM;rw [e]
theorem aLm(hr:bO dl sk dc){u:List Int}(hu:u.Sublist (aJ dl (aA dc)))(s:List Int):∃ x∈(lK dl (aA dc) (s.getD 0 0) (s.getD 1 0) (mR dl (aA dc) (s.getD 0 0))).1,x.1=mT dl (aA dc) u s∧x.2.1=(cA dl u (aA dc) (sB s) (sT s)).2:=by
 have hf:(u.filter fun n => !(rH (aA dc) n != s.getD 0 0)).Sublist (mR dl (aA dc) (s.getD 0 0)):=hu.filter _
 refine ⟨_,B3.2 ⟨_,aTd _ _ hf,rfl⟩,?_,?_⟩
 ·unfold mT
  rw [bDb hr u s]
 ·have:=congrArg (fun x:aV=>x.2.1) (bDb hr u s)
  exact this.symm
theorem cOg{l:List aV}{x:aV}(hx:x∈l):mnM l≤x.1:=(aSf l far).2 x hx
theorem cCz{l:List aV}{x:aV}(hx:x∈l):x.1≤mxM l:=(aSg l 0).2 x hx
def aOz(dl:Int)(D S:Lqq)(u:List Int)(t:Int)(n:Nat):Nat:=((S.take n).filter fun s=>decide (mT dl D u s<t)).length
theorem aLn{D S:Lqq}{u:List Int}{t:Int}{n:Nat}{s:List Int}(hs:S[n]? = some s):aOz dl D S u t (n+1)=aOz dl D S u t n+(if mT dl D u s<t then 1 else 0):=by
 unfold aOz;rw [List.take_add_one,hs];show ((S.take n++[s]).filter _).length=_;rw [oO,iJ]
 congr 1
 by_cases h:mT dl D u s<t
 ·rw [if_pos h,List.filter_cons_of_pos (p:=fun s=>decide (mT dl D u s<t)) (decide_eq_true h)];rfl
 ·rw [if_neg h,List.filter_cons_of_neg (p:=fun s=>decide (mT dl D u s<t)) (by show ¬ decide (mT dl D u s<t)=true;rw [decide_eq_false h];exact Bool.false_ne_true)];rfl
theorem aTk(hr:bO dl sk dc){u:List Int}(hu:u.Sublist (aJ dl (aA dc))){i:Nat}{si:List Int}(hi:(aA sk)[i]? = some si){t:Int}(ht:t=mT dl (aA dc) u si):∀ n,n≤(aA sk).length→(dI (aG dl (aA sk) (aA dc)) i t n).1≤aOz dl (aA dc) (aA sk) u t n∧aOz dl (aA dc) (aA sk) u t n≤(dI (aG dl (aA sk) (aA dc)) i t n).2
 | 0,_=>⟨Nat.zero_le _,Nat.zero_le _⟩
 | n+1,hn=>by
  obtain ⟨Jk,Ie⟩:=aTk hr hu hi ht n (by omega)
  have hs:(aA sk)[n]? = some (aA sk)[n]:=Ay (by omega)
  rw [aLn hs];unfold dI;rw [jX hs];dsimp only
  by_cases hin:n=i
  ·rw [if_pos hin]
   have e:si=(aA sk)[n]:=by subst hin;rw [hs] at hi;exact (Option.some.inj hi).symm
   rw [if_neg (by rw [← e,← ht];omega)]
   exact ⟨Jk,Ie⟩
  ·rw [if_neg hin]
   obtain ⟨x,hx,P1,_⟩:=aLm hr hu (aA sk)[n];have h1:=cOg hx;have h2:=cCz hx;rw [P1] at h1 h2
   have hmm:(lK dl (aA dc) ((aA sk)[n].getD 0 0) ((aA sk)[n].getD 1 0) (mR dl (aA dc) ((aA sk)[n].getD 0 0))).2.1≤mT dl (aA dc) u (aA sk)[n]∧mT dl (aA dc) u (aA sk)[n]≤(lK dl (aA dc) ((aA sk)[n].getD 0 0) ((aA sk)[n].getD 1 0) (mR dl (aA dc) ((aA sk)[n].getD 0 0))).2.2:=⟨h1,h2⟩;obtain ⟨h1,h2⟩:=hmm;dsimp only;constructor
   ·split <;> split <;> omega
   ·split <;> split <;> omega
theorem aTl(hr:bO dl sk dc){u:List Int}{t:Int}(ht:t≤100000000000):oT (fun s=>cA dl u (aA dc) (sB s) (sT s)) (aA sk) t=aOz dl (aA dc) (aA sk) u t (aA sk).length:=by
 unfold oT aOz;rw [List.take_length]
 congr 1
 exact List.filter_congr fun s hs=>(cNi hr hs ht).symm
theorem aTm{l:List Int}{n:Int}:n∈Lib.compact l↔n∈l:=by
 unfold Lib.compact Lib.compactUpTo;have ea:∀ j,(hj:j<l.length)→l.toArray[j]! = l[j]:=fun j hj=>by
  rw [getElem!_pos l.toArray j (by simpa using hj)];simp
 constructor
 ·intro h
  obtain ⟨j,hj,rfl⟩:=B3.1 h;have hj:=iN.1 (kY.1 hj).1;rw [ea j hj];exact fP hj
 ·intro h
  obtain ⟨j,hj,rfl⟩:=List.getElem_of_mem h
  suffices H:∀ j,(hj:j<l.length)→∃ k∈(List.range l.length).filter (Lib.keeps l.toArray),l.toArray[k]! = l[j] from by
   obtain ⟨k,hk,e⟩:=H j hj;exact B3.2 ⟨k,hk,e⟩
  intro j
  induction j with
  | zero=>exact fun hj=>⟨0,kY.2 ⟨iN.2 hj,Lib.keeps_lt_one _ 0 (by omega)⟩,ea 0 hj⟩
  | succ j ih =>
   intro hj
   by_cases he:l[j+1]=l[j]
   ·obtain ⟨k,hk,e⟩:=ih (by omega)
    exact ⟨k,hk,e.trans he.symm⟩
   ·refine ⟨j+1,kY.2 ⟨iN.2 hj,Lib.keeps_pos ?_⟩,ea (j+1) hj⟩
    rw [ea (j+1) hj,Nat.add_sub_cancel,ea j (by omega)]
    exact he
theorem aDz{al:List eU}{i:Nat}{c:List aV}{n:Int}:n∈jQ al i c↔∃ x∈c,x.2.1=false∧((bR al i x.1).1:Int)+1≤n∧n≤((bR al i x.1).2:Int)+1:=by
 unfold jQ;rw [aTm,(List.mergeSort_perm _ _).mem_iff,List.mem_flatMap];constructor
 ·rintro ⟨x,hx,hn⟩
  unfold chL at hn
  cases ho:x.2.1 with
  | true=>rw [ho] at hn;cases hn
  | false =>
   rw [ho,if_neg Bool.false_ne_true] at hn
   unfold aIk at hn
   obtain ⟨j,hj,rfl⟩:=B3.1 hn;have hj:=iN.1 hj;exact ⟨x,hx,ho,by omega,by omega⟩
 ·rintro ⟨x,hx,ho,h1,h2⟩
  refine ⟨x,hx,?_⟩;unfold chL aIk;rw [ho,if_neg Bool.false_ne_true];exact B3.2 ⟨(n-1-((bR al i x.1).1:Int)).toNat,iN.2 (by omega),by omega⟩
theorem aHt(hr:bO dl sk dc){u:List Int}(hu:u.Sublist (aJ dl (aA dc))){i:Nat}{s:List Int}(hi:(aA sk)[i]? = some s) :
  if (cA dl u (aA dc) (sB s) (sT s)).2 then ((lK dl (aA dc) (s.getD 0 0) (s.getD 1 0) (mR dl (aA dc) (s.getD 0 0))).1.any fun x=>x.2.1)=true∧fG (fun s=>cA dl u (aA dc) (sB s) (sT s)) (aA sk) s = -1
  else fG (fun s=>cA dl u (aA dc) (sB s) (sT s)) (aA sk) s∈jQ (aG dl (aA sk) (aA dc)) i (lK dl (aA dc) (s.getD 0 0) (s.getD 1 0) (mR dl (aA dc) (s.getD 0 0))).1:=by
 have hs:=Bl hi;obtain ⟨x,hx,P1,Vz⟩:=aLm hr hu s;cases ho:(cA dl u (aA dc) (sB s) (sT s)).2 with
 | true =>
  rw [if_pos rfl];refine ⟨List.any_eq_true.2 ⟨x,hx,by rw [Vz,ho]⟩,?_⟩
  unfold fG;rw [ho,if_pos rfl]
 | false =>
  rw [if_neg Bool.false_ne_true];obtain ⟨_,_,h3,_⟩:=gQ hr;have hb:=aOv (dl:=dl) (oc:=u) (b:=sB s) (dA hr) (h3 s hs).2;have hv:mT dl (aA dc) u s=(cA dl u (aA dc) (sB s) (sT s)).1:=by
   unfold mT chM;dsimp only;have ho:(cA dl u (aA dc) (s.getD 0 0) (s.getD 1 0)).2=false:=ho;rw [ho];rfl
  refine aDz.2 ⟨x,hx,by rw [Vz,ho],?_⟩
  rw [P1];unfold fG;rw [ho,if_neg Bool.false_ne_true,← hv,aTl hr (by rw [hv];exact hb.2)]
  have hc:=aTk hr hu hi rfl (aA sk).length (dF _);have e:(aG dl (aA sk) (aA dc)).length=(aA sk).length:=kN ..;show ((dI (aG dl (aA sk) (aA dc)) i (mT dl (aA dc) u s) (aG dl (aA sk) (aA dc)).length).1:Int)+1≤_∧_≤((dI (aG dl (aA sk) (aA dc)) i (mT dl (aA dc) u s) (aG dl (aA sk) (aA dc)).length).2:Int)+1;rw [e];omega
end
end
section
def jJ(t mo:Int)(h:eU):Bool:=decide (h.2.2<t) || (decide (h.2.1<t) && decide (0<mo))
def moM(t mo:Int)(h:eU):Int:=if h.2.2<t then mo else if h.2.1<t then (if 0<mo then mo-1 else mo) else mo
def gT(t:Int)(le:Bool)(c:List aV):aV:=c.getD (bJ (fun x=>decide (x.1<t) == le) c).toNat (0,false,[])
def gU(al:List eU)(i:Nat)(t Bv:Int)(q0:List Int):Nat→List Int × Int
 | 0=>(q0,Bv)
 | k+1=>match al[k]? with
  | some h=>if k=i then gU al i t Bv q0 k else ((gU al i t Bv q0 k).1++(gT t (jJ t (gU al i t Bv q0 k).2 h) h.1).2.2,moM t (gU al i t Bv q0 k).2 h)
  | none=>gU al i t Bv q0 k
def aIm(al:List eU)(i:Nat)(pl:Int)(x:aV):Bool:=if x.2.1 then decide (pl = -1) else within pl (((bR al i x.1).1+1:Nat):Int) (((bR al i x.1).2+1:Nat):Int)
def zU(al:List eU)(i:Nat)(pl:Int)(f:aV):List Int:=(gU al i f.1 (pl-1-((bR al i f.1).1:Int)) f.2.2 al.length).1
def zV(al:List eU)(i:Nat)(pl:Int)(c:List aV):Option (List Int):=(c.find? (aIm al i pl)).map fun f=>(zU al i pl f).mergeSort KL.leB
theorem mE(t:Int)(le:Bool){c:List aV}(hc:c≠[]):(∃ j:Nat,bJ (fun x=>decide (x.1<t) == le) c=(j:Int)∧c[j]? = some (gT t le c)∧decide ((gT t le c).1<t)=le)∨(bJ (fun x=>decide (x.1<t) == le) c = -1∧c[0]? = some (gT t le c)∧∀ x∈c,decide (x.1<t)≠le):=by
 have h0:0<c.length:=List.length_pos_iff.2 hc;cases hf:c.findIdx? (fun x=>decide (x.1<t) == le) with
 | some j =>
  obtain ⟨hj,h1,_⟩:=List.findIdx?_eq_some_iff_getElem.1 hf;have e:bJ (fun x:aV=>decide (x.1<t) == le) c=(j:Int):=by unfold bJ;rw [hf]
  have ep:gT t le c=c[j]:=by
   unfold gT;rw [e,aMq,B5,Ay hj];rfl
  refine .inl ⟨j,e,by rw [ep,Ay hj],?_⟩
  rw [ep];simpa using h1
 | none =>
  have e:bJ (fun x:aV=>decide (x.1<t) == le) c = -1:=by unfold bJ;rw [hf]
  have ep:gT t le c=c[0]:=by
   unfold gT;rw [e,B5,show (-1:Int).toNat=0 from rfl,Ay h0];rfl
  refine .inr ⟨e,by rw [ep,Ay h0],fun x hx => ?_⟩
  have:=List.findIdx?_eq_none_iff.1 hf x hx;simpa using this
theorem bCy(t:Int)(le:Bool){c:List aV}(hc:c≠[]):gT t le c∈c:=by
 rcases mE t le hc with ⟨j,_,h,_⟩ | ⟨_,h,_⟩
 ·exact Bl h
 ·exact Bl h
theorem cNg(l:List aV):mnM l=far∨∃ x∈l,x.1=mnM l:=by
 unfold mnM
 suffices H:∀ (l:List aV) (m:Int),l.foldl (fun m x=>if x.1<m then x.1 else m) m=m∨∃ x∈l,x.1=l.foldl (fun m x=>if x.1<m then x.1 else m) m from H l far
 intro l
 induction l with
 | nil=>exact fun m => .inl rfl
 | cons y l ih =>
  intro m;rw [kO]
  rcases ih (if y.1<m then y.1 else m) with h | ⟨x,hx,e⟩
  ·rw [h]
   split
   ·exact .inr ⟨y,gA ..,rfl⟩
   ·exact .inl rfl
  ·exact .inr ⟨x,Ch _ hx,e⟩
theorem cNh(l:List aV):mxM l=0∨∃ x∈l,x.1=mxM l:=by
 unfold mxM
 suffices H:∀ (l:List aV) (m:Int),l.foldl (fun m x=>if x.1 > m then x.1 else m) m=m∨∃ x∈l,x.1=l.foldl (fun m x=>if x.1 > m then x.1 else m) m from H l 0
 intro l
 induction l with
 | nil=>exact fun m => .inl rfl
 | cons y l ih =>
  intro m;rw [kO]
  rcases ih (if y.1 > m then y.1 else m) with h | ⟨x,hx,e⟩
  ·rw [h]
   split
   ·exact .inr ⟨y,gA ..,rfl⟩
   ·exact .inl rfl
  ·exact .inr ⟨x,Ch _ hx,e⟩
section
variable {dl:Int} {sk dc:Lqq}
abbrev hpM(dl:Int)(D:Lqq)(s:List Int):eU:=lK dl D (s.getD 0 0) (s.getD 1 0) (mR dl D (s.getD 0 0))
theorem bCz(D:Lqq)(s:List Int):(hpM dl D s).1≠[]:=fun e=>bCd _ (List.map_eq_nil_iff.1 e)
theorem qQ{D:Lqq}{s:List Int}{x:aV}(hx:x∈(hpM dl D s).1):x=chM dl D (s.getD 0 0) (s.getD 1 0) x.2.2∧x.2.2.Sublist (mR dl D (s.getD 0 0)):=by
 obtain ⟨q,hq,rfl⟩:=B3.1 hx;exact ⟨rfl,aTc hq⟩
theorem bWf{D:Lqq}{s:List Int}{x:aV}(hx:x∈(hpM dl D s).1):x.1=mT dl D x.2.2 s:=by
 have:=(qQ hx).1;exact congrArg (fun y:aV=>y.1) this
theorem bPw(hr:bO dl sk dc){s:List Int}(hs:s∈aA sk){t mo:Int}(ht:t≤far):decide ((gT t (jJ t mo (hpM dl (aA dc) s)) (hpM dl (aA dc) s).1).1<t)=jJ t mo (hpM dl (aA dc) s):=by
 rcases mE t (jJ t mo (hpM dl (aA dc) s)) (bCz (aA dc) s) with ⟨j,_,_,h⟩ | ⟨_,_,h⟩
 ·exact h
 ·exfalso
  obtain ⟨y,hy⟩:=List.exists_mem_of_ne_nil _ (bCz (dl:=dl) (aA dc) s);cases hl:jJ t mo (hpM dl (aA dc) s) with
  | true =>
   rw [hl] at h
   unfold jJ at hl
   rw [wB,Ce] at hl
   rcases hl with q | ⟨q,_⟩
   ·have q:=of_decide_eq_true q
    have:=cCz hy;have hmx:y.1≤(hpM dl (aA dc) s).2.2:=this;exact h y hy (decide_eq_true (by omega))
   ·have q:=of_decide_eq_true q
    rcases cNg (hpM dl (aA dc) s).1 with e | ⟨x,hx,e⟩
    ·have:(hpM dl (aA dc) s).2.1=far:=e
     omega
    ·have:x.1=(hpM dl (aA dc) s).2.1:=e
     exact h x hx (decide_eq_true (by omega))
  | false =>
   rw [hl] at h
   unfold jJ at hl
   rw [Bool.or_eq_false_iff] at hl
   have q:=of_decide_eq_false hl.1
   rcases cNh (hpM dl (aA dc) s).1 with e | ⟨x,hx,e⟩
   ·have e:(hpM dl (aA dc) s).2.2=0:=e
    have hv:=(bWh hr hs y.2.2).1;rw [← bWf hy] at hv
    exact h y hy (decide_eq_false (by omega))
   ·have e:x.1=(hpM dl (aA dc) s).2.2:=e
    exact h x hx (decide_eq_false (by omega))
def chG(al:List eU)(i:Nat)(t Bv:Int)(f:aV)(k:Nat):aV:=if k=i then f else match al[k]? with
 | some h=>gT t (jJ t (gU al i t Bv f.2.2 k).2 h) h.1
 | none=>f
theorem aOw{i:Nat}{t Bv:Int}{f:aV}{si:List Int}(hi:(aA sk)[i]? = some si)(hf:f∈(hpM dl (aA dc) si).1){k:Nat}{s:List Int}(hk:(aA sk)[k]? = some s):chG (aG dl (aA sk) (aA dc)) i t Bv f k∈(hpM dl (aA dc) s).1:=by
 unfold chG
 by_cases e:k=i
 ·rw [if_pos e]
  subst e;rw [hi] at hk
  cases hk;exact hf
 ·rw [if_neg e,jX hk]
  exact bCy _ _ (bCz (aA dc) s)
theorem aDx{i:Nat}{t Bv:Int}{f:aV}{n:Int}:∀ K,K≤(aA sk).length→(n∈(gU (aG dl (aA sk) (aA dc)) i t Bv f.2.2 K).1↔n∈f.2.2∨∃ k,k<K∧k≠i∧n∈(chG (aG dl (aA sk) (aA dc)) i t Bv f k).2.2)
 | 0,_=>⟨.inl,fun h=>h.resolve_right fun ⟨k,hk,_⟩=>by omega⟩
 | K+1,hK=>by
  have ih:=aDx (i:=i) (t:=t) (Bv:=Bv) (f:=f) (n:=n) K (by omega)
  have hs:(aA sk)[K]? = some (aA sk)[K]:=Ay (by omega)
  have hat:=jX (dl:=dl) (dc:=aA dc) hs;unfold gU;rw [hat];dsimp only
  by_cases e:K=i
  ·rw [if_pos e,ih]
   constructor
   ·rintro (h | ⟨k,h1,h2,h3⟩)
    ·exact .inl h
    ·exact .inr ⟨k,by omega,h2,h3⟩
   ·rintro (h | ⟨k,h1,h2,h3⟩)
    ·exact .inl h
    ·exact .inr ⟨k,by omega,h2,h3⟩
  ·rw [if_neg e,jK,ih]
   have eg:chG (aG dl (aA sk) (aA dc)) i t Bv f K=gT t (jJ t (gU (aG dl (aA sk) (aA dc)) i t Bv f.2.2 K).2 (hpM dl (aA dc) (aA sk)[K])) (hpM dl (aA dc) (aA sk)[K]).1:=by
    unfold chG;rw [if_neg e,hat]
   constructor
   ·rintro ((h | ⟨k,h1,h2,h3⟩) | h)
    ·exact .inl h
    ·exact .inr ⟨k,by omega,h2,h3⟩
    ·exact .inr ⟨K,by omega,e,by rw [eg];exact h⟩
   ·rintro (h | ⟨k,h1,h2,h3⟩)
    ·exact .inl (.inl h)
    ·by_cases ek:k=K
     ·subst ek
      rw [eg] at h3
      exact .inr h3
     ·exact .inl (.inr ⟨k,by omega,h2,h3⟩)
theorem aOx{b n:Int}{D:Lqq}(h:n∈mR dl D b):n∈aJ dl D∧rH D n=b:=by
 unfold mR at h
 obtain ⟨h1,h2⟩:=kY.1 h;exact ⟨h1,by simpa using h2⟩
theorem aOy{i:Nat}{t Bv:Int}{f:aV}{si:List Int}(hi:(aA sk)[i]? = some si)(hf:f∈(hpM dl (aA dc) si).1){k:Nat}{s:List Int}(hk:(aA sk)[k]? = some s){n:Int}(hn:n∈(chG (aG dl (aA sk) (aA dc)) i t Bv f k).2.2):n∈aJ dl (aA dc)∧rH (aA dc) n=s.getD 0 0:=aOx ((qQ (aOw hi hf hk)).2.subset hn)
theorem aDy(hr:bO dl sk dc){j k:Nat}{s s':List Int}(hj:(aA sk)[j]? = some s)(hk:(aA sk)[k]? = some s')(e:s.getD 0 0=s'.getD 0 0):j=k:=by
 have hp:=bPd hr;obtain ⟨Ny,Ee⟩:=Ca.1 hj;obtain ⟨Jt,Fz⟩:=Ca.1 hk
 rcases Nat.lt_trichotomy j k with q | q | q
 ·have:=List.pairwise_iff_getElem.1 hp j k Ny Jt q
  rw [Ee,Fz] at this
  omega
 ·exact q
 ·have:=List.pairwise_iff_getElem.1 hp k j Jt Ny q
  rw [Ee,Fz] at this
  omega
theorem wA(hr:bO dl sk dc){i:Nat}{t Bv:Int}{f:aV}{si:List Int}(hi:(aA sk)[i]? = some si)(hf:f∈(hpM dl (aA dc) si).1):∀ K,K≤(aA sk).length→(gU (aG dl (aA sk) (aA dc)) i t Bv f.2.2 K).1.Nodup∧(gU (aG dl (aA sk) (aA dc)) i t Bv f.2.2 K).1.length≤(aJ dl (aA dc)).length*K+(aJ dl (aA dc)).length
 | 0,_=>by
  have hsub:=(qQ hf).2.trans (aDw dl (aA dc) (si.getD 0 0));refine ⟨((aHu (dl:=dl) (dA hr)).sublist hsub).imp fun {a b} q e=>by omega,?_⟩
  have:=hsub.length_le;show f.2.2.length≤_;omega
 | K+1,hK=>by
  obtain ⟨ih,ihl⟩:=wA hr hi hf (t:=t) (Bv:=Bv) K (by omega)
  have hs:(aA sk)[K]? = some (aA sk)[K]:=Ay (by omega)
  have hat:=jX (dl:=dl) (dc:=aA dc) hs;have hm:(aJ dl (aA dc)).length*(K+1)=(aJ dl (aA dc)).length*K+(aJ dl (aA dc)).length:=Nat.mul_succ ..;unfold gU;rw [hat];dsimp only
  by_cases e:K=i
  ·rw [if_pos e];exact ⟨ih,by omega⟩
  ·rw [if_neg e]
   have eg:chG (aG dl (aA sk) (aA dc)) i t Bv f K=gT t (jJ t (gU (aG dl (aA sk) (aA dc)) i t Bv f.2.2 K).2 (hpM dl (aA dc) (aA sk)[K])) (hpM dl (aA dc) (aA sk)[K]).1:=by
    unfold chG;rw [if_neg e,hat]
   have hg:=aOw (t:=t) (Bv:=Bv) hi hf hs;have hsub:=(qQ hg).2.trans (aDw dl (aA dc) ((aA sk)[K].getD 0 0));have hsl:=hsub.length_le;rw [eg] at hsub hsl
   constructor
   ·rw [List.nodup_append]
    refine ⟨ih,((aHu (dl:=dl) (dA hr)).sublist hsub).imp fun {a b} q e=>by omega,fun a ha b hb hab => ?_⟩
    subst hab;rw [← eg] at hb
    have Fw:=(aOy hi hf hs hb).2
    rcases (aDx (dl:=dl) (dc:=dc) K (by omega)).1 ha with q | ⟨k,q1,q2,q3⟩
    ·have:=(aOx ((qQ hf).2.subset q)).2
     exact e (aDy hr hs hi (by omega))
    ·have hk:(aA sk)[k]? = some (aA sk)[k]:=Ay (by omega)
     have:=(aOy hi hf hk q3).2;have:=aDy hr hs hk (by omega)
     omega
   ·rw [iJ]
    exact fL (Nat.add_le_add ihl hsl) (by omega)
theorem cCn(hr:bO dl sk dc){i:Nat}{t Bv:Int}{f:aV}{si:List Int}(hi:(aA sk)[i]? = some si)(hf:f∈(hpM dl (aA dc) si).1){k:Nat}{s:List Int}(hk:(aA sk)[k]? = some s) :
  cA dl ((gU (aG dl (aA sk) (aA dc)) i t Bv f.2.2 (aA sk).length).1.mergeSort KL.leB) (aA dc) (sB s) (sT s)=cA dl (chG (aG dl (aA sk) (aA dc)) i t Bv f k).2.2 (aA dc) (sB s) (sT s):=by
 have hd:=dA hr;have hkl:k<(aA sk).length:=(Ca.1 hk).1;refine aLl hd fun y hy hsb => ?_
 have Q9:=cCy hd hy;rw [Bool.eq_iff_iff,List.contains_iff_mem,List.contains_iff_mem,(List.mergeSort_perm _ _).mem_iff,aDx _ (dF _)];have efi:chG (aG dl (aA sk) (aA dc)) i t Bv f i=f:=by unfold chG;rw [if_pos rfl]
 constructor
 ·rintro (q | ⟨j,q1,q2,q3⟩)
  ·have h1:=(aOx ((qQ hf).2.subset q)).2
   have:=aDy hr hi hk (h1.symm.trans (Q9.trans hsb));subst this;rw [efi];exact q
  ·have hj:(aA sk)[j]? = some (aA sk)[j]:=Ay q1
   have h1:=(aOy hi hf hj q3).2;have:=aDy hr hj hk (h1.symm.trans (Q9.trans hsb));subst this;exact q3
 ·intro q
  by_cases e:k=i
  ·subst e
   rw [efi] at q
   exact .inl q
  ·exact .inr ⟨k,hkl,e,q⟩
theorem bDa(hr:bO dl sk dc){i:Nat}{t Bv:Int}{f:aV}{si:List Int}(hi:(aA sk)[i]? = some si)(hf:f∈(hpM dl (aA dc) si).1)(ht:t=f.1)(hfar:t≤far)(hmo:0≤Bv){o:List Int}(ho:∀ k s,(aA sk)[k]? = some s→mT dl (aA dc) o s=(chG (aG dl (aA sk) (aA dc)) i t Bv f k).1):∀ n,n≤(aA sk).length →
  ((aOz dl (aA dc) (aA sk) o t n:Nat):Int)=((dI (aG dl (aA sk) (aA dc)) i t n).1:Int)+(Bv-(gU (aG dl (aA sk) (aA dc)) i t Bv f.2.2 n).2)∧0≤(gU (aG dl (aA sk) (aA dc)) i t Bv f.2.2 n).2 ∧
  Bv-(gU (aG dl (aA sk) (aA dc)) i t Bv f.2.2 n).2≤((dI (aG dl (aA sk) (aA dc)) i t n).2:Int)-((dI (aG dl (aA sk) (aA dc)) i t n).1:Int) ∧
  (0<(gU (aG dl (aA sk) (aA dc)) i t Bv f.2.2 n).2→Bv-(gU (aG dl (aA sk) (aA dc)) i t Bv f.2.2 n).2=((dI (aG dl (aA sk) (aA dc)) i t n).2:Int)-((dI (aG dl (aA sk) (aA dc)) i t n).1:Int))
 | 0,_=>by
  show ((0:Nat):Int)=((0:Nat):Int)+(Bv-Bv)∧0≤Bv∧Bv-Bv≤((0:Nat):Int)-((0:Nat):Int)∧(0<Bv→Bv-Bv=((0:Nat):Int)-((0:Nat):Int));omega
 | n+1,hn=>by
  obtain ⟨Jk,Ie,R5,Oo⟩:=bDa hr hi hf ht hfar hmo ho n (by omega)
  have hs:(aA sk)[n]? = some (aA sk)[n]:=Ay (by omega)
  have hat:=jX (dl:=dl) (dc:=aA dc) hs;rw [aLn hs];have hv:=ho n _ hs
  by_cases e:n=i
  ·have e1:gU (aG dl (aA sk) (aA dc)) i t Bv f.2.2 (n+1)=gU (aG dl (aA sk) (aA dc)) i t Bv f.2.2 n:=by
    conv=>lhs;unfold gU
    rw [hat];dsimp only;rw [if_pos e]
   have e2:dI (aG dl (aA sk) (aA dc)) i t (n+1)=dI (aG dl (aA sk) (aA dc)) i t n:=by
    conv=>lhs;unfold dI
    rw [hat];dsimp only;rw [if_pos e]
   have e3:chG (aG dl (aA sk) (aA dc)) i t Bv f n=f:=by unfold chG;rw [if_pos e]
   rw [e1,e2,if_neg (by rw [hv,e3,ht];omega)]
   exact ⟨by omega,Ie,R5,Oo⟩
  ·have e1:gU (aG dl (aA sk) (aA dc)) i t Bv f.2.2 (n+1)=((gU (aG dl (aA sk) (aA dc)) i t Bv f.2.2 n).1++(gT t (jJ t (gU (aG dl (aA sk) (aA dc)) i t Bv f.2.2 n).2 (hpM dl (aA dc) (aA sk)[n])) (hpM dl (aA dc) (aA sk)[n]).1).2.2,moM t (gU (aG dl (aA sk) (aA dc)) i t Bv f.2.2 n).2 (hpM dl (aA dc) (aA sk)[n])):=by
    conv=>lhs;unfold gU
    rw [hat];dsimp only;rw [if_neg e]
   have e2:dI (aG dl (aA sk) (aA dc)) i t (n+1)=((if (hpM dl (aA dc) (aA sk)[n]).2.2<t then (dI (aG dl (aA sk) (aA dc)) i t n).1+1 else (dI (aG dl (aA sk) (aA dc)) i t n).1),(if (hpM dl (aA dc) (aA sk)[n]).2.1<t then (dI (aG dl (aA sk) (aA dc)) i t n).2+1 else (dI (aG dl (aA sk) (aA dc)) i t n).2)):=by
    conv=>lhs;unfold dI
    rw [hat];dsimp only;rw [if_neg e]
   have e3:chG (aG dl (aA sk) (aA dc)) i t Bv f n=gT t (jJ t (gU (aG dl (aA sk) (aA dc)) i t Bv f.2.2 n).2 (hpM dl (aA dc) (aA sk)[n])) (hpM dl (aA dc) (aA sk)[n]).1:=by
    unfold chG;rw [if_neg e,hat]
   have hside:=bPw hr (Bl hs) (t:=t) (mo:=(gU (aG dl (aA sk) (aA dc)) i t Bv f.2.2 n).2) hfar;have hmm:(hpM dl (aA dc) (aA sk)[n]).2.1≤(hpM dl (aA dc) (aA sk)[n]).2.2:=bCe ..;rw [← e3,← hv] at hside
   rw [e1,e2];dsimp only;revert Jk Ie R5 Oo hside hmm;generalize (gU (aG dl (aA sk) (aA dc)) i t Bv f.2.2 n).2=mo;generalize dI (aG dl (aA sk) (aA dc)) i t n=sp;generalize mT dl (aA dc) o (aA sk)[n]=v;generalize hpM dl (aA dc) (aA sk)[n]=h;generalize aOz dl (aA dc) (aA sk) o t n=cn;intro Jk Ie R5 Oo hside hmm;unfold jJ at hside
   unfold moM
   by_cases c1:h.2.2<t
   ·have hv:v<t:=by
     rw [decide_eq_true c1,Bool.true_or] at hside
     exact of_decide_eq_true hside
    rw [if_pos hv,if_pos c1,if_pos c1,if_pos (by omega)]
    exact ⟨by omega,Ie,by omega,fun q=>by have:=Oo q;omega⟩
   ·rw [decide_eq_false c1,Bool.false_or] at hside
    rw [if_neg c1,if_neg c1]
    by_cases c2:h.2.1<t
    ·rw [decide_eq_true c2,gS] at hside
     rw [if_pos c2,if_pos c2]
     by_cases c3:0<mo
     ·have hv:v<t:=by
       rw [decide_eq_true c3] at hside
       exact of_decide_eq_true hside
      have:=Oo c3;rw [if_pos hv,if_pos c3];exact ⟨by omega,by omega,by omega,fun q=>by omega⟩
     ·have hv:¬ v<t:=by
       rw [decide_eq_false c3] at hside
       exact of_decide_eq_false hside
      rw [if_neg hv,if_neg c3];exact ⟨by omega,Ie,by omega,fun q=>absurd q c3⟩
    ·have hv:¬ v<t:=by
      rw [decide_eq_false c2,Bool.false_and] at hside
      exact of_decide_eq_false hside
     rw [if_neg hv,if_neg c2,if_neg c2];exact ⟨by omega,Ie,R5,Oo⟩
end
end
end KV
end Go.Proofs
