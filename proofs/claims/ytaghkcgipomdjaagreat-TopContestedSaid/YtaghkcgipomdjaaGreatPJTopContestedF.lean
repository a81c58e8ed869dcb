/- Parts of the proof of JTopContested: laws of walks, contracts of functions, plain models. No condition. -/
import Derived.Test.YtaghkcgipomdjaaGreatPJTopContestedE
set_option linter.unusedVariables false
set_option linter.unusedSimpArgs false
set_option maxRecDepth 100000
namespace Go.Proofs
namespace KV
open Tryz
section
variable {pl se Ki A1:Bool}{m2 m5 m8 mx my mz r4 r7 t3 t6 t9 tt ty tz Kj Kk Hc Fo Cg Dp Hd He Lu Lv Ao Ap:Int}{be dn Aj Ae Ac:Lqq}{u l1 l2 l3 An Cl:List Int}{i k q w y k' q' w' y' base Ob Bm Jc Jd Je:Nat}

theorem fA:((0:Int) != 0)=false:=by first | decide | simp
theorem bRo{g:List Int}{Hf Am:Int}(n:Int)(l:List Int)(nx st:Int)(h:0≤nx∧nx≤1000000)(hn:0≤n∧n≤15)(e:CU.racedM n true l nx st=(g,Hf,Am)):FMM Tp 10 [.ptr 0 0,.p (aA n),.kb true] [some (eV l nx st)] (.own 1) [some (eV l Hf Am),some (.row 3 g.length (g.map aA))]:=by
 have:=CU.raced_ok n true l nx st h hn;rw [e] at this
 intro C w us hus hM k;cases hus with
 | cons _ u _ us h1 h2 =>
  cases h2 with
  | cons _ u2 _ us h3 h4 =>
   cases h4 with
   | cons _ u3 _ us h5 h6 =>
    cases h6;cases h5;exact this C w _ (.cons _ _ _ _ h1 (.cons _ _ _ _ h3 (.cons _ _ _ _ (.p _ _ (.v _)) .nil))) hM k
abbrev ptT:List Int:=[30,24,19,15,12,10]
abbrev tcC(Ae:Lqq)(r4 r7:Int)(dn:Lqq):KC.Cup:=⟨(Ae.length:Nat),r4,r7,ptT,dn⟩
abbrev tcW(Ae:Lqq)(r4 r7:Int)(dn:Lqq)(p:List Int):KC.Cup:=KC.withC (tcC Ae r4 r7 dn) [p]
abbrev tcT(Ae:Lqq)(r4 r7:Int)(dn:Lqq)(p:List Int):Lqq:=CU.tableM (tcW Ae r4 r7 dn p)
abbrev tcA(Ae:Lqq)(r4 r7:Int)(dn:Lqq):List Int:=CU.whoM (KC.canM (tcC Ae r4 r7 dn)) (tcC Ae r4 r7 dn).sk.toNat
abbrev tcB(Ae:Lqq)(r4 r7:Int)(dn:Lqq):List Int:=CU.whoM (KC.sureM (tcC Ae r4 r7 dn)) (tcC Ae r4 r7 dn).sk.toNat
abbrev tcO(Aj:Lqq):List Int:=cP 30 (aC Aj)
abbrev tcF(Ae Aj:Lqq)(u:List Int):Lqq:=eK 30 u (aC Aj) (aC Ae)
abbrev tcR(Ae Aj:Lqq):Option AO:=some (.box 26 [(pI 30),(.p (fS Ae)),(.p (fS Aj))])
abbrev tcX(Ae:Lqq)(r4 r7:Int)(x:AV):Option AO:=some (.box 34 [(pI (Ae.length:Int)),(pI r4),(pI r7),(.p (aE ptT)),x])
abbrev tcY(Ae:Lqq)(r4 r7:Int)(dn:Lqq):PV := .agg [(aA (Ae.length:Int)),(aA r4),(aA r7),(aE ptT),(aV dn)]
abbrev tcE(Ae Aj:Lqq):PV := .agg [(aA 30),(fS Ae),(fS Aj)]
abbrev tcG(c:KC.Cup):PV := .agg [(aA c.sk),(aA c.ra),(aA c.be),(aE c.pts),(aV c.done)]
abbrev tcV(Ae:Lqq)(r4 r7:Int)(dn:Lqq)(p:List Int):AV := .p (fS (tcT Ae r4 r7 dn p))
abbrev tcH(Ae Aj:Lqq)(u p:List Int):Prop:=∀ base:Nat,FV Tp 17 [.p (tcE Ae Aj),.p (fS (tcF Ae Aj u))] base (.tup [.p (aE p),.p (blP true)]) []
abbrev tcZ(Ae Aj:Lqq)(u:List Int):AO := .row 63 (tcF Ae Aj u).length ((tcF Ae Aj u).flatten.map aA)
section
variable {Ae Aj:Lqq} {u:List Int}
theorem aXj(h:cK 30 Ae Aj)(hl:Ae.length<20)(hu:u.length≤1000)(he:aTb 30 (aC Aj) u=0):FC Tp 16 [.p (tcE Ae Aj),.own 3] [(3,.row 3 u.length (u.map aA))] 4 (.tup [.own 4,.p (aA 0)]) [(3,.dead),(4,tcZ Ae Aj u)]:=FV.close (ids:=[3]) (A9:=[.p (tcE Ae Aj),.p (aE u)]) (cJp h hl u hu he) (by kernel_rfl)
theorem aXk{p:List Int}(h:tcH Ae Aj u p):FC Tp 17 [.p (tcE Ae Aj),.own 4] [(4,tcZ Ae Aj u)] 5 (.tup [.p (aE p),.p (blP true)]) [(4,.dead)]:=FV.close (ids:=[4]) (A9:=[.p (tcE Ae Aj),.p (fS (tcF Ae Aj u))]) (h _) (by kernel_rfl)
theorem aXl{r4 r7:Int}{dn:Lqq}(h:KC.Valid (tcC Ae r4 r7 dn))(h1:KC.Valid (tcW Ae r4 r7 dn u)):FC Tp 18 [.p (tcY Ae r4 r7 dn),.own 5] [(5,.row 31 1 [aE u])] 6 (.tup [.p (tcG (tcW Ae r4 r7 dn u)),.p (aA 0)]) [(5,.dead)]:=FV.close (ids:=[5]) (A9:=[.p (tcY Ae r4 r7 dn),.p (.sl 1 [aE u])]) (CU.after_ok (tcC Ae r4 r7 dn) [u] h (by simp) h1) (by kernel_rfl)
end
noncomputable abbrev bRp:Code:=pS (cd Tryz.f3) 6 [0,1,0,0]
noncomputable abbrev aMv:Code:=pS (cd Tryz.f3) 14 [0,1,0,0]
noncomputable abbrev aMw:Code:=pS (cd Tryz.f3) 14 [0,1,0,0,1,1,0,0,1,1,0,1,0,0]
noncomputable abbrev aMx:Code:=pS (cd Tryz.f3) 14 [0,1,0,0,1,1,0,0,1,1,1,1,1,1,1,1,1,0,1,0,0]
noncomputable abbrev aIa:Code:=pS (cd Tryz.f3) 14 [0,1,0,0,1,1,0,0,1,1,1,1,1,1,1,1,1,1,0,1,0,0]
def oM(l2 l3:List Int)(Ae Aj:Lqq)(r4 r7:Int)(i dnn:Nat)(dnc:List PV)(mx tt:Int):St:=⟨fr 262 [(6,(.kb false)),(7,(.ptr 0 0)),(8,(.ptr 1 0)),(9,(.ptr 2 0)),(10,(pI (Ae.length:Int))),(11,(.ptr 3 0)),(64,(pI (r4-1))),(65,(pI (i:Int)))],[tcR Ae Aj,some (.box 96 [(.p (.sl l2.length (l2.map bW))),(pI mx),(.p (.v (.int .u32 tt)))]),some (.box 96 [(.p (.sl l3.length (l3.map bW))),(pI 0),(.p (.v (.int .u32 17)))]),tcX Ae r4 r7 (.own 4),some (.row 31 dnn dnc)]⟩
def gD(l3:List Int)(Ae Aj:Lqq)(r4 r7:Int)(Ac:Lqq)(y:Nat)(se:Bool)(be:Lqq)(my ty:Int):St:=⟨fr 262 [(7,(.ptr 0 0)),(9,(.ptr 1 0)),(10,(pI (Ae.length:Int))),(11,(.ptr 2 0)),(12,(.p (aE (tcA Ae r4 r7 Ac)))),(14,(.p (aE (tcB Ae r4 r7 Ac)))),(16,(.p (aE (tcO Aj)))),(18,(pB se)),(21,(.p (fS be))),(115,(pI (y:Int)))],[tcR Ae Aj,some (.box 96 [(.p (.sl l3.length (l3.map bW))),(pI my),(.p (.v (.int .u32 ty)))]),tcX Ae r4 r7 (.p (aV Ac))]⟩
section
variable(h0:0≤(0:Int)∧(0:Int)≤900)(h1:1≤(6:Int)∧(6:Int)≤30)(h2:0≤(14:Int)∧(14:Int)≤40)(h3:bIq 6 14 l1 0 (17:Int)=(Ae,Aj,m2,t3))(h4:0≤(0:Int)∧(0:Int)≤1000000000)(h5:(-1000000≤1∧(1:Int)≤1000000) ∧ -1000000≤5∧(5:Int)≤1000000)(h6:lD 1 5 l2 0 (17:Int)=(r4,m5,t6))(h7:0≤m5∧m5≤1000000000)(h8:(-1000000≤1∧(1:Int)≤1000000) ∧ -1000000≤r4∧r4≤1000000)(h9:lD 1 r4 l2 m5 t6=(r7,m8,t9))(A0:inR (r4-1))(Df:aF Tp 0 bRp (oM l2 l3 Ae Aj r4 r7 0 0 [] m8 t9) (.exit 0) (oM l2 l3 Ae Aj r4 r7 Ob Ac.length (Ac.map aE) Lu Lv))(Bh:KC.Valid (tcC Ae r4 r7 Ac))(Cb:cK 30 Ae Aj)
include h0 h1 h2 h3 h4 h5 h6 h7 h8 h9 A0 Df Bh Cb
theorem cEs{Oc:List Int}{Ry:Nat}{Od:Bool}{Oe:Lqq}{Of Og:Int}(De:((tcO Aj).length:Int)≤8)(G7:Ae.length<20)(Fh:cDg 30 Ae Aj 1 Oc)(Ip:Oc.length≤1000)(Oh:aF Tp 0 aMv (gD l3 Ae Aj r4 r7 Ac 0 (((tR (eK 30 [] (aC Aj) (aC Ae)) Oc).length:Int) == (Ae.length:Int)) ([]:Lqq) 0 17) (.exit 2) (gD l3 Ae Aj r4 r7 Ac Ry Od Oe Of Og)):FV Tp 3 [(.p (.sl l1.length (l1.map bW))),(.p (.sl l2.length (l2.map bW))),(.p (.sl l3.length (l3.map bW)))] base (pB true) []:=by
 have k1:=mq [] 0 (ofO l1);have k2:=mq [0] 1 (bRt 6 14 l1 0 17 h0 h1 h2 h3);have k3:=mq [] 2 (ofO l2);have k4:=mq [] 3 (ofO l3);have k5:=mq [2] 4 (nG 1 5 l2 0 17 h4 h5 h6);have k6:=mq [2] 6 (nG 1 r4 l2 m5 t6 h7 h8 h9);have k7:=fk 4 (CU.canE_ok (tcC Ae r4 r7 Ac) Bh) rfl;have k8:=fk 4 (CU.sureE_ok (tcC Ae r4 r7 Ac) Bh) rfl;have k9:=fk 4 (bUg Cb) rfl;have T4:=fk 4 (cLe Cb G7 Fh Ip) rfl;exact FV.fi func3 ([k1.o,k2.o,k3.o,k4.o,k5.o,k6.o,.g 2 ⟨[],[0,1,2,3,5],[4],[]⟩,Df.k 1 (gN ax di [(104004,31)]),.g 1 ⟨[],[0,1,2,3],[4],[]⟩,k7.o,k8.o,k9.o]++rF 7++[bT,T4.o,bF,Oh.k 7 (gN ak [0,2,3] [(21,99999)]),.c (pB true) []]) (gc (fk 3 bRr rfl) (gc Oh.code (gc fA (gc T4 (gc (aCh De) (Et fA (gc k9 (gc k8 (gc k7 (gc Df.code (gc A0 (gc k6 (gc k5 (gc k4 (gc k3 (gc k2 (gc k1 gn)))))))))))))))))
theorem cEt{Rz:Nat}{Oi:Bool}{Oj:Lqq}{Ol Om:Int}(De:(8:Int)<((tcO Aj).length:Int))(Hg:aF Tp 0 aMv (gD l3 Ae Aj r4 r7 Ac 0 false ([]:Lqq) 0 17) (.exit 2) (gD l3 Ae Aj r4 r7 Ac Rz Oi Oj Ol Om)):FV Tp 3 [(.p (.sl l1.length (l1.map bW))),(.p (.sl l2.length (l2.map bW))),(.p (.sl l3.length (l3.map bW)))] base (pB true) []:=have k1:=mq [] 0 (ofO l1);have k2:=mq [0] 1 (bRt 6 14 l1 0 17 h0 h1 h2 h3);have k3:=mq [] 2 (ofO l2);have k4:=mq [] 3 (ofO l3);have k5:=mq [2] 4 (nG 1 5 l2 0 17 h4 h5 h6);have k6:=mq [2] 6 (nG 1 r4 l2 m5 t6 h7 h8 h9);have k7:=fk 4 (CU.canE_ok (tcC Ae r4 r7 Ac) Bh) rfl;have k8:=fk 4 (CU.sureE_ok (tcC Ae r4 r7 Ac) Bh) rfl;have k9:=fk 4 (bUg Cb) rfl;FV.fi func3 ([k1.o,k2.o,k3.o,k4.o,k5.o,k6.o,.g 2 ⟨[],[0,1,2,3,5],[4],[]⟩,Df.k 1 (gN ax di [(104004,31)]),.g 1 ⟨[],[0,1,2,3],[4],[]⟩,k7.o,k8.o,k9.o]++rF 8++[Hg.k 6 (gN ak [0,2,3] [(21,99999),(18,0)]),.c (pB true) []]) (gc (fk 3 bRr rfl) (gc Hg.code (gc (kT De) (Et fA (gc k9 (gc k8 (gc k7 (gc Df.code (gc A0 (gc k6 (gc k5 (gc k4 (gc k3 (gc k2 (gc k1 gn)))))))))))))))
end
theorem bHu{Mq:List Int}{Eh F9:Int}{i':Nat}{Qu:Lqq}(h0:(i:Int)<(r4-1))(h1:0≤mx∧mx≤1000000)(h2:0≤(Ae.length:Int)∧(Ae.length:Int)≤15)(h3:CU.racedM (Ae.length:Int) true l2 mx tt=(Mq,Eh,F9))(h4:[(aE Mq)].length=1*1∧dn.length+1≤1000000)(h5:dv i)(Ak:i'=(i+1))(On:Qu.length=(dn.length+1))(Oo:Qu.map aE=((dn.map aE)++[(aE Mq)])):aB Tp 0 bRp (oM l2 l3 Ae Aj r4 r7 i dn.length (dn.map aE) mx tt) .normal (oM l2 l3 Ae Aj r4 r7 i' Qu.length (Qu.map aE) Eh F9):=by
 subst Ak;have k1:=mq [1] 5 (bRo (Ae.length:Int) l2 mx tt h1 h2 h3);rw [On,Oo];exact aB.fi (gI ax [0,1,2,3,14]) [bT,k1.o] (gc h5 (gc h4 (gc k1 (g0 h0))))
theorem bHv(h0:(r4-1)≤(i:Int)):aB Tp 0 bRp (oM l2 l3 Ae Aj r4 r7 i dn.length (dn.map aE) mx tt) (.exit 0) (oM l2 l3 Ae Aj r4 r7 i dn.length (dn.map aE) mx tt):=aB.fi (gI ax [0,1,2,3,4]) [bF] (gc (aQ h0) gn)
def gF(l3:List Int)(Ae Aj:Lqq)(r4 r7:Int)(Ac:Lqq)(y:Nat)(se:Bool)(be:Lqq)(k un:Nat)(uc:List PV)(mz tz:Int):St:=⟨fr 262 [(7,(.ptr 0 0)),(9,(.ptr 1 0)),(10,(pI (Ae.length:Int))),(11,(.ptr 2 0)),(12,(.p (aE (tcA Ae r4 r7 Ac)))),(14,(.p (aE (tcB Ae r4 r7 Ac)))),(16,(.p (aE (tcO Aj)))),(18,(pB se)),(21,(.p (fS be))),(22,(pI (y:Int))),(23,(.own 3)),(115,(pI (y:Int))),(116,(pB (decide ((y:Int)<5)))),(117,(pI (y:Int))),(118,(.p (aE (tcO Aj)))),(119,(pI ((tcO Aj).length:Int))),(120,(pI (k:Int)))],[tcR Ae Aj,some (.box 96 [(.p (.sl l3.length (l3.map bW))),(pI mz),(.p (.v (.int .u32 tz)))]),tcX Ae r4 r7 (.p (aV Ac)),some (.row 3 un uc)]⟩
def gG(l3:List Int)(Ae Aj:Lqq)(r4 r7:Int)(Ac:Lqq)(y:Nat)(se:Bool)(be:Lqq)(Ao Ap:Int)(An:List Int)(q:Nat)(pl:Bool):St:=⟨fr 262 [(7,(.ptr 0 0)),(9,(.ptr 1 0)),(10,(pI (Ae.length:Int))),(11,(.ptr 2 0)),(12,(.p (aE (tcA Ae r4 r7 Ac)))),(14,(.p (aE (tcB Ae r4 r7 Ac)))),(16,(.p (aE (tcO Aj)))),(18,(pB se)),(21,(.p (fS be))),(22,(pI (y:Int))),(28,(.p (aE An))),(32,(tcV Ae r4 r7 Ac An)),(34,(pB pl)),(115,(pI (y:Int))),(179,(.p (aE An))),(180,(pI (An.length:Int))),(181,(pI (q:Int)))],[tcR Ae Aj,some (.box 96 [(.p (.sl l3.length (l3.map bW))),(pI Ao),(.p (.v (.int .u32 Ap)))]),tcX Ae r4 r7 (.p (aV Ac))]⟩
def fH(l3:List Int)(Ae Aj:Lqq)(r4 r7:Int)(Ac:Lqq)(y:Nat)(se:Bool)(be:Lqq)(Ao Ap:Int)(An:List Int)(A1:Bool)(w:Nat):St:=⟨fr 262 [(7,(.ptr 0 0)),(9,(.ptr 1 0)),(10,(pI (Ae.length:Int))),(11,(.ptr 2 0)),(12,(.p (aE (tcA Ae r4 r7 Ac)))),(14,(.p (aE (tcB Ae r4 r7 Ac)))),(16,(.p (aE (tcO Aj)))),(18,(pB se)),(21,(.p (fS be))),(22,(pI (y:Int))),(28,(.p (aE An))),(32,(tcV Ae r4 r7 Ac An)),(34,(pB A1)),(115,(pI (y:Int))),(199,(tcV Ae r4 r7 Ac An)),(200,(pI ((tcT Ae r4 r7 Ac An).length:Int))),(201,(pI (w:Int)))],[tcR Ae Aj,some (.box 96 [(.p (.sl l3.length (l3.map bW))),(pI Ao),(.p (.v (.int .u32 Ap)))]),tcX Ae r4 r7 (.p (aV Ac))]⟩
section
variable(h0:(y:Int)<5)(hl1:aF Tp 0 aMw (gF l3 Ae Aj r4 r7 Ac y se be 0 0 [] my ty) (.exit 4) (gF l3 Ae Aj r4 r7 Ac y se be Jc Cl.length (Cl.map aA) Ao Ap))(h2:cK 30 Ae Aj)(h3:Ae.length<20)(h4:Cl.length≤1000)(h5:aTb 30 (aC Aj) Cl=0)(h6:tcH Ae Aj Cl An)(h7:KC.Valid (tcC Ae r4 r7 Ac))(h8:KC.Valid (tcW Ae r4 r7 Ac An))(h9:((tcT Ae r4 r7 Ac An).length:Int)=(Ae.length:Int))(E4:aF Tp 0 aMx (gG l3 Ae Aj r4 r7 Ac y se be Ao Ap An 0 true) (.exit 6) (gG l3 Ae Aj r4 r7 Ac y se be Ao Ap An Jd A1))(Df:aF Tp 0 aIa (fH l3 Ae Aj r4 r7 Ac y se be Ao Ap An A1 0) (.exit 8) (fH l3 Ae Aj r4 r7 Ac y se be Ao Ap An A1 Je))
include h0 hl1 h2 h3 h4 h5 h6 h7 h8 h9 E4 Df
theorem bHw(Bh:(0:Int)<(y:Int))(Cb:se=true)(De:(tcT Ae r4 r7 Ac An).length≤100000)(G7:uni 4 (tcT Ae r4 r7 Ac An))(Fh:uni 4 be)(Ip:(decide ((tcT Ae r4 r7 Ac An)=be))=true)(Mr:dv y)(Oq:y'=(y+1)):aB Tp 0 aMv (gD l3 Ae Aj r4 r7 Ac y se be my ty) .normal (gD l3 Ae Aj r4 r7 Ac y' se (tcT Ae r4 r7 Ac An) Ao Ap):=by
 subst Oq;have k1:=aXj h2 h3 h4 h5;have k2:=aXk h6;have k3:=aXl h7 h8;have k4:=fk 7 (CU.table_ok (tcW Ae r4 r7 Ac An) h8) rfl;have k5:=fk 3 (CU.eql_ok (tcT Ae r4 r7 Ac An) be De G7 Fh) rfl;exact aB.fi (gI ak [0,1,2]) ([bT,hl1.k 10 (gN aj du [(23,3)]),k1.o,k2.o,k3.o,k4.o]++rF 15++[E4.k 6 (gN ah [0,1,2] [(34,0)]),Df.k 4 (gI ai [0,1,2])]++rT 5++[k5.o,bT,bT,bF]) (gc Mr (gc (aL Ip) (Az Cb (gc k5 (Ay Cb (Az (bG Bh) (gc Df.code (gc E4.code (gc (fW h9) (gf (gf (gf (gf (gf (Ia fA (gc fA (gc k4 (gc k3 (gc k2 (gc k1 (gc hl1.code (g0 h0))))))))))))))))))))))
theorem bHx(Bh:(0:Int)<(y:Int))(Cb:se=false)(De:dv y)(Oq:y'=(y+1)):aB Tp 0 aMv (gD l3 Ae Aj r4 r7 Ac y se be my ty) .normal (gD l3 Ae Aj r4 r7 Ac y' se (tcT Ae r4 r7 Ac An) Ao Ap):=by
 subst Oq;have k1:=aXj h2 h3 h4 h5;have k2:=aXk h6;have k3:=aXl h7 h8;have k4:=fk 7 (CU.table_ok (tcW Ae r4 r7 Ac An) h8) rfl;exact aB.fi (gI ak [0,1,2]) ([bT,hl1.k 10 (gN aj du [(23,3)]),k1.o,k2.o,k3.o,k4.o]++rF 15++[E4.k 6 (gN ah [0,1,2] [(34,0)]),Df.k 4 (gI ai [0,1,2]),bT,bT]++rF 5) (gc De (Cf Cb (Az (bG Bh) (gc Df.code (gc E4.code (gc (fW h9) (gf (gf (gf (gf (gf (Ia fA (gc fA (gc k4 (gc k3 (gc k2 (gc k1 (gc hl1.code (g0 h0)))))))))))))))))))
theorem bHy(Bh:(y:Int)≤0)(Cb:dv y)(Oq:y'=(y+1)):aB Tp 0 aMv (gD l3 Ae Aj r4 r7 Ac y se be my ty) .normal (gD l3 Ae Aj r4 r7 Ac y' se (tcT Ae r4 r7 Ac An) Ao Ap):=by
 subst Oq;have k1:=aXj h2 h3 h4 h5;have k2:=aXk h6;have k3:=aXl h7 h8;have k4:=fk 7 (CU.table_ok (tcW Ae r4 r7 Ac An) h8) rfl;exact aB.fi (gI ak [0,1,2]) ([bT,hl1.k 10 (gN aj du [(23,3)]),k1.o,k2.o,k3.o,k4.o]++rF 15++[E4.k 6 (gN ah [0,1,2] [(34,0)]),Df.k 4 (gI ai [0,1,2]),bF,bF]) (gc Cb (Az (aQ Bh) (gc Df.code (gc E4.code (gc (fW h9) (gf (gf (gf (gf (gf (Ia fA (gc fA (gc k4 (gc k3 (gc k2 (gc k1 (gc hl1.code (g0 h0))))))))))))))))))
end
theorem bHz(h0:(5:Int)≤(y:Int)):aB Tp 0 aMv (gD l3 Ae Aj r4 r7 Ac y se be my ty) (.exit 2) (gD l3 Ae Aj r4 r7 Ac y se be my ty):=aB.fi (gI ak [0,1,2]) [bF] (gc (aQ h0) gn)
section
variable(h0:(k:Int)<((tcO Aj).length:Int))(h1:(tcO Aj)[k]? = some Hc)(h2:(0:Int)<(y:Int))(h3:0≤mz∧mz≤1000000000)(h4:aG 2 l3 mz tz=(Ki,Kj,Kk))
include h0 h1 h2 h3 h4
theorem bIa{u':List Int}(h5:Ki=true)(h6:[(aA Hc)].length=1*1∧u.length+1≤1000000)(h7:dv k)(Ot:k'=(k+1))(R3:u'.length=(u.length+1))(R4:u'.map aA=((u.map aA)++[(aA Hc)])):aB Tp 0 aMw (gF l3 Ae Aj r4 r7 Ac y se be k u.length (u.map aA) mz tz) .normal (gF l3 Ae Aj r4 r7 Ac y se be k' u'.length (u'.map aA) Kj Kk):=by
 subst Ot;have k1:=mq [1] 4 (uH 2 l3 mz tz h3 h4);rw [R3,R4];exact aB.fi (gI aj [0,1,2,5]) [bT,.x (aA Hc),bT,bT,k1.o,bT,bT] (gc h7 (gc h6 (gc h5 (gc (bG h2) (gc k1 (Az (bG h2) (gc (atm aA h1) (gc (ixn aA h1) (g0 h0)))))))))
theorem bIb(h5:Ki=false)(h6:dv k)(Ot:k'=(k+1)):aB Tp 0 aMw (gF l3 Ae Aj r4 r7 Ac y se be k u.length (u.map aA) mz tz) .normal (gF l3 Ae Aj r4 r7 Ac y se be k' u.length (u.map aA) Kj Kk):=by
 subst Ot;have k1:=mq [1] 4 (uH 2 l3 mz tz h3 h4);exact aB.fi (gI aj du) [bT,.x (aA Hc),bT,bT,k1.o,bT,bF] (gc h6 (gc h5 (gc (bG h2) (gc k1 (Az (bG h2) (gc (atm aA h1) (gc (ixn aA h1) (g0 h0))))))))
end
theorem bIc(h0:(k:Int)<((tcO Aj).length:Int))(h1:(tcO Aj)[k]? = some Hc)(h2:(y:Int)≤0)(h3:dv k)(Ot:k'=(k+1)):aB Tp 0 aMw (gF l3 Ae Aj r4 r7 Ac y se be k u.length (u.map aA) mz tz) .normal (gF l3 Ae Aj r4 r7 Ac y se be k' u.length (u.map aA) mz tz):=by
 subst Ot;exact aB.fi (gI aj du) [bT,.x (aA Hc),bF,bF,bF] (gc h3 (Ay (aQ h2) (gc (atm aA h1) (gc (ixn aA h1) (g0 h0)))))
theorem bId(h0:((tcO Aj).length:Int)≤(k:Int)):aB Tp 0 aMw (gF l3 Ae Aj r4 r7 Ac y se be k u.length (u.map aA) mz tz) (.exit 4) (gF l3 Ae Aj r4 r7 Ac y se be k u.length (u.map aA) mz tz):=aB.fi (gI aj du) [bF] (gc (aQ h0) gn)
section
variable(h0:(q:Int)<(An.length:Int))(h1:An[q]? = some Fo)
include h0 h1
theorem bIe(h2:pl=true)(h3:Fo=0)(h4:dv q)(Ou:q'=(q+1)):aB Tp 0 aMx (gG l3 Ae Aj r4 r7 Ac y se be Ao Ap An q pl) .normal (gG l3 Ae Aj r4 r7 Ac y se be Ao Ap An q' true):=by
 subst Ou;exact aB.fi (gN ah [0,1,2] [(34,0)]) ([bT,.x (aA Fo)]++rT 11) (gc h4 (gc h2 (gc (cT h3) (gc h2 (Cf (cT h3) (Ay h2 (gc (atm aA h1) (gc (ixn aA h1) (g0 h0)))))))))
theorem bIf{E5:Bool}(h2:pl=true)(h3:Fo≠0)(h4:An.length≤1000)(h5:dv q)(Ou:q'=(q+1))(D4:E5=((fN (fun x=>decide (Fo=x)) An) == (q:Int))):aB Tp 0 aMx (gG l3 Ae Aj r4 r7 Ac y se be Ao Ap An q pl) .normal (gG l3 Ae Aj r4 r7 Ac y se be Ao Ap An q' E5):=by
 subst Ou D4;have k1:=fk 3 (aXw An Fo h4) rfl;exact aB.fi (gI ah [0,1,2]) [bT,.x (aA Fo),bT,bT,bT,bF,bF,bF,k1.o,bF,bF,bT,bF,bT] (gc h5 (gc h2 (gc (bE h3) (gc h2 (Az (bE h3) (gc k1 (Ay (bE h3) (Ay h2 (gc (atm aA h1) (gc (ixn aA h1) (g0 h0)))))))))))
theorem bIg(h2:pl=false)(h3:dv q)(Ou:q'=(q+1)):aB Tp 0 aMx (gG l3 Ae Aj r4 r7 Ac y se be Ao Ap An q pl) .normal (gG l3 Ae Aj r4 r7 Ac y se be Ao Ap An q' false):=by
 subst Ou;exact aB.fi (gN ah [0,1,2] [(34,0)]) ([bT,.x (aA Fo)]++rF 5) (gc h3 (Cf h2 (gc (atm aA h1) (gc (ixn aA h1) (g0 h0)))))
end
theorem bIh(h0:(An.length:Int)≤(q:Int)):aB Tp 0 aMx (gG l3 Ae Aj r4 r7 Ac y se be Ao Ap An q pl) (.exit 6) (gG l3 Ae Aj r4 r7 Ac y se be Ao Ap An q pl):=aB.fi (gI ah [0,1,2]) [bF] (gc (aQ h0) gn)
section
variable(h0:(w:Int)<((tcT Ae r4 r7 Ac An).length:Int))(h1:(tcT Ae r4 r7 Ac An)[w]? = some [Cg,Dp,Hd,He])(h2:uni 4 (tcT Ae r4 r7 Ac An))(h3:Cg=(Bm:Int))(h4:CU.lastE (tcC Ae r4 r7 Ac) (Bm:Int)=0)
include h0 h1 h2 h3 h4
theorem bIi(h5:Dp=1)(h6:(tcA Ae r4 r7 Ac).length≤1000)(h7:((tcA Ae r4 r7 Ac).contains Cg)=true)(h8:Dp≤1)(h9:A1=true)(A0:Dp≤((CU.worstM (tcC Ae r4 r7 Ac) Bm).1))(Bu:dv w)(Ms:w'=(w+1)):aB Tp 0 aIa (fH l3 Ae Aj r4 r7 Ac y se be Ao Ap An A1 w) .normal (fH l3 Ae Aj r4 r7 Ac y se be Ao Ap An A1 w'):=by
 subst Ms;have k1:=fk 4 (rA (tcA Ae r4 r7 Ac) Cg h6) rfl;exact aB.fi (gI ai [0,1,2]) ([bT,.x (.agg [(aA Cg),(aA Dp),(aA Hd),(aA He)]),.c (.tup [(pI ((CU.worstM (tcC Ae r4 r7 Ac) Bm).1)),(.p (aE ((CU.worstM (tcC Ae r4 r7 Ac) Bm).2.2))),(pI 0)]) [],bF,bF,bF,bF,bT,bT,bT,bT,k1.o,bT,bF,bT]++rF 12++rT 5++[bF]) (gc Bu (gc (aQ A0) (Cf h9 (gc (aL h7) (gc (aQ h8) (gc (aL h7) (A4 (aQ h8) (A4 (aL h7) (gc fA (gc (cT h5) (gc fA (gc (cT h5) (gc k1 (A4 (cT h5) (A4 fA (gt (FC Tp 21 [(.p (tcY Ae r4 r7 Ac)),(pI Cg)] [] 4 (.tup [(pI ((CU.worstM (tcC Ae r4 r7 Ac) Bm).1)),(.p (aE ((CU.worstM (tcC Ae r4 r7 Ac) Bm).2.2))),(pI 0)]) []) (FV.fc (by rw [h3];exact CU.worst_ok (tcC Ae r4 r7 Ac) Bm h4) rfl) (gfl h2 h1 (g0 h0))))))))))))))))))
theorem bIj(h5:Dp=1)(h6:(tcA Ae r4 r7 Ac).length≤1000)(h7:((tcA Ae r4 r7 Ac).contains Cg)=true)(h8:Dp≤1)(h9:A1=false)(A0:dv w)(Ms:w'=(w+1)):aB Tp 0 aIa (fH l3 Ae Aj r4 r7 Ac y se be Ao Ap An A1 w) .normal (fH l3 Ae Aj r4 r7 Ac y se be Ao Ap An A1 w'):=by
 subst Ms;have k1:=fk 4 (rA (tcA Ae r4 r7 Ac) Cg h6) rfl;exact aB.fi (gI ai [0,1,2]) ([bT,.x (.agg [(aA Cg),(aA Dp),(aA Hd),(aA He)]),.c (.tup [(pI ((CU.worstM (tcC Ae r4 r7 Ac) Bm).1)),(.p (aE ((CU.worstM (tcC Ae r4 r7 Ac) Bm).2.2))),(pI 0)]) [],bF,bF,bF,bF,bT,bT,bT,bT,k1.o,bT,bF,bT]++rF 17) (gc A0 (Cf h9 (gc (aL h7) (gc (aQ h8) (gc (aL h7) (A4 (aQ h8) (A4 (aL h7) (gc fA (gc (cT h5) (gc fA (gc (cT h5) (gc k1 (A4 (cT h5) (A4 fA (gt (FC Tp 21 [(.p (tcY Ae r4 r7 Ac)),(pI Cg)] [] 4 (.tup [(pI ((CU.worstM (tcC Ae r4 r7 Ac) Bm).1)),(.p (aE ((CU.worstM (tcC Ae r4 r7 Ac) Bm).2.2))),(pI 0)]) []) (FV.fc (by rw [h3];exact CU.worst_ok (tcC Ae r4 r7 Ac) Bm h4) rfl) (gfl h2 h1 (g0 h0)))))))))))))))))
theorem aXm(h5:Dp≠1)(h6:(1:Int)<Dp)(h7:(tcB Ae r4 r7 Ac).length≤1000)(h8:((tcB Ae r4 r7 Ac).contains Cg)=false)(h9:A1=true)(A0:Dp≤((CU.worstM (tcC Ae r4 r7 Ac) Bm).1))(Bu:dv w)(Ms:w'=(w+1)):aB Tp 0 aIa (fH l3 Ae Aj r4 r7 Ac y se be Ao Ap An A1 w) .normal (fH l3 Ae Aj r4 r7 Ac y se be Ao Ap An A1 w'):=by
 subst Ms;have k1:=fk 4 (rA (tcB Ae r4 r7 Ac) Cg h7) rfl;exact aB.fi (gI ai [0,1,2]) ([bT,.x (.agg [(aA Cg),(aA Dp),(aA Hd),(aA He)]),.c (.tup [(pI ((CU.worstM (tcC Ae r4 r7 Ac) Bm).1)),(.p (aE ((CU.worstM (tcC Ae r4 r7 Ac) Bm).2.2))),(pI 0)]) []]++rF 12++[bT,bT,bT,bT,k1.o,bT,bF,bF,bT,bT,bT,bT,bF,bT,bF,bF]) (gc Bu (gc (aQ A0) (gc h8 (gc h9 (gc h8 (A4 h9 (Az h8 (gc (bG h6) (gc k1 (A4 (bG h6) (gc fA (gc (bE h5) (gc fA (Cf (bE h5) (A4 fA (gt (FC Tp 21 [(.p (tcY Ae r4 r7 Ac)),(pI Cg)] [] 4 (.tup [(pI ((CU.worstM (tcC Ae r4 r7 Ac) Bm).1)),(.p (aE ((CU.worstM (tcC Ae r4 r7 Ac) Bm).2.2))),(pI 0)]) []) (FV.fc (by rw [h3];exact CU.worst_ok (tcC Ae r4 r7 Ac) Bm h4) rfl) (gfl h2 h1 (g0 h0))))))))))))))))))
theorem aXn(h5:Dp≠1)(h6:(1:Int)<Dp)(h7:(tcB Ae r4 r7 Ac).length≤1000)(h8:((tcB Ae r4 r7 Ac).contains Cg)=false)(h9:A1=false)(A0:dv w)(Ms:w'=(w+1)):aB Tp 0 aIa (fH l3 Ae Aj r4 r7 Ac y se be Ao Ap An A1 w) .normal (fH l3 Ae Aj r4 r7 Ac y se be Ao Ap An A1 w'):=by
 subst Ms;have k1:=fk 4 (rA (tcB Ae r4 r7 Ac) Cg h7) rfl;exact aB.fi (gI ai [0,1,2]) ([bT,.x (.agg [(aA Cg),(aA Dp),(aA Hd),(aA He)]),.c (.tup [(pI ((CU.worstM (tcC Ae r4 r7 Ac) Bm).1)),(.p (aE ((CU.worstM (tcC Ae r4 r7 Ac) Bm).2.2))),(pI 0)]) []]++rF 12++[bT,bT,bT,bT,k1.o,bT]++rF 9) (gc A0 (gc h8 (gc h9 (gc h8 (A4 h9 (Az h8 (gc (bG h6) (gc k1 (A4 (bG h6) (gc fA (gc (bE h5) (gc fA (Cf (bE h5) (A4 fA (gt (FC Tp 21 [(.p (tcY Ae r4 r7 Ac)),(pI Cg)] [] 4 (.tup [(pI ((CU.worstM (tcC Ae r4 r7 Ac) Bm).1)),(.p (aE ((CU.worstM (tcC Ae r4 r7 Ac) Bm).2.2))),(pI 0)]) []) (FV.fc (by rw [h3];exact CU.worst_ok (tcC Ae r4 r7 Ac) Bm h4) rfl) (gfl h2 h1 (g0 h0)))))))))))))))))
end
theorem aXo(h0:((tcT Ae r4 r7 Ac An).length:Int)≤(w:Int)):aB Tp 0 aIa (fH l3 Ae Aj r4 r7 Ac y se be Ao Ap An A1 w) (.exit 8) (fH l3 Ae Aj r4 r7 Ac y se be Ao Ap An A1 w):=aB.fi (gI ai [0,1,2]) [bF] (gc (aQ h0) gn)
end
end KV
end Go.Proofs
section
section
namespace Go.Proofs
namespace KC
theorem worth_snoc(pts:List Int)(p m:Nat):worthM pts p (m+1)=worthM pts p m+pts.getD (p-1+m) 0:=by
 unfold worthM;rw [List.take_add_one,List.sum_append,List.getElem?_drop,List.getD_eq_getElem?_getD];cases pts[p-1+m]? <;> simp
theorem falls_le{pts:List Int}(h:fallsB pts=true)(h0:∀ x∈pts,0≤x):∀ (d a:Nat),pts.getD (a+d) 0≤pts.getD a 0:=by
 have nn:∀ a,0≤pts.getD a 0:=fun a=>by
  rw [List.getD_eq_getElem?_getD];cases e:pts[a]? with
  | none=>simp
  | some x=>simpa using h0 x (List.mem_of_getElem? e)
 have hz:∀ a,pts.length≤a→pts.getD a 0=0:=fun a ha=>by rw [List.getD_eq_getElem?_getD,List.getElem?_eq_none ha];rfl
 unfold fallsB bFl at h
 rw [decide_eq_true_iff] at h
 intro d
 induction d with
 | zero=>intro a;exact Int.le_refl _
 | succ d ih =>
  intro a;refine Int.le_trans ?_ (ih a);rw [← Nat.add_assoc]
  by_cases hl:a+d+1<pts.length
  ·have:=h (a+d) (by omega)
   unfold bFn cmpI at this
   repeat' split at this
   all_goals omega
  ·rw [hz _ (by omega)];exact nn _
end KC
end Go.Proofs

end

section
namespace Go.Proofs
namespace KC
section
variable {α:Type}
end
end KC
end Go.Proofs

end

section
namespace Go.Proofs
open KC Go.RowKit
namespace KV
open Tryz
namespace CU

theorem bFq(a b:Int):decide (KC.cmpI a b<0)=decide (a<b):=by
 unfold KC.cmpI
 split
 ·rename_i h;simp [h]
 ·rename_i h
  split
  ·rename_i h2;simp;omega
  ·simp;omega
theorem bCm{l:List Int}(h:∀ x∈l,0≤x):0≤l.sum:=by
 induction l with
 | nil=>simp
 | cons x r ih =>
  have:=h x (List.mem_cons_self ..);have:=ih fun y hy=>h y (List.mem_cons_of_mem _ hy)
  rw [List.sum_cons];omega
theorem aUy{l r:List Int}(h:l.Perm r):l.sum=r.sum:=by
 induction h with
 | nil=>rfl
 | cons x _ ih=>rw [List.sum_cons,List.sum_cons,ih]
 | swap x y l=>simp only [List.sum_cons];omega
 | trans _ _ h1 h2=>rw [h1,h2]

section
variable {ns ts:List Int} {mo:Int} {qs:List Int} {N:Nat}
end

end CU
end KV
end Go.Proofs

end

section
namespace Go.Proofs
open KC Go.RowKit
namespace KC
section
variable {α:Type}
end
end KC
namespace KV
open Tryz
namespace CU

abbrev scF(c:KC.Cup)(s:Nat)(x:Int):Int:=KC.scoreAt c x.toNat s
abbrev bWf(c:KC.Cup)(s:Nat):List Int:=KC.isort (KC.ltC (KC.cntCmp c s)) (KC.idx c.done.length)
theorem cLp(n:Nat):(KC.idx n).Pairwise (· < ·):=by
 unfold KC.idx;rw [List.pairwise_map];exact List.Pairwise.imp (fun h=>by omega) List.pairwise_lt_range
theorem cDl(c:KC.Cup)(s:Nat):(bWf c s).Pairwise (fun a b => -scF c s a < -scF c s b ∨ -scF c s a = -scF c s b∧a<b):=by
 refine yM (f:=fun x => -scF c s x) (g:=fun x=>x) (fun x y => ?_) _ (cLp _)
 refine (bFq _ _).trans ?_;rw [decide_eq_decide];show scF c s y<scF c s x ↔ -scF c s x < -scF c s y;omega
theorem bPj(c:KC.Cup)(s:Nat):(bWf c s).Perm (KC.idx c.done.length):=rG _ _
theorem bPk(c:KC.Cup)(s:Nat):(KC.countedL c s).Perm ((bWf c s).take (min c.done.length c.be.toNat)):=by
 rw [aBt];exact KC.sortI_perm _
theorem aUz(c:KC.Cup)(s:Nat):KC.totalM c s=(((bWf c s).map (scF c s)).take (min c.done.length c.be.toNat)).sum:=by
 unfold KC.totalM;rw [← List.map_take];exact aUy ((bPk c s).map _)
theorem cLq{c:KC.Cup}(hV:KC.Valid c)(s:Nat)(x:Int):0≤scF c s x∧scF c s x≤1000:=KC.scoreM_bd _ _ _ hV.pts
end CU
end KV
end Go.Proofs

end

section
namespace Go.Proofs
open KC Go.RowKit
namespace KV
open Tryz
namespace CU

def pos(x:Int):Int:=if 0≤x then x else 0
theorem cLr(x:Int):0≤pos x:=by unfold pos;split <;> omega
theorem cLs(x:Int):x≤pos x:=by unfold pos;split <;> omega
abbrev ov(t:Int)(l:List Int):Int:=(l.map fun x=>pos (x-t)).sum
theorem cEe(t:Int)(l:List Int):0≤ov t l:=bCm fun x hx=>by
 obtain ⟨y,_,rfl⟩:=List.mem_map.1 hx;exact cLr _
theorem bWg{t:Int}(ht:0≤t):∀ (A:List Int) (k:Nat),(A.take k).sum≤k*t+ov t A
 | A,0=>by have:=cEe t A;simp;omega
 | [],k+1=>by
  have:0≤((k+1:Nat):Int)*t:=Int.mul_nonneg (by omega) ht
  simpa [ov] using this
 | x::r,k+1=>by
  have h:=bWg ht r k;have h2:=cLs (x-t);have e:((k+1:Nat):Int)*t=k*t+t:=by rw [Int.natCast_add,Int.add_mul];omega
  have e2:ov t (x::r)=pos (x-t)+ov t r:=by unfold ov;rw [List.map_cons,List.sum_cons]
  rw [List.take_succ_cons,List.sum_cons,e,e2];omega
theorem bCn{t:Int}:∀ {l:List Int},(∀ x∈l,x≤t)→ov t l=0
 | [],_=>rfl
 | x::r,h=>by
  have e2:ov t (x::r)=pos (x-t)+ov t r:=by unfold ov;rw [List.map_cons,List.sum_cons]
  rw [e2,bCn fun y hy=>h y (List.mem_cons_of_mem _ hy)]
  have:=h x (List.mem_cons_self ..);unfold pos;split <;> omega
theorem aPi{t:Int}:∀ {l:List Int},(∀ x∈l,t≤x)→l.sum=l.length*t+ov t l
 | [],_=>by simp [ov]
 | x::r,h=>by
  have e2:ov t (x::r)=pos (x-t)+ov t r:=by unfold ov;rw [List.map_cons,List.sum_cons]
  have e:((r.length+1:Nat):Int)*t=r.length*t+t:=by rw [Int.natCast_add,Int.add_mul];omega
  have:=h x (List.mem_cons_self ..);have h3:=aPi fun y hy=>h y (List.mem_cons_of_mem _ hy)
  have h4:pos (x-t)=x-t:=by unfold pos;rw [if_pos (by omega)]
  rw [List.sum_cons,e2,List.length_cons,e,h4];omega
theorem cLt{A:List Int}(hs:A.Pairwise (fun a b=>b≤a))(h0:∀ x∈A,0≤x)(k:Nat):∃ t:Int,0≤t∧(A.take k).sum=k*t+ov t A:=by
 have hov:∀ t,ov t A=ov t (A.take k)+ov t (A.drop k):=fun t=>by
  unfold ov;rw [← List.sum_append,← List.map_append,List.take_append_drop]
 rw [← List.take_append_drop k A] at hs
 have hp:=(List.pairwise_append.1 hs);cases hd:A.drop k with
 | nil =>
  refine ⟨0,by omega,?_⟩
  rw [hov,hd,Int.mul_zero,aPi (t:=0) (l:=A.take k) (fun x hx=>h0 x (List.mem_of_mem_take hx)),Int.mul_zero]
  simp [ov]
 | cons y r =>
  have hk:k<A.length:=by
   have h:(A.drop k).length=r.length+1:=by rw [hd];rfl
   rw [List.length_drop] at h;omega
  rw [hd] at hp
  have hy:y∈A:=List.mem_of_mem_drop (i:=k) (by rw [hd];exact List.mem_cons_self ..)
  refine ⟨y,h0 y hy,?_⟩;rw [hov,hd,aPi (t:=y) (l:=A.take k) (fun x hx=>hp.2.2 x hx y (List.mem_cons_self ..)),bCn (t:=y) (l:=y::r),List.length_take,Nat.min_eq_left (by omega)]
  ·omega
  ·intro x hx
   rcases List.mem_cons.1 hx with rfl | hx
   ·exact Int.le_refl _
   ·exact (List.pairwise_cons.1 hp.2.1).1 x hx
theorem aHh{A B:List Int}{k:Nat}(hs:B.Pairwise (fun a b=>b≤a))(h0:∀ x∈B,0≤x)(h:∀ t,0≤t→ov t A≤ov t B):(A.take k).sum≤(B.take k).sum:=by
 obtain ⟨t,ht,e⟩:=cLt hs h0 k;have:=bWg ht A k;have:=h t ht;omega

abbrev scR(c:KC.Cup)(s:Nat)(r:List Int):Int:=KC.scoreM c.pts r s
abbrev srtS(c:KC.Cup)(s:Nat):List Int:=(bWf c s).map (scF c s)
theorem aPj(c:KC.Cup)(s:Nat):(srtS c s).Pairwise (fun a b=>b≤a):=by
 unfold srtS;rw [List.pairwise_map];exact (cDl c s).imp fun h=>by omega
theorem aLn(c:KC.Cup)(s:Nat):(srtS c s).Perm (c.done.map (scR c s)):=by
 refine ((bPj c s).map _).trans ?_;have:(KC.idx c.done.length).map (scF c s)=c.done.map (scR c s):=by
  unfold KC.idx;rw [List.map_map];refine List.ext_getElem (by simp) fun i h1 h2 => ?_
  have hi:i<c.done.length:=by simpa using h2
  simp only [List.getElem_map,List.getElem_range,Function.comp];show KC.scoreM c.pts (c.done.getD (i:Int).toNat []) s=KC.scoreM c.pts c.done[i] s;rw [Int.toNat_natCast,List.getD_eq_getElem?_getD,List.getElem?_eq_getElem hi];rfl
 rw [this]
theorem aPk{c:KC.Cup}(hV:KC.Valid c)(s:Nat):∀ x∈srtS c s,0≤x:=fun x hx=>by
 obtain ⟨y,_,rfl⟩:=List.mem_map.1 hx;exact (cLq hV s y).1
theorem mW(c:KC.Cup)(s:Nat):KC.totalM c s=((srtS c s).take c.be.toNat).sum:=by
 rw [aUz];have hl:(srtS c s).length=c.done.length:=by rw [(aLn c s).length_eq,List.length_map]
 by_cases h:c.be.toNat≤c.done.length
 ·rw [Nat.min_eq_right h]
 ·rw [Nat.min_eq_left (by omega),List.take_of_length_le (l:=srtS c s) (by omega),List.take_of_length_le (l:=srtS c s) (by omega)]
theorem cLu(c:KC.Cup)(s:Nat)(t:Int):ov t (srtS c s)=ov t (c.done.map (scR c s)):=aUy ((aLn c s).map _)
theorem uR(c:KC.Cup)(F:List (List Int))(s:Nat)(t:Int):ov t (srtS (KC.withC c F) s)=ov t (c.done.map (scR c s))+ov t (F.map (scR c s)):=by
 rw [cLu];show ov t ((c.done++F).map (scR c s))=_;unfold ov;rw [List.map_append,List.map_append,List.sum_append]
theorem bWh{c:KC.Cup}{s:Nat}{x:List Int}(t:Int):∀ {F:List (List Int)},(∀ r∈F,scR c s r≤scR c s x)→ov t (F.map (scR c s))≤ov t ((List.replicate F.length x).map (scR c s))
 | [],_=>Int.le_refl _
 | r::F,h=>by
  have h1:=bWh (x:=x) t (F:=F) fun r hr=>h r (List.mem_cons_of_mem _ hr)
  have h2:=h r (List.mem_cons_self ..);have h3:pos (scR c s r-t)≤pos (scR c s x-t):=by unfold pos;split <;> split <;> omega
  unfold ov at h1 ⊢
  rw [List.length_cons,List.replicate_succ];simp only [List.map_cons,List.sum_cons];omega
theorem aVa{c:KC.Cup}(hV:KC.Valid c){s:Nat}(hs:(s:Int)<c.sk)(r:List Int):scR c s r≤scR c s (KC.wonRace c.sk.toNat s):=by
 have h0:∀ x∈c.pts,0≤x:=fun x hx=>(hV.pts x hx).1
 have hf:∀ m:Nat,c.pts.getD m 0≤c.pts.getD 0 0:=fun m=>by
  have:=falls_le hV.falls h0 m 0
  rwa [Nat.zero_add] at this
 have Gs:0≤c.pts.getD 0 0:=by
  rw [List.getD_eq_getElem?_getD];cases h:c.pts[0]? with
  | none=>simp
  | some z=>exact h0 z (List.mem_of_getElem? h)
 have hw:scR c s (KC.wonRace c.sk.toNat s)=c.pts.getD 0 0:=by
  have e1:(KC.wonRace c.sk.toNat s).getD s 0=1:=by
   unfold KC.wonRace;rw [List.getD_eq_getElem?_getD,List.getElem?_set,if_pos rfl,if_pos (by simp;omega)];rfl
  have e2:(KC.wonRace c.sk.toNat s).count 1=1:=by
   unfold KC.wonRace;rw [List.count_set (by simp;omega)]
   simp [List.count_replicate]
  show KC.scoreM c.pts _ s=_;unfold KC.scoreM;rw [e1,e2,if_neg (by omega)]
  unfold KC.worthM;rw [show ((1:Int).toNat-1)=0 from rfl,List.drop_zero]
  cases hpt:c.pts with
  | nil=>rfl
  | cons a l=>simp
 rw [hw];show KC.scoreM c.pts r s≤_;unfold KC.scoreM
 split
 ·exact Gs
 ·have hle:∀ l:List Int,(∀ x∈l,x≤c.pts.getD 0 0)→l.sum≤l.length*c.pts.getD 0 0:=by
   intro l hl
   induction l with
   | nil=>simp
   | cons x t ih =>
    have h1:=hl x (List.mem_cons_self ..);have h2:=ih fun y hy=>hl y (List.mem_cons_of_mem _ hy)
    rw [List.sum_cons,List.length_cons,Int.natCast_add,Int.add_mul];omega
  obtain ⟨m,hm⟩:∃ m,m=r.count (r.getD s 0):=⟨_,rfl⟩;rw [← hm];have h1:=hle ((c.pts.drop ((r.getD s 0).toNat-1)).take m) fun x hx=>by
   obtain ⟨i,hi,rfl⟩:=List.getElem_of_mem (List.mem_of_mem_drop (List.mem_of_mem_take hx));have:=hf i
   rwa [List.getD_eq_getElem?_getD,List.getElem?_eq_getElem hi] at this
  have h2:(((c.pts.drop ((r.getD s 0).toNat-1)).take m).length:Int)*c.pts.getD 0 0≤(m:Int)*c.pts.getD 0 0:=Int.mul_le_mul_of_nonneg_right (by have:=List.length_take_le m (c.pts.drop ((r.getD s 0).toNat-1));omega) Gs
  by_cases Xp:m=0
  ·subst Xp;simpa using Gs
  ·refine Int.ediv_le_of_le_mul (by omega) ?_
   unfold KC.worthM;rw [Int.mul_comm];omega
theorem bCo{c:KC.Cup}(hV:KC.Valid c){F:List (List Int)}{s:Nat}(hs:(s:Int)<c.sk)(hF:(F.length:Int)=c.ra-c.done.length):KC.totalM (KC.withC c F) s≤KC.totalM (KC.withC c (KC.wonM c s)) s:=by
 rw [mW,mW];refine aHh (aPj _ _) (aPk (KC.valid_won hV hs) s) fun t ht => ?_
 rw [uR,uR];have h:=bWh (c:=c) (s:=s) (x:=KC.wonRace c.sk.toNat s) t (F:=F) fun r _=>aVa hV hs r
 unfold KC.wonM;rw [show c.ra.toNat-c.done.length=F.length by omega]
 omega
end CU
end KV
end Go.Proofs

end

section
namespace Go.Proofs
open KC Go.RowKit
namespace KV
open Tryz
namespace CU

def aBy(p q:List Int):Prop:=∃ k,1≤k∧k≤60∧q.getD k 0<p.getD k 0∧∀ j,1≤j→j<k→p.getD j 0=q.getD j 0
def bFr(p q:List Int):Prop:=(∀ j,1≤j→j≤60→p.getD j 0=q.getD j 0)∨aBy p q
theorem aBz(p q:List Int):∀ f i:Nat,KC.lexFrom p q f i=true↔∃ k,i≤k∧k<i+f∧q.getD k 0<p.getD k 0∧∀ j,i≤j→j<k→p.getD j 0=q.getD j 0
 | 0,i=>by
  unfold KC.lexFrom;constructor
  ·intro h;cases h
  ·rintro ⟨k,h1,h2,_⟩;omega
 | f+1,i=>by
  unfold KC.lexFrom
  by_cases e:p.getD i 0=q.getD i 0
  ·rw [if_pos e,aBz p q f (i+1)]
   constructor
   ·rintro ⟨k,h1,h2,h3,h4⟩
    refine ⟨k,by omega,by omega,h3,fun j hj hk => ?_⟩
    by_cases ej:j=i
    ·rw [ej];exact e
    ·exact h4 j (by omega) hk
   ·rintro ⟨k,h1,h2,h3,h4⟩
    have:k≠i:=fun ek=>by rw [ek] at h3;omega
    exact ⟨k,by omega,by omega,h3,fun j hj hk=>h4 j (by omega) hk⟩
  ·rw [if_neg e]
   constructor
   ·intro h
    exact ⟨i,Nat.le_refl _,by omega,of_decide_eq_true h,fun j hj hk=>by omega⟩
   ·rintro ⟨k,h1,h2,h3,h4⟩
    by_cases ek:k=i
    ·rw [ek] at h3;exact decide_eq_true h3
    ·exact absurd (h4 i (Nat.le_refl _) (by omega)) e
theorem bPl{p q:List Int}:KC.lexFrom p q 60 1=true↔aBy p q:=by
 rw [aBz];constructor
 ·rintro ⟨k,h1,h2,h3,h4⟩;exact ⟨k,h1,by omega,h3,h4⟩
 ·rintro ⟨k,h1,h2,h3,h4⟩;exact ⟨k,h1,by omega,h3,h4⟩
theorem bWi{p q r:List Int}(h:bFr p q)(g:aBy q r):aBy p r:=by
 obtain ⟨k,k1,k2,k3,k4⟩:=g
 rcases h with h | ⟨i,i1,i2,i3,i4⟩
 ·exact ⟨k,k1,k2,by rw [h k k1 k2];exact k3,fun j h1 h2=>by rw [h j h1 (by omega)];exact k4 j h1 h2⟩
 ·rcases Nat.lt_trichotomy i k with e | e | e
  ·exact ⟨i,i1,i2,by rw [← k4 i i1 e];exact i3,fun j h1 h2=>by rw [i4 j h1 h2];exact k4 j h1 (by omega)⟩
  ·subst e
   exact ⟨i,i1,i2,by omega,fun j h1 h2=>by rw [i4 j h1 h2];exact k4 j h1 h2⟩
  ·exact ⟨k,k1,k2,by rw [i4 k k1 e];exact k3,fun j h1 h2=>by rw [i4 j h1 (by omega)];exact k4 j h1 h2⟩
theorem bWj{p q r:List Int}(g:aBy p q)(h:bFr q r):aBy p r:=by
 obtain ⟨k,k1,k2,k3,k4⟩:=g
 rcases h with h | ⟨i,i1,i2,i3,i4⟩
 ·exact ⟨k,k1,k2,by rw [← h k k1 k2];exact k3,fun j h1 h2=>by rw [k4 j h1 h2];exact h j h1 (by omega)⟩
 ·rcases Nat.lt_trichotomy i k with e | e | e
  ·exact ⟨i,i1,i2,by rw [k4 i i1 e];exact i3,fun j h1 h2=>by rw [k4 j h1 (by omega)];exact i4 j h1 h2⟩
  ·subst e
   exact ⟨i,i1,i2,by omega,fun j h1 h2=>by rw [k4 j h1 h2];exact i4 j h1 h2⟩
  ·exact ⟨k,k1,k2,by rw [← i4 k k1 e];exact k3,fun j h1 h2=>by rw [k4 j h1 h2];exact i4 j h1 (by omega)⟩
theorem aVb{p q:List Int}(h:∀ j,1≤j→j≤60→q.getD j 0≤p.getD j 0):bFr p q:=by
 have key:∀ n,n≤60→(∀ j,1≤j→j≤n→p.getD j 0=q.getD j 0)∨aBy p q:=by
  intro n
  induction n with
  | zero=>intro _;exact .inl fun j h1 h2=>by omega
  | succ n ih =>
   intro hn
   rcases ih (by omega) with g | g
   ·by_cases e:p.getD (n+1) 0=q.getD (n+1) 0
    ·exact .inl fun j h1 h2=>by
      by_cases ej:j=n+1
      ·rw [ej];exact e
      ·exact g j h1 (by omega)
    ·have:=h (n+1) (by omega) hn
     exact .inr ⟨n+1,by omega,hn,by omega,fun j h1 h2=>g j h1 (by omega)⟩
   ·exact .inr g
 exact key 60 (Nat.le_refl _)

structure Dom (c1 c2:KC.Cup) (x:Nat):Prop where
 tot:KC.totalM c1 x≤KC.totalM c2 x
 pl:bFr (KC.placesM c2 x) (KC.placesM c1 x)
theorem bWk{c:KC.Cup}{a b:Nat}:KC.betS c a b=true↔KC.totalM c b<KC.totalM c a∨KC.totalM c a=KC.totalM c b∧aBy (KC.placesM c a) (KC.placesM c b):=by
 unfold KC.betS KC.betterF
 split
 ·rename_i e
  rw [bPl];constructor
  ·intro h;exact .inr ⟨e,h⟩
  ·rintro (h | h)
   ·omega
   ·exact h.2
 ·rename_i e
  rw [decide_eq_true_iff];constructor
  ·intro h;exact .inl h
  ·rintro (h | h)
   ·exact h
   ·exact absurd h.1 e
theorem betS_dom{c1 c2:KC.Cup}{a b:Nat}(ha:Dom c1 c2 a)(hb:Dom c2 c1 b)(h:KC.betS c1 a b=true):KC.betS c2 a b=true:=by
 have t1:=ha.tot;have t2:=hb.tot;rw [bWk] at h ⊢
 rcases h with h | ⟨h1,h2⟩
 ·exact .inl (by omega)
 ·by_cases e:KC.totalM c2 b<KC.totalM c2 a
  ·exact .inl e
  ·exact .inr ⟨by omega,bWj (bWi ha.pl h2) hb.pl⟩

abbrev aHi(F:List (List Int))(s p:Nat):Nat:=F.countP fun r=>decide (r.getD s 0=(p:Int))
theorem bPm{c:KC.Cup}{s p:Nat}(h1:1≤p)(h2:p≤60):(KC.placesM c s).getD p 0=(aHi c.done s p:Int):=by
 unfold KC.placesM KC.placesUpTo;rw [List.getD_eq_getElem?_getD,List.getElem?_map,List.getElem?_range (by omega)]
 simp only [Option.map_some,Option.getD_some];unfold KC.oftenUpTo;rw [if_neg (by omega),List.take_length]
theorem cH{c:KC.Cup}{F:List (List Int)}{s p:Nat}(h1:1≤p)(h2:p≤60):(KC.placesM (KC.withC c F) s).getD p 0=(aHi c.done s p:Int)+aHi F s p:=by
 rw [bPm h1 h2];show ((c.done++F).countP _:Int)=_;rw [List.countP_append];exact Int.natCast_add ..
theorem aHj{n x o:Nat}(hx:x<n):(KC.wonRace n x).getD o 0=if o=x then 1 else 0:=by
 unfold KC.wonRace;rw [List.getD_eq_getElem?_getD,List.getElem?_set]
 by_cases e:x=o
 ·subst e
  rw [if_pos rfl,if_pos (by simpa using hx),if_pos rfl];rfl
 ·rw [if_neg e,if_neg (fun h=>e h.symm),List.getElem?_replicate]
  split <;> rfl
theorem bFs{n x o k p:Nat}(hx:x<n)(hp:1≤p):aHi (List.replicate k (KC.wonRace n x)) o p=if o=x∧p=1 then k else 0:=by
 unfold aHi;rw [List.countP_replicate,aHj hx]
 by_cases e:o=x
 ·rw [if_pos e]
  by_cases e2:p=1
  ·subst e2;simp [e]
  ·rw [if_neg (by simp;omega),if_neg (fun h=>e2 h.2)]
 ·rw [if_neg e,if_neg (by simp;omega),if_neg (fun h=>e h.1)]
section
variable {c:KC.Cup} {F:List (List Int)} {x:Nat}
theorem dom_won(hV:KC.Valid c)(hx:(x:Int)<c.sk)(hF:(F.length:Int)=c.ra-c.done.length):Dom (KC.withC c F) (KC.withC c (KC.wonM c x)) x:=by
 have hl:c.ra.toNat-c.done.length=F.length:=by omega
 refine ⟨bCo hV hx hF,?_⟩;have e2:∀ p,1≤p→p≤60→(KC.placesM (KC.withC c (KC.wonM c x)) x).getD p 0=(aHi c.done x p:Int)+(if p=1 then F.length else 0:Nat):=fun p h1 h2=>by
  rw [cH h1 h2];unfold KC.wonM;rw [bFs (by omega) h1,hl]
  simp
 by_cases e:aHi F x 1=F.length
 ·refine .inl fun p h1 h2 => ?_
  rw [e2 p h1 h2,cH h1 h2]
  by_cases ep:p=1
  ·subst ep;rw [if_pos rfl,e]
  ·rw [if_neg ep]
   have h3:aHi F x p=0:=by
    refine List.countP_eq_zero.2 fun r hr h => ?_
    have h4:=List.countP_eq_length.1 e r hr;have h5:=of_decide_eq_true h4;have h6:=of_decide_eq_true h;omega
   rw [h3]
 ·have hle:aHi F x 1≤F.length:=List.countP_le_length
  refine .inr ⟨1,Nat.le_refl _,by omega,?_,fun j h1 h2=>by omega⟩
  rw [e2 1 (by omega) (by omega),cH (by omega) (by omega),if_pos rfl]
  omega
theorem dom_other(hV:KC.Valid c)(Fv:KC.Valid (KC.withC c F)){o:Nat}(hx:(x:Int)<c.sk)(ho:o≠x):Dom (KC.withC c (KC.wonM c x)) (KC.withC c F) o:=by
 have hz:scR c o (KC.wonRace c.sk.toNat x)=0:=by
  show KC.scoreM c.pts _ o=0;unfold KC.scoreM;rw [if_pos (by rw [aHj (by omega),if_neg ho])]
 refine ⟨?_,aVb fun p h1 h2 => ?_⟩
 ·rw [mW,mW]
  refine aHh (aPj _ _) (aPk Fv o) fun t ht => ?_
  rw [uR,uR];have h3:=cEe t (F.map (scR c o));have h4:ov t ((KC.wonM c x).map (scR c o))=0:=by
   refine bCn fun y hy => ?_
   obtain ⟨r,hr,rfl⟩:=List.mem_map.1 hy;unfold KC.wonM at hr
   rw [List.eq_of_mem_replicate hr,hz];exact ht
  omega
 ·rw [cH h1 h2,cH h1 h2]
  unfold KC.wonM;rw [bFs (by omega) h1,if_neg (fun h=>ho h.1)]
  omega
end
end CU
end KV
end Go.Proofs

end

section
namespace Go.Proofs
open KC Go.RowKit
namespace KV
open Tryz
namespace CU

theorem aLo(c:KC.Cup)(s:Nat):KC.betS c s s=false:=by
 unfold KC.betS KC.betterF;rw [if_pos rfl];exact KC.lexFrom_same _ _ _
def bCp(c:KC.Cup)(s n:Nat):Int:=1+((List.range n).countP (fun x=>KC.betS c x s):Nat)
theorem bWl(c:KC.Cup)(s:Nat):KC.rankM c s=bCp c s c.sk.toNat:=by
 unfold KC.rankM bCp KC.oth;rw [List.countP_filter]
 congr 2
 refine List.countP_congr fun x hx => ?_
 by_cases e:x=s
 ·subst e;simp [aLo]
 ·simp [e]
def cMx(c:KC.Cup)(s:Nat):List Int:=[(s:Int),KC.rankM c s,KC.totalM c s,(KC.placesM c s).getD 1 0]
end CU
end KV
end Go.Proofs

end

section
namespace Go.Proofs
namespace KV
open Tryz
namespace CU
open KC Go.RowKit Go.Lib Go.Sort Go.Shelf
def NSh(r:List Int):Prop:=∀ p:Int,p≠0→r.count p≤1
end CU
end KV
end Go.Proofs

end

section
namespace Go.Proofs
namespace KV
open Tryz
namespace CU
open KC
theorem table_perm(c:KC.Cup):(tableM c).Perm ((List.range c.sk.toNat).map (cMx c)):=rG _ _
theorem table_len(c:KC.Cup):(tableM c).length=c.sk.toNat:=by rw [(table_perm c).length_eq];simp
theorem table_row(c:KC.Cup){i:Nat}(hi:i<(tableM c).length):∃ k,k<c.sk.toNat∧(tableM c)[i]? = some (cMx c k):=by
 have h:=(table_perm c).mem_iff.1 (List.getElem_mem hi);obtain ⟨k,hk,e⟩:=List.mem_map.1 h;exact ⟨k,List.mem_range.1 hk,by rw [List.getElem?_eq_getElem hi,e]⟩
end CU
end KV
end Go.Proofs

end

section
namespace Go.Proofs
namespace KV
open Tryz
namespace CU
open KC
def ptP(pts:List Int)(p:Int):Int:=if p=0 then 0 else pts.getD (p.toNat-1) 0
theorem aVc{pts r:List Int}(hN:NSh r){o:Nat}(ho:o<r.length):KC.scoreM pts r o=ptP pts (r.getD o 0):=by
 unfold KC.scoreM ptP
 by_cases e:r.getD o 0=0
 ·rw [if_pos e,if_pos e]
 ·have hm:r.getD o 0∈r:=by rw [List.getD_eq_getElem?_getD,List.getElem?_eq_getElem ho];exact List.getElem_mem _
  have h1:=hN _ e;have h2:=KC.count_pos' hm;have hc:r.count (r.getD o 0)=1:=by omega
  rw [if_neg e,if_neg e,hc];have hw:=KC.worth_snoc pts (r.getD o 0).toNat 0;have h0:KC.worthM pts (r.getD o 0).toNat 0=0:=by unfold KC.worthM;simp
  rw [hw,h0];simp
theorem cLv{pts:List Int}(h0:∀ x∈pts,0≤x)(p:Int):0≤ptP pts p:=by
 unfold ptP
 split
 ·omega
 ·rw [List.getD_eq_getElem?_getD]
  cases e:pts[p.toNat-1]? with
  | none=>simp
  | some x=>exact h0 x (List.mem_of_getElem? e)
def noW(p q:Int):Prop:=q=0∨0<p∧p≤q
theorem bWm{pts:List Int}(hf:KC.fallsB pts=true)(h0:∀ x∈pts,0≤x){p q:Int}(h:noW p q):ptP pts q≤ptP pts p:=by
 rcases h with rfl | ⟨h1,h2⟩
 ·unfold ptP;rw [if_pos rfl];exact cLv h0 p
 ·unfold ptP
  rw [if_neg (by omega),if_neg (by omega)]
  have:=KC.falls_le hf h0 (q.toNat-1-(p.toNat-1)) (p.toNat-1)
  rwa [show p.toNat-1+(q.toNat-1-(p.toNat-1))=q.toNat-1 by omega] at this
theorem bWn{a b:Int}(h:a≤b):pos a≤pos b:=by unfold pos;split <;> split <;> omega
theorem bWo{r:List Int}{i j:Nat}(hi:i<r.length):r.count r[i]≤1→∀ hj:j<r.length,r[i]=r[j]→i=j:=by
 intro h hj e
 rcases Nat.lt_trichotomy i j with hl | hl | hl
 ·have h1:(r.take j).count r[i] ≥ 1:=List.count_pos_iff.2 (List.mem_take_iff_getElem.2 ⟨i,by omega,rfl⟩)
  have h2:(r.drop j).count r[i] ≥ 1:=List.count_pos_iff.2 (by rw [List.drop_eq_getElem_cons hj,e];exact List.mem_cons_self ..)
  have h3:r.count r[i]=(r.take j).count r[i]+(r.drop j).count r[i]:=by rw [← List.count_append,List.take_append_drop]
  omega
 ·exact hl
 ·have h1:(r.take i).count r[i] ≥ 1:=List.count_pos_iff.2 (List.mem_take_iff_getElem.2 ⟨j,by omega,e.symm⟩)
  have h2:(r.drop i).count r[i] ≥ 1:=List.count_pos_iff.2 (by rw [List.drop_eq_getElem_cons hi];exact List.mem_cons_self ..)
  have h3:r.count r[i]=(r.take i).count r[i]+(r.drop i).count r[i]:=by rw [← List.count_append,List.take_append_drop]
  omega
section
variable {c:KC.Cup} {r1 r2:List Int} {o s:Nat}
theorem mX(hV:KC.Valid c)(Fv:KC.Valid (KC.withC c [r2]))(Xq:NSh r1)(Xr:NSh r2)(hl1:o<r1.length)(hl2:o<r2.length)(h1:0≤r1.getD o 0)(h:noW (r2.getD o 0) (r1.getD o 0)):Dom (KC.withC c [r1]) (KC.withC c [r2]) o:=by
 refine ⟨?_,?_⟩
 ·rw [mW,mW]
  refine aHh (aPj _ _) (aPk Fv o) fun t ht => ?_
  rw [uR,uR];have e1:scR c o r1=ptP c.pts (r1.getD o 0):=aVc Xq hl1;have e2:scR c o r2=ptP c.pts (r2.getD o 0):=aVc Xr hl2;have h3:=bWm hV.falls (fun x hx=>(hV.pts x hx).1) h
  have:ov t ([r1].map (scR c o))≤ov t ([r2].map (scR c o)):=by
   simp only [ov,List.map_cons,List.map_nil,List.sum_cons,List.sum_nil,e1,e2];have:=bWn (show ptP c.pts (r1.getD o 0)-t≤ptP c.pts (r2.getD o 0)-t by omega)
   omega
  omega
 ·have cn:∀ (r:List Int) (p:Nat),aHi [r] o p=if r.getD o 0=(p:Int) then 1 else 0:=fun r p=>by
   unfold aHi;rw [List.countP_cons,List.countP_nil,Nat.zero_add]
   by_cases e:r.getD o 0=(p:Int)
   ·rw [if_pos e,if_pos (decide_eq_true e)]
   ·rw [if_neg e,if_neg (by rw [decide_eq_true_eq];exact e)]
  rcases h with h | ⟨h2,h3⟩
  ·refine aVb fun p p1 p2 => ?_
   rw [cH p1 p2,cH p1 p2,cn,cn,if_neg (c:=r1.getD o 0=(p:Int)) (by omega)]
   omega
  ·by_cases e:r2.getD o 0=r1.getD o 0
   ·refine .inl fun p p1 p2 => ?_
    rw [cH p1 p2,cH p1 p2,cn,cn,e]
   ·by_cases h60:r2.getD o 0≤60
    ·refine .inr ⟨(r2.getD o 0).toNat,by omega,by omega,?_,fun j j1 j2 => ?_⟩
     ·have q1:r2.getD o 0=((r2.getD o 0).toNat:Int):=by omega
      have q2:¬ r1.getD o 0=((r2.getD o 0).toNat:Int):=by omega
      rw [cH (by omega) (by omega),cH (by omega) (by omega),cn,cn,if_pos q1,if_neg q2]
      omega
     ·rw [cH j1 (by omega),cH j1 (by omega),cn,cn,if_neg (by omega),if_neg (by omega)]
    ·refine .inl fun p p1 p2 => ?_
     rw [cH p1 p2,cH p1 p2,cn,cn,if_neg (by omega),if_neg (by omega)]
theorem aHk(n:Nat)(p w:Int)(ho:o<n)(hs:s<n)(hne:o≠s):(KC.race2 n o p s w).getD o 0=p∧(KC.race2 n o p s w).getD s 0=w:=by
 unfold KC.race2;refine ⟨?_,?_⟩
 ·rw [List.getD_eq_getElem?_getD,List.getElem?_set_ne (Ne.symm hne),List.getElem?_set_self (by simpa using ho)];rfl
 ·rw [List.getD_eq_getElem?_getD,List.getElem?_set_self (by simpa using hs)];rfl
theorem aHl{n:Nat}{p w:Int}(hne:p=0∨w=0∨p≠w):NSh (KC.race2 n o p s w):=by
 intro x hx;unfold KC.race2;have h1:=KC.count_set_le (l:=(List.replicate n (0:Int)).set o p) (i:=s) (x:=w) (y:=x);have h2:=KC.count_set_le (l:=List.replicate n (0:Int)) (i:=o) (x:=p) (y:=x);have h3:(List.replicate n (0:Int)).count x=0:=List.count_eq_zero.2 fun h=>hx (List.eq_of_mem_replicate h)
 split at h1 <;> split at h2 <;> omega

structure aAr (c:KC.Cup) (s:Nat):Prop where
 hv:KC.Valid c
 hd:(c.done.length:Int)<c.ra
 hs:s<c.sk.toNat
structure RaceN (c:KC.Cup) (r:List Int):Prop where
 ok:KC.RaceOK c.sk.toNat r
 ns:NSh r
theorem RaceN.valid(hL:aAr c s)(h:RaceN c r1):KC.Valid (KC.withC c [r1]):=by
 have:=hL.hv.sk1;exact KC.valid_race hL.hv hL.hd (by rw [h.ok.len];omega) h.ok.bd h.ok.cl
theorem aHm(hL:aAr c s)(ho:o<c.sk.toNat)(hne:o≠s){p w p' w':Int}(b1:0≤p∧p≤60)(b2:0≤w∧w≤60)(b3:0≤p'∧p'≤60)(b4:0≤w'∧w'≤60)(n1:p=0∨w=0∨p≠w)(n2:p'=0∨w'=0∨p'≠w')
  (hp:noW p' p) (hw:noW w w') (h:eR c o p s w=true):eR c o p' s w'=true:=by
 have hs:=hL.hs;obtain ⟨x1,x2⟩:=aHk c.sk.toNat p w ho hs hne;obtain ⟨x3,x4⟩:=aHk c.sk.toNat p' w' ho hs hne;have v1:=KC.valid_race2 hL.hv hL.hd (o:=o) (s:=s) b1 b2 n1;have v2:=KC.valid_race2 hL.hv hL.hd (o:=o) (s:=s) b3 b4 n2;have m1:=aHl (n:=c.sk.toNat) (o:=o) (s:=s) n1;have m2:=aHl (n:=c.sk.toNat) (o:=o) (s:=s) n2;have l1:=KC.race2_length c.sk.toNat o p s w;have l2:=KC.race2_length c.sk.toNat o p' s w';refine betS_dom (mX hL.hv v2 m1 m2 (by omega) (by omega) (by omega) (by rw [x1,x3];exact hp)) (mX hL.hv v1 m2 m1 (by omega) (by omega) (by omega) (by rw [x2,x4];exact hw)) h
theorem aVd(hL:aAr c s)(hr:RaceN c r1)(ho:o<c.sk.toNat)(hne:o≠s):KC.betS (KC.withC c [r1]) o s=eR c o (r1.getD o 0) s (r1.getD s 0):=by
 have hs:=hL.hs;have bd:∀ x,x<c.sk.toNat→0≤r1.getD x 0∧r1.getD x 0≤60:=fun x hx=>by
  rw [List.getD_eq_getElem?_getD,List.getElem?_eq_getElem (by rw [hr.ok.len];exact hx)]
  exact hr.ok.bd _ (List.getElem_mem _)
 have b1:=bd o ho;have b2:=bd s hs;have n1:r1.getD o 0=0∨r1.getD s 0=0∨r1.getD o 0≠r1.getD s 0:=by
  by_cases e:r1.getD o 0=0
  ·exact .inl e
  ·refine .inr (.inr fun e2 => ?_)
   have h1:=hr.ns _ e;have Dd:o<r1.length:=by rw [hr.ok.len];exact ho
   have B3:s<r1.length:=by rw [hr.ok.len];exact hs
   rw [List.getD_eq_getElem?_getD,List.getElem?_eq_getElem Dd,List.getD_eq_getElem?_getD,List.getElem?_eq_getElem B3] at e2
   rw [List.getD_eq_getElem?_getD,List.getElem?_eq_getElem Dd] at h1
   exact hne (bWo Dd h1 B3 e2)
 obtain ⟨x1,x2⟩:=aHk c.sk.toNat (r1.getD o 0) (r1.getD s 0) ho hs hne;have v1:=KC.valid_race2 hL.hv hL.hd (o:=o) (s:=s) b1 b2 n1;have v2:=hr.valid hL;have m1:=aHl (n:=c.sk.toNat) (o:=o) (s:=s) n1;have l1:=KC.race2_length c.sk.toNat o (r1.getD o 0) s (r1.getD s 0);have lr:=hr.ok.len;have rf:∀ x:Int,0≤x→noW x x:=fun x hx=>by unfold noW;omega
 have d1:∀ x,(x=o∨x=s)→Dom (KC.withC c [r1]) (KC.withC c [KC.race2 c.sk.toNat o (r1.getD o 0) s (r1.getD s 0)]) x:=fun x hx=>by
  rcases hx with rfl | rfl
  ·exact mX hL.hv v1 hr.ns m1 (by omega) (by omega) b1.1 (by rw [x1];exact rf _ b1.1)
  ·exact mX hL.hv v1 hr.ns m1 (by omega) (by omega) b2.1 (by rw [x2];exact rf _ b2.1)
 have d2:∀ x,(x=o∨x=s)→Dom (KC.withC c [KC.race2 c.sk.toNat o (r1.getD o 0) s (r1.getD s 0)]) (KC.withC c [r1]) x:=fun x hx=>by
  rcases hx with rfl | rfl
  ·exact mX hL.hv v2 m1 hr.ns (by omega) (by omega) (by omega) (by rw [x1];exact rf _ b1.1)
  ·exact mX hL.hv v2 m1 hr.ns (by omega) (by omega) (by omega) (by rw [x2];exact rf _ b2.1)
 rw [Bool.eq_iff_iff];exact ⟨fun h=>betS_dom (d1 o (.inl rfl)) (d2 s (.inr rfl)) h,fun h=>betS_dom (d2 o (.inl rfl)) (d1 s (.inr rfl)) h⟩
end
end CU
end KV
end Go.Proofs

end

section
namespace Go.Proofs
namespace KV
open Tryz
namespace CU
open KC
theorem aVe:∀ (n:Nat) (l:List Int),l.Nodup→(∀ x∈l,1≤x∧x≤n)→l.length≤n
 | 0,l,_,h=>by
  cases l with
  | nil=>simp
  | cons x r=>have:=h x (by simp);omega
 | n+1,l,hn,h=>by
  have h1:=aVe n (l.filter fun x=>decide (x≠((n+1:Nat):Int))) (hn.filter _) (fun x hx=>by
   obtain ⟨a,b⟩:=List.mem_filter.1 hx;have:=h x a;have:=of_decide_eq_true b;omega)
  have h2:=List.length_eq_countP_add_countP (l:=l) (fun x=>decide (x≠((n+1:Nat):Int)))
  have h3:l.count ((n+1:Nat):Int)≤1:=List.nodup_iff_count.1 hn _;have h4:l.countP (fun a=>decide ¬(decide (a≠((n+1:Nat):Int))=true))=l.count ((n+1:Nat):Int):=List.countP_congr fun x _=>by simp
  rw [h4,List.countP_eq_length_filter] at h2
  omega

section
variable {α:Type}
def edS(D:α→Int)(a:Int × Int)(x:α):Int × Int:=if 60<D x then (a.1+1,a.2) else if a.2≤D x then (a.1+1,a.2+1) else a
theorem edf{D q:α→Int}{P:α→Bool}:∀ (R pre:List α) (a n:Int),(pre.countP P:Int)≤a-1→n≤a→(pre++R).Pairwise (fun x y=>D x≤D y)→(∀ x∈pre++R,P x=true→60<D x∨1≤q x∧q x≤D x) →
  (pre++R).Pairwise (fun x y=>P x=true→P y=true→D x≤60→D y≤60→q x≠q y)→((pre++R).countP P:Int)≤(R.foldl (edS D) (a,n)).1-1
 | [],pre,a,n,h1,_,_,_,_=>by simpa using h1
 | x::R,pre,a,n,h1,h2,hs,hq,hd=>by
  have hp:((pre++[x]).countP P:Int)≤pre.countP P+1:=by
   rw [List.countP_append,List.countP_cons,List.countP_nil]
   split <;> omega
  rw [List.append_cons] at hs hq hd ⊢
  rw [List.foldl_cons];have IH:=fun a n g1 g2=>edf (D:=D) (q:=q) (P:=P) R (pre++[x]) a n g1 g2 hs hq hd
  unfold edS
  by_cases g1:60<D x
  ·rw [if_pos g1];exact IH (a+1) n (by omega) (by omega)
  ·rw [if_neg g1]
   by_cases g2:n≤D x
   ·rw [if_pos g2];exact IH (a+1) (n+1) (by omega) (by omega)
   ·rw [if_neg g2]
    refine IH a n ?_ h2;have Fu:=(List.pairwise_append.1 hs).1;have Im:=(List.pairwise_append.1 hd).1;have hle:∀ y∈pre++[x],D y≤D x:=fun y hy=>by
     rcases List.mem_append.1 hy with h | h
     ·exact (List.pairwise_append.1 Fu).2.2 y h x (by simp)
     ·rw [List.mem_singleton.1 h];omega
    have hnd:(((pre++[x]).filter P).map q).Nodup:=by
     refine List.pairwise_map.2 ?_;refine List.Pairwise.imp_of_mem (fun {y z} hy hz h => ?_) (Im.filter P)
     obtain ⟨m1,m2⟩:=List.mem_filter.1 hy;obtain ⟨m3,m4⟩:=List.mem_filter.1 hz;have:=hle y m1;have:=hle z m3;exact h m2 m4 (by omega) (by omega)
    by_cases g3:1≤D x
    ·have h3:=aVe (D x).toNat _ hnd (fun v hv=>by
      obtain ⟨y,hy,rfl⟩:=List.mem_map.1 hv;obtain ⟨m1,m2⟩:=List.mem_filter.1 hy;have:=hle y m1
      rcases hq y (List.mem_append_left _ m1) m2 with h | h <;> omega)
     rw [List.length_map,← List.countP_eq_length_filter] at h3
     omega
    ·have h3:(pre++[x]).countP P=0:=List.countP_eq_zero.2 fun y hy h=>by
      have:=hle y hy
      rcases hq y (List.mem_append_left _ hy) h with h | h <;> omega
     have:(0:Int)≤pre.countP P:=by omega
     omega
end

theorem bFt{f:Int→Bool}{p:Int}:∀ (n:Nat) (q:Int),(∀ x,q<x→x≤p→f x=true)→p≤q+n→p≤upto f n q
 | 0,q,_,h=>by unfold upto;omega
 | n+1,q,hf,h=>by
  unfold upto
  by_cases e:p≤q
  ·have:=aCz f (n+1) q
   unfold upto at this
   omega
  ·rw [if_pos (hf (q+1) (by omega) (by omega))]
   exact bFt n (q+1) (fun x h1 h2=>hf x (by omega) h2) (by omega)
section
variable {c:KC.Cup} {r:List Int} {o s:Nat}
theorem cDm(h:eP c s o≤60):eR c o 0 s 0=false:=by
 unfold eP at h
 split at h
 ·omega
 ·rename_i e;exact Bool.eq_false_iff.2 e
theorem bWp(hL:aAr c s)(ho:o<c.sk.toNat)(hne:o≠s){p w:Int}(hp:0≤p∧p≤60)(hw:0≤w∧w≤60)(n1:p=0∨w=0∨p≠w)(h:eR c o p s w=true):60<eP c s o∨1≤p∧p≤eP c s o:=by
 have h1:eR c o p s 0=true:=aHm hL ho hne hp hw hp ⟨by omega,by omega⟩ n1 (.inr (.inl rfl)) (by unfold noW;omega) (by unfold noW;omega) h
 by_cases e:p=0
 ·subst e
  left
  unfold eP;rw [if_pos h1];omega
 ·by_cases g:60<eP c s o
  ·exact .inl g
  ·refine .inr ⟨by omega,?_⟩
   have hf:=cDm (c:=c) (s:=s) (o:=o) (by omega)
   unfold eP;rw [if_neg (by rw [hf];simp)]
   refine bFt 60 0 (fun x h2 h3 => ?_) (by omega)
   exact aHm hL ho hne hp ⟨by omega,by omega⟩ ⟨by omega,by omega⟩ ⟨by omega,by omega⟩ (.inr (.inl rfl)) (.inr (.inl rfl)) (.inr ⟨by omega,h3⟩) (.inl rfl) h1
def cDn(c:KC.Cup)(s i:Nat):Bool:=decide (i≠s) && decide (0<eP c s i)
def cDo(c:KC.Cup)(s i:Nat):List Int:=[(i:Int),eP c s i]
theorem cDp(c:KC.Cup)(s:Nat):bAn c s=((List.range c.sk.toNat).filter (cDn c s)).map (cDo c s):=by
 unfold bAn
 induction List.range c.sk.toNat with
 | nil=>rfl
 | cons i l ih =>
  rw [List.flatMap_cons,ih,List.filter_cons];unfold bAm cDn
  by_cases e:i=s
  ·simp [e]
  ·by_cases e2:0<eP c s i
   ·simp [e,e2,cDo]
   ·simp [e,e2]
theorem aLp(c:KC.Cup)(s:Nat):(jJ c s).Perm (((List.range c.sk.toNat).filter (cDn c s)).map (cDo c s)):=by
 rw [← cDp];exact rG _ _
theorem cDq(c:KC.Cup)(s:Nat):(jJ c s).Pairwise fun x y=>x.getD 1 0≤y.getD 1 0 :=
 mO (f:=fun x:List Int=>x.getD 1 0) (lt:=ltK 1) (fun x y=>bFq _ _) _
theorem cDr(c:KC.Cup)(s:Nat):(jJ c s).Pairwise fun x y=>x.getD 0 0≠y.getD 0 0:=by
 have h:((jJ c s).map fun x=>x.getD 0 0).Nodup:=by
  rw [((aLp c s).map fun x:List Int=>x.getD 0 0).nodup_iff,List.map_map]
  refine List.pairwise_map.2 ((List.pairwise_lt_range.filter _).imp fun {a b} h => ?_)
  show (a:Int)≠b;omega
 exact List.pairwise_map.1 h
def afB(c:KC.Cup)(r:List Int)(s:Nat)(x:List Int):Bool:=KC.betS (KC.withC c [r]) (x.getD 0 0).toNat s
theorem zB(hr:RaceN c r){x:Nat}(hx:x<c.sk.toNat):0≤r.getD x 0∧r.getD x 0≤60:=by
 rw [List.getD_eq_getElem?_getD,List.getElem?_eq_getElem (by rw [hr.ok.len];exact hx)]
 exact hr.ok.bd _ (List.getElem_mem _)
theorem aHn(hr:RaceN c r)(ho:o<c.sk.toNat)(hs:s<c.sk.toNat)(hne:o≠s):r.getD o 0=0∨r.getD s 0=0∨r.getD o 0≠r.getD s 0:=by
 by_cases e:r.getD o 0=0
 ·exact .inl e
 ·refine .inr (.inr fun e2 => ?_)
  have h1:=hr.ns _ e;have Dd:o<r.length:=by rw [hr.ok.len];exact ho
  have B3:s<r.length:=by rw [hr.ok.len];exact hs
  rw [List.getD_eq_getElem?_getD,List.getElem?_eq_getElem Dd,List.getD_eq_getElem?_getD,List.getElem?_eq_getElem B3] at e2
  rw [List.getD_eq_getElem?_getD,List.getElem?_eq_getElem Dd] at h1
  exact hne (bWo Dd h1 B3 e2)
theorem aVf(hL:aAr c s)(hr:RaceN c r):KC.rankM (KC.withC c [r]) s=1+((jJ c s).countP (afB c r s):Nat):=by
 rw [bWl];unfold bCp;rw [(aLp c s).countP_eq,List.countP_map,List.countP_filter]
 congr 2
 refine List.countP_congr fun i hi => ?_
 have Bi:i<c.sk.toNat:=List.mem_range.1 hi;show KC.betS (KC.withC c [r]) i s=true↔_;have e:(afB c r s ∘ cDo c s) i=KC.betS (KC.withC c [r]) i s:=by
  show KC.betS (KC.withC c [r]) ((i:Int).toNat) s=_;rw [Int.toNat_natCast]
 rw [e,Bool.and_eq_true];refine ⟨fun h=>⟨h,?_⟩,fun h=>h.1⟩
 unfold cDn
 by_cases hne:i=s
 ·subst hne;rw [aLo] at h;cases h
 ·rw [aVd hL hr Bi hne] at h
  have:=bWp hL Bi hne (zB hr Bi) (zB hr hL.hs) (aHn hr Bi hL.hs hne) h;have h2:0<eP c s i:=by omega
  simp [hne,h2]
theorem bWq(c:KC.Cup)(R:List (List Int)):∀ a:Int × Int × List Int,((R.foldl aKx a).1,(R.foldl aKx a).2.1)=R.foldl (edS fun x:List Int=>x.getD 1 0) (a.1,a.2.1):=by
 induction R with
 | nil=>intro a;rfl
 | cons x R ih =>
  intro a;rw [List.foldl_cons,List.foldl_cons,ih]
  congr 1
  unfold aKx edS
  split
  ·rfl
  ·split <;> rfl
theorem worst_ge(hL:aAr c s)(hr:RaceN c r):KC.rankM (KC.withC c [r]) s≤(worstM c s).1:=by
 rw [aVf hL hr];have he:=bWq c (jJ c s) (1,1,List.replicate c.sk.toNat 0);have hpb:∀ x∈jJ c s,afB c r s x=true→60<x.getD 1 0∨1≤r.getD (x.getD 0 0).toNat 0∧r.getD (x.getD 0 0).toNat 0≤x.getD 1 0:=fun x hx hb=>by
  obtain ⟨i,hi,hne,rfl,_⟩:=tJ hx;have Bi:i<c.sk.toNat:=by omega
  unfold afB at hb
  change KC.betS (KC.withC c [r]) ((i:Int).toNat) s=true at hb
  rw [Int.toNat_natCast,aVd hL hr Bi hne] at hb
  have:=bWp hL Bi hne (zB hr Bi) (zB hr hL.hs) (aHn hr Bi hL.hs hne) hb;show 60<eP c s i∨1≤r.getD ((i:Int).toNat) 0∧r.getD ((i:Int).toNat) 0≤eP c s i;rw [Int.toNat_natCast];exact this
 have h:=edf (D:=fun x:List Int=>x.getD 1 0) (q:=fun x=>r.getD (x.getD 0 0).toNat 0) (P:=afB c r s) (jJ c s) [] 1 1 (by simp) (by omega) (by rw [List.nil_append];exact cDq c s) (by rw [List.nil_append];exact hpb) (by
  rw [List.nil_append];refine List.Pairwise.imp_of_mem (fun {x y} hx hy hne p1 p2 d1 d2 => ?_) (cDr c s)
  have q1:=hpb x hx p1;have q2:=hpb y hy p2;obtain ⟨i,hi,_,rfl,_⟩:=tJ hx;obtain ⟨j,hj,_,rfl,_⟩:=tJ hy;have hij:(i:Int)≠(j:Int):=hne;change 60<eP c s i∨1≤r.getD ((i:Int).toNat) 0∧_ at q1
  change eP c s i≤60 at d1
  intro e;change r.getD ((i:Int).toNat) 0=r.getD ((j:Int).toNat) 0 at e
  rw [Int.toNat_natCast] at q1
  rw [Int.toNat_natCast,Int.toNat_natCast] at e
  rcases aHn hr (o:=i) (s:=j) (by omega) (by omega) (by omega) with h | h | h <;> omega)
 rw [List.nil_append] at h
 have e1:(worstM c s).1=((jJ c s).foldl (edS fun x:List Int=>x.getD 1 0) (1,1)).1:=by
  have:=congrArg Prod.fst he;exact this
 rw [e1];omega
end
end CU
end KV
end Go.Proofs

end
end
namespace Go.Proofs
namespace KV
open Tryz
section
def bPn(f:List Int→Int × Bool)(S:Lqq)(t:Int):Nat:=(S.filter fun j => !(f j).2 && decide ((f j).1=t)).length
theorem aPl{α:Type}{A B D:α→Bool}:∀ (l:List α),(∀ x∈l,A x=true→D x=true)→(∀ x∈l,B x=true→D x=true)→(∀ x∈l,¬ (A x=true∧B x=true))→(l.filter A).length+(l.filter B).length≤(l.filter D).length
 | [],_,_,_=>by simp
 | x::l,h1,h2,h3=>by
  have ih:=aPl l (fun y hy=>h1 y (Cj _ hy)) (fun y hy=>h2 y (Cj _ hy)) (fun y hy=>h3 y (Cj _ hy))
  have a1:=h1 x (iN ..);have a2:=h2 x (iN ..);have a3:=h3 x (iN ..);rw [List.filter_cons,List.filter_cons,List.filter_cons];cases hA:A x <;> cases hB:B x <;> cases hD:D x <;> simp_all <;> omega
section
variable {f g:List Int→Int × Bool} {S sk:Lqq}
theorem aDb(t u:Int)(h:t<u):aCl f S t+bPn f S t≤aCl f S u:=by
 unfold aCl bPn;refine aPl S (fun x _ h1 => ?_) (fun x _ h1 => ?_) (fun x _ h1 => ?_) <;> simp at h1 ⊢
 ·exact ⟨h1.1,by omega⟩
 ·exact ⟨h1.1,by omega⟩
 ·omega
theorem aCa(t:Int):aCl f S t+bPn f S t≤S.length:=by
 have:=aPl (A:=fun j => !(f j).2 && decide ((f j).1<t)) (B:=fun j => !(f j).2 && decide ((f j).1=t)) (D:=fun _=>true) S (fun _ _ _=>rfl) (fun _ _ _=>rfl) (fun x _ h1=>by simp at h1;omega)
 rw [List.filter_eq_self.2 (fun _ _=>rfl)] at this
 exact this
theorem aPm{k:List Int}(hk:k∈S)(ho:(f k).2=false):1≤bPn f S (f k).1:=List.length_pos_of_mem (qR.2 ⟨hk,by simp [ho]⟩)
theorem aAs{k:List Int}(ho:(f k).2=false):prP (kO f S k)=1+(aCl f S (f k).1:Int):=by
 have e:kO f S k=1+(aCl f S (f k).1:Int):=if_neg (by simp [ho])
 unfold prP;rw [e,if_pos (by omega)]
theorem aVg{k:List Int}(ho:(f k).2=true):prP (kO f S k)=0:=by
 unfold prP kO;rw [if_pos ho];rfl
theorem cLw{j k:List Int}(hj:j∈S)(hk:k∈S)(ho:(f k).2=false):(prP (kO f S j)=prP (kO f S k))↔((f j).2=false∧(f j).1=(f k).1):=by
 rw [aAs ho];cases Ec:(f j).2 with
 | true=>rw [aVg Ec];simp;omega
 | false =>
  rw [aAs Ec];refine ⟨fun h=>⟨rfl,?_⟩,fun h=>by rw [h.2]⟩
  have h1:=aPm hj Ec;have h2:=aPm hk ho
  rcases Int.lt_trichotomy (f j).1 (f k).1 with h3 | h3 | h3
  ·have:=aDb (f:=f) (S:=S) _ _ h3;omega
  ·exact h3
  ·have:=aDb (f:=f) (S:=S) _ _ h3;omega
theorem bCq(hp:S.Perm sk){k:List Int}(hk:k∈S)(ho:(f k).2=false):(sk.map fun s=>prP (kO f S s)).count (prP (kO f S k))=bPn f S (f k).1:=by
 rw [List.count_eq_countP,List.countP_map,← hp.countP_eq,List.countP_eq_length_filter];unfold bPn
 congr 1
 refine List.filter_congr fun j hj => ?_
 have:=cLw hj hk ho;simp only [Function.comp];rw [Bool.eq_iff_iff];simpa using this
theorem aPn(hp:S.Perm sk){x:Int}(hx:x∈sk.map fun s=>prP (kO f S s))(h0:x≠0):∃ k∈S,(f k).2=false∧x=prP (kO f S k):=by
 obtain ⟨k,hk,rfl⟩:=Bq.1 hx;refine ⟨k,hp.mem_iff.2 hk,?_,rfl⟩;cases ho:(f k).2 with
 | false=>rfl
 | true=>exact absurd (aVg ho) h0
theorem bCr(hp:S.Perm sk)(hl:sk.length≤60):∀ p∈(sk.map fun s=>prP (kO f S s)),p≠0→p+((sk.map fun s=>prP (kO f S s)).count p:Nat)≤61∧∀ q∈(sk.map fun s=>prP (kO f S s)),p<q→p+((sk.map fun s=>prP (kO f S s)).count p:Nat)≤q:=by
 intro p hpm h0;obtain ⟨k,hk,ho,rfl⟩:=aPn hp hpm h0;rw [bCq hp hk ho];have h1:=aCa (f:=f) (S:=S) (f k).1;have h2:=hp.length_eq;refine ⟨by rw [aAs ho];omega,fun q hq hlt => ?_⟩
 have hpos:prP (kO f S k)=1+(aCl f S (f k).1:Int):=aAs ho;obtain ⟨j,hj,hjo,rfl⟩:=aPn hp hq (by omega)
 rw [aAs hjo] at hlt ⊢
 rw [hpos] at hlt ⊢
 have h3:(f k).1<(f j).1:=by
  rcases Int.lt_trichotomy (f k).1 (f j).1 with h3 | h3 | h3
  ·exact h3
  ·rw [h3] at hlt;omega
  ·have:=aDb (f:=f) (S:=S) _ _ h3;omega
 have:=aDb (f:=f) (S:=S) _ _ h3;omega
theorem cDs(hp:S.Perm sk):∀ x∈(sk.map fun s=>prP (kO f S s)),0≤x∧x≤sk.length:=by
 intro x hx
 by_cases h0:x=0
 ·omega
 ·obtain ⟨k,hk,ho,rfl⟩:=aPn hp hx h0
  have h1:=aCa (f:=f) (S:=S) (f k).1;have h2:=aPm hk ho;have h3:=hp.length_eq;rw [aAs ho];omega
end
end
section

end
section
end
section
section
variable {dl:Int} {oc I1:List Int} {F:List Int→Int}
theorem aVh{P:Int→Bool}:∀ {L:Lqq},bZ L→(∀ s∈L,∀ y∈L,dAb s=dN y→F s=F y)→(∀ y∈L,P (F y)=true→oc.contains (dN y)=I1.contains (dN y))→(eY dl oc L).filter (fun s=>P (F s.x))=(eY dl I1 L).filter (fun s=>P (F s.x))
 | [],_,_,_=>rfl
 | y::L,hd,hF,ho=>by
  have ih:=aVh (P:=P) hd.tail (fun s hs z hz=>hF s (Cj _ hs) z (Cj _ hz)) fun z hz=>ho z (Cj _ hz)
  have ex:∀ q,(mkS dl q y (eY dl q L)).x=y:=fun _=>rfl
  cases hy:P (F y) with
  | false=>rw [eY,eY,List.filter_cons_of_neg (by rw [ex,hy];exact Bool.false_ne_true),List.filter_cons_of_neg (by rw [ex,hy];exact Bool.false_ne_true),ih]
  | true =>
   rw [eY,eY,List.filter_cons_of_pos (by rw [ex,hy]),List.filter_cons_of_pos (by rw [ex,hy]),ih]
   congr 1
   have key:∀ q,jG (eY dl q L) (dN y)=jG ((eY dl q L).filter fun s=>P (F s.x)) (dN y):=fun q=>by
    unfold jG;rw [← List.filter_reverse,List.filter_filter];refine List.filter_congr fun s hs => ?_
    cases e:dAb s.x == dN y with
    | false=>rfl
    | true =>
     have e:dAb s.x=dN y:=by simpa using e
     have:=hF s.x (Cj _ (cLo (aCg.1 hs))) y (iN ..) e;rw [this,hy];rfl
   have e:jG (eY dl oc L) (dN y)=jG (eY dl I1 L) (dN y):=by rw [key,key,ih]
   unfold mkS;rw [e,ho y (iN ..) hy]
theorem bWs{P:Int→Bool}{L:Lqq}(hd:bZ L)(hF:∀ s∈L,∀ y∈L,dAb s=dN y→F s=F y)(ho:∀ y∈L,P (F y)=true→oc.contains (dN y)=I1.contains (dN y)){y:List Int}(hm:y∈L)(hy:P (F y)=true):stF dl oc L y=stF dl I1 L y:=by
 have h:=aVh (dl:=dl) (P:=P) hd hF ho;have key:∀ q,(eY dl q L).find? (fun s=>s.x == y)=((eY dl q L).filter fun s=>P (F s.x)).find? (fun s=>s.x == y):=fun q=>(aLm fun s _ hs=>by
  cases e:s.x == y with
  | false=>rfl
  | true =>
   have e:s.x=y:=by simpa using e
   rw [e,hy] at hs
   cases hs).symm
 have hs:((eY dl oc L).find? fun s=>s.x == y).isSome=true:=by
  rw [List.find?_isSome];have hm:=hm;rw [← aNq dl oc L] at hm
  obtain ⟨s,h1,h2⟩:=Bq.1 hm;exact ⟨s,h1,by rw [h2];exact beq_self_eq_true y⟩
 have e:(eY dl oc L).find? (fun s=>s.x == y)=(eY dl I1 L).find? (fun s=>s.x == y):=by rw [key oc,key I1,h]
 obtain ⟨s,Fu⟩:=Option.isSome_iff_exists.1 hs;unfold stF;rw [← e,Fu];rfl
theorem bPo{D:Lqq}(hd:bZ D){c t:Int}(ho:∀ y∈D,rR D y=c→oc.contains (dN y)=I1.contains (dN y)):cI dl oc D c t=cI dl I1 D c t:=by
 have e:aNf dl oc D c t=aNf dl I1 D c t:=by
  unfold aNf;refine zA _ _ _ _ fun y hy a => ?_
  unfold aIb aYm
  by_cases h4:dK y≤4
  ·by_cases hb:dB y=c
   ·have hs:stF dl oc D y=stF dl I1 D y:=bWs (F:=rR D) (P:=fun b=>decide (b=c)) hd (fun s hs y hy e=>bCl hd hs hy e) (fun y hy h=>ho y hy (of_decide_eq_true h)) hy (decide_eq_true ((bWd h4).trans hb))
    unfold dX aIc pQ;rw [hs]
   ·rw [show (dB y == c)=false by simpa using hb];simp
  ·rw [decide_eq_false h4];simp
 unfold cI;rw [e]
end
section
variable {dl:Int} {sk dc:Lqq}
def tS(dl:Int)(D:Lqq)(u s:List Int):Int:=(chM dl D (s.getD 0 0) (s.getD 1 0) u).1
theorem cLx(hr:cK dl sk dc){s:List Int}(hs:s∈aC sk){u:List Int}{t:Int}(ht:t≤100000000000):decide (tS dl (aC dc) u s<t)=(!(cI dl u (aC dc) (sB s) (sT s)).2 && decide ((cI dl u (aC dc) (sB s) (sT s)).1<t)):=by
 unfold tS chM;dsimp only;cases h:(cI dl u (aC dc) (s.getD 0 0) (s.getD 1 0)).2 with
 | true =>
  rw [if_pos rfl];have:¬ (far<t):=by
   have:(far:Int)=1099511627776:=rfl;omega
  rw [decide_eq_false this];rfl
 | false =>
  rw [if_neg Bool.false_ne_true];rfl
theorem cMy(hd:bZ (aC dc)){y:List Int}(hy:y∈aC dc):aIg (aC dc) (dN y)=rR (aC dc) y:=by unfold aIg;rw [aOh hd hy]
theorem bFu(hr:cK dl sk dc)(u s:List Int):chM dl (aC dc) (s.getD 0 0) (s.getD 1 0) u=((chM dl (aC dc) (s.getD 0 0) (s.getD 1 0) (u.filter fun n => !(aIg (aC dc) n != s.getD 0 0))).1,(chM dl (aC dc) (s.getD 0 0) (s.getD 1 0) (u.filter fun n => !(aIg (aC dc) n != s.getD 0 0))).2.1,u):=by
 have hd:=kK hr;have e:cI dl u (aC dc) (s.getD 0 0) (s.getD 1 0)=cI dl (u.filter fun n => !(aIg (aC dc) n != s.getD 0 0)) (aC dc) (s.getD 0 0) (s.getD 1 0):=bPo hd fun y hy h=>by
  rw [Bool.eq_iff_iff,List.contains_iff_mem,List.contains_iff_mem,qR,cMy hd hy,h];simp
 unfold chM;rw [e]
theorem aLq(hr:cK dl sk dc){u:List Int}(hu:u.Sublist (cP dl (aC dc)))(s:List Int):∃ x∈(nJ dl (aC dc) (s.getD 0 0) (s.getD 1 0) (rS dl (aC dc) (s.getD 0 0))).1,x.1=tS dl (aC dc) u s∧x.2.1=(cI dl u (aC dc) (sB s) (sT s)).2:=by
 have hf:(u.filter fun n => !(aIg (aC dc) n != s.getD 0 0)).Sublist (rS dl (aC dc) (s.getD 0 0)):=hu.filter _
 refine ⟨_,Bq.2 ⟨_,bWc _ _ hf,rfl⟩,?_,?_⟩
 ·unfold tS
  rw [bFu hr u s]
 ·have:=congrArg (fun x:bX=>x.2.1) (bFu hr u s)
  exact this.symm
theorem cMz{l:List bX}{x:bX}(hx:x∈l):mnM l≤x.1:=(aSl l far).2 x hx
theorem cNa{l:List bX}{x:bX}(hx:x∈l):x.1≤mxM l:=(aSm l 0).2 x hx
def bCt(dl:Int)(D S:Lqq)(u:List Int)(t:Int)(n:Nat):Nat:=((S.take n).filter fun s=>decide (tS dl D u s<t)).length
theorem bPp{D S:Lqq}{u:List Int}{t:Int}{n:Nat}{s:List Int}(hs:S[n]? = some s):bCt dl D S u t (n+1)=bCt dl D S u t n+(if tS dl D u s<t then 1 else 0):=by
 unfold bCt;rw [List.take_add_one,hs];show ((S.take n++[s]).filter _).length=_;rw [oJ,jT]
 congr 1
 by_cases h:tS dl D u s<t
 ·rw [if_pos h,List.filter_cons_of_pos (p:=fun s=>decide (tS dl D u s<t)) (decide_eq_true h)];rfl
 ·rw [if_neg h,List.filter_cons_of_neg (p:=fun s=>decide (tS dl D u s<t)) (by show ¬ decide (tS dl D u s<t)=true;rw [decide_eq_false h];exact Bool.false_ne_true)];rfl
theorem aVi(hr:cK dl sk dc){u:List Int}(hu:u.Sublist (cP dl (aC dc))){i:Nat}{si:List Int}(hi:(aC sk)[i]? = some si){t:Int}(ht:t=tS dl (aC dc) u si):∀ n,n≤(aC sk).length→(fP (bY dl (aC sk) (aC dc)) i t n).1≤bCt dl (aC dc) (aC sk) u t n∧bCt dl (aC dc) (aC sk) u t n≤(fP (bY dl (aC sk) (aC dc)) i t n).2
 | 0,_=>⟨Nat.zero_le _,Nat.zero_le _⟩
 | n+1,hn=>by
  obtain ⟨J9,Ka⟩:=aVi hr hu hi ht n (by omega)
  have hs:(aC sk)[n]? = some (aC sk)[n]:=Av (by omega)
  rw [bPp hs];unfold fP;rw [aFs hs];dsimp only
  by_cases hin:n=i
  ·rw [if_pos hin]
   have e:si=(aC sk)[n]:=by subst hin;rw [hs] at hi;exact (Option.some.inj hi).symm
   rw [if_neg (by rw [← e,← ht];omega)]
   exact ⟨J9,Ka⟩
  ·rw [if_neg hin]
   obtain ⟨x,hx,Nt,_⟩:=aLq hr hu (aC sk)[n];have h1:=cMz hx;have h2:=cNa hx;rw [Nt] at h1 h2
   have hmm:(nJ dl (aC dc) ((aC sk)[n].getD 0 0) ((aC sk)[n].getD 1 0) (rS dl (aC dc) ((aC sk)[n].getD 0 0))).2.1≤tS dl (aC dc) u (aC sk)[n]∧tS dl (aC dc) u (aC sk)[n]≤(nJ dl (aC dc) ((aC sk)[n].getD 0 0) ((aC sk)[n].getD 1 0) (rS dl (aC dc) ((aC sk)[n].getD 0 0))).2.2:=⟨h1,h2⟩;obtain ⟨h1,h2⟩:=hmm;dsimp only;constructor
   ·split <;> split <;> omega
   ·split <;> split <;> omega
theorem bWt(hr:cK dl sk dc){u:List Int}{t:Int}(ht:t≤100000000000):aCl (fun s=>cI dl u (aC dc) (sB s) (sT s)) (aC sk) t=bCt dl (aC dc) (aC sk) u t (aC sk).length:=by
 unfold aCl bCt;rw [List.take_length]
 congr 1
 exact List.filter_congr fun s hs=>(cLx hr hs ht).symm
theorem aVj{l:List Int}{n:Int}:n∈Lib.compact l↔n∈l:=by
 unfold Lib.compact Lib.compactUpTo;have ea:∀ j,(hj:j<l.length)→l.toArray[j]! = l[j]:=fun j hj=>by
  rw [getElem!_pos l.toArray j (by simpa using hj)];simp
 constructor
 ·intro h
  obtain ⟨j,hj,rfl⟩:=Bq.1 h;have hj:=lC.1 (qR.1 hj).1;rw [ea j hj];exact fG hj
 ·intro h
  obtain ⟨j,hj,rfl⟩:=List.getElem_of_mem h
  suffices H:∀ j,(hj:j<l.length)→∃ k∈(List.range l.length).filter (Lib.keeps l.toArray),l.toArray[k]! = l[j] from by
   obtain ⟨k,hk,e⟩:=H j hj;exact Bq.2 ⟨k,hk,e⟩
  intro j
  induction j with
  | zero=>exact fun hj=>⟨0,qR.2 ⟨lC.2 hj,Lib.keeps_lt_one _ 0 (by omega)⟩,ea 0 hj⟩
  | succ j ih =>
   intro hj
   by_cases he:l[j+1]=l[j]
   ·obtain ⟨k,hk,e⟩:=ih (by omega)
    exact ⟨k,hk,e.trans he.symm⟩
   ·refine ⟨j+1,qR.2 ⟨lC.2 hj,Lib.keeps_pos ?_⟩,ea (j+1) hj⟩
    rw [ea (j+1) hj,Nat.add_sub_cancel,ea j (by omega)]
    exact he
theorem bFv{al:List fT}{i:Nat}{c:List bX}{n:Int}:n∈uX al i c↔∃ x∈c,x.2.1=false∧((cL al i x.1).1:Int)+1≤n∧n≤((cL al i x.1).2:Int)+1:=by
 unfold uX;rw [aVj,(List.mergeSort_perm _ _).mem_iff,List.mem_flatMap];constructor
 ·rintro ⟨x,hx,hn⟩
  unfold chL at hn
  cases ho:x.2.1 with
  | true=>rw [ho] at hn;cases hn
  | false =>
   rw [ho,if_neg Bool.false_ne_true] at hn
   unfold aIf at hn
   obtain ⟨j,hj,rfl⟩:=Bq.1 hn;have hj:=lC.1 hj;exact ⟨x,hx,ho,by omega,by omega⟩
 ·rintro ⟨x,hx,ho,h1,h2⟩
  refine ⟨x,hx,?_⟩;unfold chL aIf;rw [ho,if_neg Bool.false_ne_true];exact Bq.2 ⟨(n-1-((cL al i x.1).1:Int)).toNat,lC.2 (by omega),by omega⟩
theorem aVk(hr:cK dl sk dc){u:List Int}(hu:u.Sublist (cP dl (aC dc))){i:Nat}{s:List Int}(hi:(aC sk)[i]? = some s) :
  if (cI dl u (aC dc) (sB s) (sT s)).2 then ((nJ dl (aC dc) (s.getD 0 0) (s.getD 1 0) (rS dl (aC dc) (s.getD 0 0))).1.any fun x=>x.2.1)=true∧kO (fun s=>cI dl u (aC dc) (sB s) (sT s)) (aC sk) s = -1
  else kO (fun s=>cI dl u (aC dc) (sB s) (sT s)) (aC sk) s∈uX (bY dl (aC sk) (aC dc)) i (nJ dl (aC dc) (s.getD 0 0) (s.getD 1 0) (rS dl (aC dc) (s.getD 0 0))).1:=by
 have hs:=Bp hi;obtain ⟨x,hx,Nt,J8⟩:=aLq hr hu s;cases ho:(cI dl u (aC dc) (sB s) (sT s)).2 with
 | true =>
  rw [if_pos rfl];refine ⟨List.any_eq_true.2 ⟨x,hx,by rw [J8,ho]⟩,?_⟩
  unfold kO;rw [ho,if_pos rfl]
 | false =>
  rw [if_neg Bool.false_ne_true];obtain ⟨_,_,h3,_⟩:=aNx hr;have hb:=cDk (dl:=dl) (oc:=u) (b:=sB s) (kK hr) (h3 s hs).2;have hv:tS dl (aC dc) u s=(cI dl u (aC dc) (sB s) (sT s)).1:=by
   unfold tS chM;dsimp only;have ho:(cI dl u (aC dc) (s.getD 0 0) (s.getD 1 0)).2=false:=ho;rw [ho];rfl
  refine bFv.2 ⟨x,hx,by rw [J8,ho],?_⟩
  rw [Nt];unfold kO;rw [ho,if_neg Bool.false_ne_true,← hv,bWt hr (by rw [hv];exact hb.2)]
  have hc:=aVi hr hu hi rfl (aC sk).length (dG _);have e:(bY dl (aC sk) (aC dc)).length=(aC sk).length:=aKm ..;show ((fP (bY dl (aC sk) (aC dc)) i (tS dl (aC dc) u s) (bY dl (aC sk) (aC dc)).length).1:Int)+1≤_∧_≤((fP (bY dl (aC sk) (aC dc)) i (tS dl (aC dc) u s) (bY dl (aC sk) (aC dc)).length).2:Int)+1;rw [e];omega
end
end
section
section
variable {dl:Int} {sk dc:Lqq}
abbrev hpM(dl:Int)(D:Lqq)(s:List Int):fT:=nJ dl D (s.getD 0 0) (s.getD 1 0) (rS dl D (s.getD 0 0))
theorem cDu(hr:cK dl sk dc){j k:Nat}{s s':List Int}(hj:(aC sk)[j]? = some s)(hk:(aC sk)[k]? = some s')(e:s.getD 0 0=s'.getD 0 0):j=k:=by
 have hp:=aAq hr;obtain ⟨J6,Ec⟩:=Bs.1 hj;obtain ⟨J4,Er⟩:=Bs.1 hk
 rcases Nat.lt_trichotomy j k with q | q | q
 ·have:=List.pairwise_iff_getElem.1 hp j k J6 J4 q
  rw [Ec,Er] at this
  omega
 ·exact q
 ·have:=List.pairwise_iff_getElem.1 hp k j J4 J6 q
  rw [Ec,Er] at this
  omega
end
end
section
section
variable {dl:Int} {sk dc:Lqq}
end
end
section

end
section
end
section

section
variable {dl:Int} {sk dc:Lqq}
end
end
section
section
variable {Ae Aj:Lqq}
end
end
section
section
variable {Ae Aj:Lqq}
theorem bCs{dl:Int}(hr:cK dl Ae Aj)(B:Nat→Bool){i:Nat}{s:List Int}(hi:(aC Ae)[i]? = some s):((((List.range (aC Ae).length).filter B).map fun j=>((aC Ae).getD j []).getD 0 0).contains (s.getD 0 0))=B i:=by
 obtain ⟨hil,hie⟩:=Bs.1 hi;rw [Bool.eq_iff_iff,List.contains_iff_mem];have hg:∀ j,(hj:j<(aC Ae).length)→(aC Ae).getD j []=(aC Ae)[j]:=fun j hj=>by rw [Bw,Av hj];rfl
 constructor
 ·intro h
  obtain ⟨j,hj,e⟩:=Bq.1 h;obtain ⟨J6,Ec⟩:=qR.1 hj;have J6:=lC.1 J6;rw [hg j J6] at e
  have:=cDu hr (Av J6) hi e;rw [← this];exact Ec
 ·intro h
  refine Bq.2 ⟨i,qR.2 ⟨lC.2 hil,h⟩,?_⟩;rw [hg i hil,hie]
theorem cDt(hr:cK 30 Ae Aj){i:Nat}{s:List Int}:((hpM 30 (aC Aj) s).1.any fun x => !x.2.1)=true↔uX (bY 30 (aC Ae) (aC Aj)) i (hpM 30 (aC Aj) s).1≠[]:=by
 constructor
 ·exact fun h=>cIh (bTq _ _ _) i h
 ·intro h
  obtain ⟨n,hn⟩:=List.exists_mem_of_ne_nil _ h;obtain ⟨x,hx,ho,_⟩:=bFv.1 hn;exact List.any_eq_true.2 ⟨x,hx,by rw [ho];rfl⟩
theorem bWr{l:List Int}(h:l.length<2){a b:Int}(ha:a∈l)(hb:b∈l):a=b:=by
 match l,h with
 | [],_=>cases ha
 | [x],_=>rw [List.mem_singleton.1 ha,List.mem_singleton.1 hb]
theorem aPo(hr:cK 30 Ae Aj){u v:List Int}(hu:u.Sublist (cP 30 (aC Aj)))(hv:v.Sublist (cP 30 (aC Aj))){k:Nat}{s:List Int}(hk:(aC Ae)[k]? = some s)
  (hst:aUx (uX (bY 30 (aC Ae) (aC Aj)) k (hpM 30 (aC Aj) s).1) ((hpM 30 (aC Aj) s).1.any fun x=>x.2.1) ((hpM 30 (aC Aj) s).1.any fun x => !x.2.1)=true):kO (fun s=>cI 30 u (aC Aj) (sB s) (sT s)) (aC Ae) s=kO (fun s=>cI 30 v (aC Aj) (sB s) (sT s)) (aC Ae) s:=by
 have pu:=aVk hr hu hk;have pv:=aVk hr hv hk;unfold aUx at hst
 rw [Cc] at hst
 have hl:=of_decide_eq_true hst.2;have hne:((hpM 30 (aC Aj) s).1.any fun x => !x.2.1)≠((hpM 30 (aC Aj) s).1.any fun x=>x.2.1):=by
  have h1:=hst.1;rw [Bool.not_eq_true',beq_eq_false_iff_ne] at h1
  exact h1
 have no:∀ {a:Int},a∈uX (bY 30 (aC Ae) (aC Aj)) k (hpM 30 (aC Aj) s).1→((hpM 30 (aC Aj) s).1.any fun x=>x.2.1)=true→False:=fun ha ho=>by
  have:=(cDt (i:=k) (s:=s) hr).2 (List.ne_nil_of_mem ha);rw [this,ho] at hne
  exact hne rfl
 cases hou:(cI 30 u (aC Aj) (sB s) (sT s)).2 with
 | true =>
  rw [hou,if_pos rfl] at pu
  cases hov:(cI 30 v (aC Aj) (sB s) (sT s)).2 with
  | true =>
   rw [hov,if_pos rfl] at pv
   rw [pu.2,pv.2]
  | false =>
   rw [hov,if_neg Bool.false_ne_true] at pv
   exact (no pv pu.1).elim
 | false =>
  rw [hou,if_neg Bool.false_ne_true] at pu
  cases hov:(cI 30 v (aC Aj) (sB s) (sT s)).2 with
  | true =>
   rw [hov,if_pos rfl] at pv
   exact (no pu pv.1).elim
  | false =>
   rw [hov,if_neg Bool.false_ne_true] at pv
   exact bWr (l:=uX (bY 30 (aC Ae) (aC Aj)) k (hpM 30 (aC Aj) s).1) (by omega) pu pv
end
end
section
def prU(u:List Int)(sk dc:Lqq):List Int:=sk.map fun s=>prP (kO (fun s=>cI 30 u (aC dc) (sB s) (sT s)) (aC sk) s)
theorem bDp(u:List Int)(sk dc:Lqq):(prU u sk dc).length=sk.length:=B9 ..
theorem bRi{u:List Int}{S D:Lqq}(hs:S.Pairwise fun a b=>a.getD 0 0<b.getD 0 0){s:List Int}(hm:s∈S) :
  ∃ j:Nat,lnI (eK 30 u D S) (s.getD 0 0)=(j:Int)∧(eK 30 u D S)[j]? = some [s.getD 0 0,kO (fun s=>cI 30 u D (sB s) (sT s)) S s,(cI 30 u D (sB s) (sT s)).1]:=by
 have hf:=bUn (dl:=30) (oc:=u) (dc:=D) hs hm;obtain ⟨hp,i,hi,e,hj⟩:=List.find?_eq_some_iff_getElem.1 hf;refine ⟨i,?_,by rw [Av hi,e]⟩
 unfold lnI;refine eH (List.findIdx?_eq_some_iff_getElem.2 ⟨hi,?_,fun j hji => ?_⟩)
 ·rw [e];exact beq_self_eq_true _
 ·have:=hj j hji
  simpa using this
theorem aXi{sk dc:Lqq}{u:List Int}(hr:cK 30 sk dc)(hs:(aC sk).Pairwise fun a b=>a.getD 0 0<b.getD 0 0)(base:Nat):FV Tp 17 [.p (.agg (kF 30 sk dc)),.p (.sl (eK 30 u (aC dc) (aC sk)).length ((eK 30 u (aC dc) (aC sk)).flatten.map aA))] base (.tup [.p (aE (prU u sk dc)),.p (blP true)]) []:=by
 have hlen:=hr.len;have hRl:(eK 30 u (aC dc) (aC sk)).length=sk.length:=by rw [yN,eI]
 have L:=aF.range (P:=Tp) (k:=0) (b:=(sub (cd Tryz.f17) dd)) (e := .exit 0) (fun i (o:List Int)=>sQ sk (eK 30 u (aC dc) (aC sk)) i o.length (o.map aA)) (fun o=>sQ sk (eK 30 u (aC dc) (aC sk)) sk.length o.length (o.map aA)) (fun o s=>o++[prP (kO (fun s=>cI 30 u (aC dc) (sB s) (sT s)) (aC sk) s)]) (fun i o=>o.length=i) (by simp) sk (a0:=[]) rfl
  (fun i s o hx hi=>by
   have hm:=Bp hx;have hlt:=aT hx;obtain ⟨j,h1,h2⟩:=bRi (u:=u) (D:=aC dc) hs ((dO sk).mem_iff.2 hm);have hj:=aT h2;obtain ⟨y0,y1,rfl⟩:=len2 (hr.us s hm);exact ⟨by simp [hi],bIo (o':=o++[prP _]) (by omega) hx hr.us aGd (by omega) h1 (by omega) (by omega) h2 ⟨rfl,by omega⟩ (aI (by omega)) rfl (by simp) (by rw [iV];rfl)⟩)
  (fun o _=>bIp (by omega))
 have e:∀ (l:Lqq) (o:List Int),l.foldl (fun o s=>o++[prP (kO (fun s=>cI 30 u (aC dc) (sB s) (sT s)) (aC sk) s)]) o=o++l.map fun s=>prP (kO (fun s=>cI 30 u (aC dc) (sB s) (sT s)) (aC sk) s):=by
  intro l
  induction l with
  | nil=>intro o;simp
  | cons s l ih=>intro o;rw [qT,ih];simp
 rw [e,List.nil_append] at L
 exact cEy L
theorem bRj{sk dc:Lqq}{u:List Int}(hl:sk.length≤6):KC.RaceOK sk.length (prU u sk dc):=by
 refine ⟨bDp u sk dc,fun x hx => ?_,bCr (f:=fun s=>cI 30 u (aC dc) (sB s) (sT s)) (dO sk) (by omega)⟩
 have:=cDs (f:=fun s=>cI 30 u (aC dc) (sB s) (sT s)) (dO sk) x hx
 omega
theorem aRp{Ae Aj:Lqq}(hr:cK 30 Ae Aj)(h:(tR (eK 30 [] (aC Aj) (aC Ae)) (aPc 30 (aC Ae) (aC Aj))).length=Ae.length){u v:List Int}(hu:u.Sublist (cP 30 (aC Aj)))(hv:v.Sublist (cP 30 (aC Aj))):prU u Ae Aj=prU v Ae Aj:=by
 have hR:(eK 30 [] (aC Aj) (aC Ae)).length=Ae.length:=by rw [yN,eI]
 have hall:tR (eK 30 [] (aC Aj) (aC Ae)) (aPc 30 (aC Ae) (aC Aj))=eK 30 [] (aC Aj) (aC Ae):=List.Sublist.eq_of_length List.filter_sublist (h.trans hR.symm);unfold prU;refine xW fun s hs => ?_
 have B3:=(dO Ae).mem_iff.2 hs;obtain ⟨k,hk⟩:=List.mem_iff_getElem?.1 B3;obtain ⟨j,_,hj⟩:=bRi (u:=[]) (D:=aC Aj) (aAq hr) B3;have hm:=Bp hj;rw [← hall] at hm
 have h2:=(qR.1 hm).2;rw [Bool.not_not] at h2
 have h2:(aPc 30 (aC Ae) (aC Aj)).contains (s.getD 0 0)=true:=h2;unfold aPc at h2
 rw [bCs hr _ hk] at h2
 unfold bCh at h2
 rw [aFs hk] at h2
 rw [aPo hr hu hv hk h2]
theorem yA{c:KC.Cup}{s:Nat}:KC.rankM c s=1↔∀ o∈KC.oth s c.sk.toNat,KC.betS c o s=false:=by
 unfold KC.rankM;constructor
 ·intro h o ho
  have h0:(KC.oth s c.sk.toNat).countP (fun x=>KC.betS c x s)=0:=by omega
  have:=List.countP_eq_zero.1 h0 o ho;simpa using this
 ·intro h
  have:(KC.oth s c.sk.toNat).countP (fun x=>KC.betS c x s)=0:=List.countP_eq_zero.2 fun o ho=>by simp [h o ho]
  omega
theorem bDq(c:KC.Cup)(s:Nat):1≤KC.rankM c s:=by unfold KC.rankM;omega
section
variable {c:KC.Cup} {F:List Int} {s:Nat}
theorem cEr(hV:KC.Valid c)(Fv:KC.Valid (KC.withC c [F]))(hs:(s:Int)<c.sk)(hl:c.ra=c.done.length+1)(h:KC.rankM (KC.withC c [F]) s=1):KC.canM c s=true:=by
 unfold KC.canM;rw [beq_iff_eq,yA];intro o ho;obtain ⟨o1,o2⟩:=KC.oth_mem ho;cases hb:KC.betS (KC.withC c (KC.wonM c s)) o s with
 | false=>rfl
 | true =>
  have d1:=CU.dom_other (F:=[F]) hV Fv (x:=s) hs o2;have d2:=CU.dom_won (F:=[F]) hV hs (by simp;omega)
  have:=CU.betS_dom d1 d2 hb;rw [yA.1 h o ho] at this
  cases this
theorem bXo(hV:KC.Valid c)(Fv:KC.Valid (KC.withC c [F]))(hs:(s:Int)<c.sk)(hl:c.ra=c.done.length+1)(h:KC.sureM c s=true):KC.rankM (KC.withC c [F]) s=1:=by
 rw [yA];intro o ho;obtain ⟨o1,o2⟩:=KC.oth_mem ho;have o1:o<c.sk.toNat:=o1;cases hb:KC.betS (KC.withC c [F]) o s with
 | false=>rfl
 | true =>
  have hp:=CU.sure_iff.1 h o o1;have hos:(o:Int)<c.sk:=by omega
  have d1:=CU.dom_won (F:=[F]) hV (x:=o) hos (by simp;omega)
  have d2:=CU.dom_other (F:=[F]) hV Fv (x:=o) (o:=s) hos (Ne.symm o2);have Dr:=CU.betS_dom d1 d2 hb;have hr:KC.rankM (KC.withC c (KC.wonM c o)) s≠1:=fun e=>by
   rw [yA.1 e o ho] at Dr
   cases Dr
  have hge:=bDq (KC.withC c (KC.wonM c o)) s;rw [CU.passes_iff.2 ⟨o2,by omega⟩] at hp
  cases hp
theorem bDr{p:Nat→Bool}{n:Nat}(hs:s<n):(CU.whoM p n).contains (s:Int)=p s:=by
 rw [Bool.eq_iff_iff,List.contains_iff_mem];unfold CU.whoM;simp only [Bq,qR,lC];constructor
 ·rintro ⟨k,⟨_,hk⟩,e⟩
  obtain rfl:k=s:=by omega
  exact hk
 ·intro h;exact ⟨s,⟨hs,h⟩,rfl⟩
theorem bDs(p:Nat→Bool)(n:Nat):(CU.whoM p n).length≤n:=by
 unfold CU.whoM;rw [B9];exact gL (zR _ _) (by simp)
theorem bHt(hV:KC.Valid c)(hs:(s:Int)<c.sk)(hl:c.ra=c.done.length+1):CU.lastE c (s:Int)=0:=by
 have h0:=(KC.valid_iff c).2 hV;have h1:CU.namedE c (s:Int)=0:=by
  unfold CU.namedE;rw [if_neg (by simpa using h0),if_pos (CU.within_iff.2 (by omega))]
 unfold CU.lastE;rw [if_neg (by simpa using h1),if_neg (by omega)]
theorem mT(c:KC.Cup):uni 4 (CU.tableM c):=fun x hx=>by
 obtain ⟨k,_,rfl⟩:=Bq.1 ((CU.table_perm c).mem_iff.1 hx);rfl
end
theorem aKe{v:Int}:∀ {l:List Int},(∀ i j:Nat,l[i]? = some v→l[j]? = some v→i=j)→l.count v≤1
 | [],_=>by simp
 | x::r,h=>by
  by_cases e:x=v
  ·subst e
   have h0:r.count x=0:=List.count_eq_zero.2 fun hm=>by
    obtain ⟨j,hj⟩:=List.mem_iff_getElem?.1 hm;have:=h 0 (j+1) rfl (by simpa using hj)
    omega
   rw [List.count_cons_self,h0];omega
  ·rw [List.count_cons_of_ne (by omega)]
   exact aKe fun i j hi hj=>by
    have:=h (i+1) (j+1) (by simpa using hi) (by simpa using hj)
    omega
section
variable {l2 l3:List Int} {Ae Aj:Lqq} {r4 r7:Int} {dn:Lqq} {y:Nat} {se:Bool} {be:Lqq}
theorem bRk{mz tz:Int}{p:List Int}{pl:Bool}(hV:KC.Valid (tcC Ae r4 r7 dn))(Fv:KC.Valid (tcW Ae r4 r7 dn p))(hl:r4=dn.length+1)(hp:pl=true→CU.RaceN (tcC Ae r4 r7 dn) p) :
  aF Tp 0 aIa (fH l3 Ae Aj r4 r7 dn y se be mz tz p pl 0) (.exit 8) (fH l3 Ae Aj r4 r7 dn y se be mz tz p pl (tcT Ae r4 r7 dn p).length):=by
 have hsk:=hV.sk2;have hsk:(Ae.length:Int)≤12:=hsk;have hlen:(tcT Ae r4 r7 dn p).length=Ae.length:=by rw [CU.table_len];exact aHy _
 refine aF.count (P:=Tp) (k:=0) (b:=aIa) (e := .exit 8) (R:=fH l3 Ae Aj r4 r7 dn y se be mz tz p pl (tcT Ae r4 r7 dn p).length) _ (fun w=>fH l3 Ae Aj r4 r7 dn y se be mz tz p pl w) (fun w hw => ?_) (aXo (by omega)) (by simp)
 obtain ⟨s,hs,hx⟩:=CU.table_row (tcW Ae r4 r7 dn p) hw;have B3:(s:Int)<(tcC Ae r4 r7 dn).sk:=by have:s<(Ae.length:Int).toNat:=hs;show (s:Int)<(Ae.length:Int);omega
 have I8:s<(tcC Ae r4 r7 dn).sk.toNat:=hs;have hE:=bHt hV B3 hl;have hin:inR (((w+1):Nat):Int):=aI (by omega)
 have hn:(tcC Ae r4 r7 dn).sk.toNat≤12:=by show (Ae.length:Int).toNat≤12;omega
 have hcw:(tcA Ae r4 r7 dn).length≤_:=bDs _ _;have hsw:(tcB Ae r4 r7 dn).length≤_:=bDs _ _;have hge:=bDq (tcW Ae r4 r7 dn p) s;have Ev:pl=true→KC.rankM (tcW Ae r4 r7 dn p) s≤(CU.worstM (tcC Ae r4 r7 dn) s).1:=fun e=>CU.worst_ge ⟨hV,by show (dn.length:Int)<r4;omega,I8⟩ (hp e)
 have hx:(tcT Ae r4 r7 dn p)[w]? = some [(s:Int),KC.rankM (tcW Ae r4 r7 dn p) s,KC.totalM (tcW Ae r4 r7 dn p) s,(KC.placesM (tcW Ae r4 r7 dn p) s).getD 1 0]:=hx
 by_cases h1:KC.rankM (tcW Ae r4 r7 dn p) s=1
 ·have hc:(tcA Ae r4 r7 dn).contains (s:Int)=true:=by rw [bDr I8];exact cEr hV Fv B3 hl h1
  cases pl with
  | true=>exact bIi (Bm:=s) (by omega) hx (mT _) rfl hE h1 (by omega) hc (by omega) rfl (Ev rfl) hin rfl
  | false=>exact bIj (Bm:=s) (by omega) hx (mT _) rfl hE h1 (by omega) hc (by omega) rfl hin rfl
 ·have hc:(tcB Ae r4 r7 dn).contains (s:Int)=false:=by
   rw [bDr I8];cases h:KC.sureM (tcC Ae r4 r7 dn) s with
   | false=>rfl
   | true=>exact absurd (bXo hV Fv B3 hl h) h1
  cases pl with
  | true=>exact aXm (Bm:=s) (by omega) hx (mT _) rfl hE h1 (by omega) (by omega) hc rfl (Ev rfl) hin rfl
  | false=>exact aXn (Bm:=s) (by omega) hx (mT _) rfl hE h1 (by omega) (by omega) hc rfl hin rfl
theorem bRl{mz tz:Int}{p:List Int}(hp:p.length≤1000):∃ pl:Bool,(pl=true→CU.NSh p)∧aF Tp 0 aMx (gG l3 Ae Aj r4 r7 dn y se be mz tz p 0 true) (.exit 6) (gG l3 Ae Aj r4 r7 dn y se be mz tz p p.length pl):=by
 obtain ⟨pl,hI,hL⟩:=aF.ex (P:=Tp) (k:=0) (b:=aMx) (e := .exit 6) (fun q (pl:Bool)=>gG l3 Ae Aj r4 r7 dn y se be mz tz p q pl) (fun pl=>gG l3 Ae Aj r4 r7 dn y se be mz tz p p.length pl)
  (fun i pl=>pl=true→∀ j v,j<i→p[j]? = some v→v≠0→fN (fun x=>decide (v=x)) p=(j:Int)) (by simp) p.length
  (fun i pl hi hI=>by
   have hx:p[i]? = some p[i]:=Av hi;have hin:inR (((i+1):Nat):Int):=aI (by omega)
   cases pl with
   | false=>exact ⟨false,(fun h=>by cases h),bIg (by omega) hx rfl hin rfl⟩
   | true =>
    by_cases h0:p[i]=0
    ·refine ⟨true,fun _ j v hj hv Qs => ?_,bIe (by omega) hx rfl h0 hin rfl⟩
     by_cases e:j=i
     ·subst e
      rw [hx] at hv
      exact absurd (Option.some.inj hv ▸ h0) Qs
     ·exact hI rfl j v (by omega) hv Qs
    ·refine ⟨(fN (fun x=>decide (p[i]=x)) p == (i:Int)),fun h j v hj hv Qs => ?_,bIf (by omega) hx rfl h0 hp hin rfl rfl⟩
     by_cases e:j=i
     ·subst e
      rw [hx] at hv
      rw [← Option.some.inj hv];simpa using h
     ·exact hI rfl j v (by omega) hv Qs)
  (fun pl _=>bIh (by omega)) (acc:=true) (fun _ j v hj=>absurd hj (by omega))
 refine ⟨pl,fun h v hv=>aKe fun i j hi hj => ?_,hL⟩
 have a:=hI h i v (aT hi) hi hv;have b:=hI h j v (aT hj) hj hv;omega
theorem cMb{my ty:Int}(hO:(tcO Aj).length≤1000)(hm:0≤my∧my≤100000):∃ (u:List Int) (mz tz:Int),aF Tp 0 aMw (gF l3 Ae Aj r4 r7 dn y se be 0 0 [] my ty) (.exit 4) (gF l3 Ae Aj r4 r7 dn y se be (tcO Aj).length u.length (u.map aA) mz tz)∧u.Sublist (tcO Aj)∧my≤mz∧mz≤my+(tcO Aj).length:=by
 obtain ⟨⟨u,mz,tz⟩,⟨h1,h2,h3⟩,hL⟩:=aF.ex (P:=Tp) (k:=0) (b:=aMw) (e := .exit 4) (fun i (a:List Int × Int × Int)=>gF l3 Ae Aj r4 r7 dn y se be i a.1.length (a.1.map aA) a.2.1 a.2.2) (fun a=>gF l3 Ae Aj r4 r7 dn y se be (tcO Aj).length a.1.length (a.1.map aA) a.2.1 a.2.2)
  (fun i a=>a.1.Sublist ((tcO Aj).take i)∧my≤a.2.1∧a.2.1≤my+i) (by simp) (tcO Aj).length
  (fun i a hi hI=>by
   obtain ⟨i1,i2,i3⟩:=hI;have hx:(tcO Aj)[i]? = some (tcO Aj)[i]:=Av hi;have et:(tcO Aj).take (i+1)=(tcO Aj).take i++[(tcO Aj)[i]]:=by rw [List.take_add_one,hx];rfl
   have hal:=i1.length_le;rw [jV] at hal
   have hin:inR (((i+1):Nat):Int):=aI (by omega)
   by_cases h0:0<(y:Int)
   ·have hb:=nE 2 l3 a.2.1 a.2.2
    have e:aG (2:Int) l3 a.2.1 a.2.2=((aG 2 l3 a.2.1 a.2.2).1,(aG 2 l3 a.2.1 a.2.2).2.1,(aG 2 l3 a.2.1 a.2.2).2.2):=rfl;cases hc:(aG 2 l3 a.2.1 a.2.2).1 with
    | true =>
     rw [hc] at e
     exact ⟨(a.1++[(tcO Aj)[i]],(aG 2 l3 a.2.1 a.2.2).2.1,(aG 2 l3 a.2.1 a.2.2).2.2),⟨by rw [et];exact i1.append (List.Sublist.refl _),by dsimp only;omega,by dsimp only;omega⟩,bIa (by omega) hx h0 (by omega) e rfl ⟨rfl,by omega⟩ hin rfl (by simp) (by simp)⟩
    | false =>
     rw [hc] at e
     exact ⟨(a.1,(aG 2 l3 a.2.1 a.2.2).2.1,(aG 2 l3 a.2.1 a.2.2).2.2),⟨by rw [et];exact i1.trans (List.sublist_append_left _ _),by dsimp only;omega,by dsimp only;omega⟩,bIb (by omega) hx h0 (by omega) e rfl hin rfl⟩
   ·exact ⟨a,⟨by rw [et];exact i1.trans (List.sublist_append_left _ _),i2,by omega⟩,bIc (by omega) hx (by omega) hin rfl⟩)
  (fun a _=>bId (by omega)) (acc:=([],my,ty)) ⟨by simp,by simp,by simp⟩
 rw [List.take_length] at h1
 exact ⟨u,mz,tz,hL,h1,h2,h3⟩
theorem bRm(hr:cK 30 Ae Aj)(hsl:Ae.length≤6)(hV:KC.Valid (tcC Ae r4 r7 dn))(hl:r4=dn.length+1)(hst:se=true→∀ u v:List Int,u.Sublist (tcO Aj)→v.Sublist (tcO Aj)→prU u Ae Aj=prU v Ae Aj){my ty:Int}(hy:y<5)(hm:0≤my∧my≤1000*y)
  (hb:0<y→∃ v:List Int,v.Sublist (tcO Aj)∧be=tcT Ae r4 r7 dn (prU v Ae Aj)) :
  ∃ (Ls:Lqq) (Kh Cr:Int),aB Tp 0 aMv (gD l3 Ae Aj r4 r7 dn y se be my ty) .normal (gD l3 Ae Aj r4 r7 dn (y+1) se Ls Kh Cr)∧(0≤Kh∧Kh≤1000*((y:Int)+1))∧∃ v:List Int,v.Sublist (tcO Aj)∧Ls=tcT Ae r4 r7 dn (prU v Ae Aj):=by
 have hlen:=hr.len;have hd:=kK hr;have hO:(tcO Aj).length≤1000:=aKu (dl:=30) hd;obtain ⟨u,mz,tz,Eu,hu,b1,b2⟩:=cMb (l3:=l3) (Ae:=Ae) (r4:=r4) (r7:=r7) (dn:=dn) (y:=y) (se:=se) (be:=be) (ty:=ty) hO (show 0≤my∧my≤100000 by omega)
 have hul:=hu.length_le;have hR:=bRj (dc:=Aj) (u:=u) hsl;have Fv:KC.Valid (tcW Ae r4 r7 dn (prU u Ae Aj)):=KC.valid_race hV (by show (dn.length:Int)<r4;omega) (by rw [hR.len]) hR.bd hR.cl
 obtain ⟨pl,hpl,Rv⟩:=bRl (l3:=l3) (Ae:=Ae) (Aj:=Aj) (r4:=r4) (r7:=r7) (dn:=dn) (y:=y) (se:=se) (be:=be) (mz:=mz) (tz:=tz) (p:=prU u Ae Aj) (by rw [bDp];omega)
 have Rw:=bRk (l3:=l3) (Aj:=Aj) (y:=y) (se:=se) (be:=be) (mz:=mz) (tz:=tz) (pl:=pl) hV Fv hl (fun e=>⟨by show KC.RaceOK (Ae.length:Int).toNat _;rw [aHy];exact hR,hpl e⟩)
 have htl:(tcT Ae r4 r7 dn (prU u Ae Aj)).length=Ae.length:=by rw [CU.table_len];exact aHy _
 have hin:inR (((y+1):Nat):Int):=aI (by omega)
 have hs:=aAq hr;have ho:=bWe (dl:=30) hd.up hu;refine ⟨_,mz,tz,?_,by omega,u,hu,rfl⟩
 rcases Nat.eq_zero_or_pos y with h0 | h0
 ·exact bHy (by omega) Eu hr (by omega) (by omega) ho (aXi hr hs) hV Fv (by rw [htl]) Rv Rw (by omega) hin rfl
 ·cases se with
  | false=>exact bHx (by omega) Eu hr (by omega) (by omega) ho (aXi hr hs) hV Fv (by rw [htl]) Rv Rw (by omega) rfl hin rfl
  | true =>
   obtain ⟨v,hv,e⟩:=hb h0;exact bHw (by omega) Eu hr (by omega) (by omega) ho (aXi hr hs) hV Fv (by rw [htl]) Rv Rw (by omega) rfl (by omega) (mT _) (by rw [e];exact mT _) (decide_eq_true (by rw [e,hst rfl u v hu hv])) hin rfl
theorem aRq(hr:cK 30 Ae Aj)(hsl:Ae.length≤6)(hV:KC.Valid (tcC Ae r4 r7 dn))(hl:r4=dn.length+1)(hst:se=true→∀ u v:List Int,u.Sublist (tcO Aj)→v.Sublist (tcO Aj)→prU u Ae Aj=prU v Ae Aj) :
  ∃ (Ls:Lqq) (Kh Cr:Int),aF Tp 0 aMv (gD l3 Ae Aj r4 r7 dn 0 se [] 0 17) (.exit 2) (gD l3 Ae Aj r4 r7 dn 5 se Ls Kh Cr):=by
 obtain ⟨⟨be,my,ty⟩,_,hL⟩:=aF.ex (P:=Tp) (k:=0) (b:=aMv) (e := .exit 2) (fun y (a:Lqq × Int × Int)=>gD l3 Ae Aj r4 r7 dn y se a.1 a.2.1 a.2.2) (fun a=>gD l3 Ae Aj r4 r7 dn 5 se a.1 a.2.1 a.2.2)
  (fun y a=>(0≤a.2.1∧a.2.1≤1000*y)∧(0<y→∃ v:List Int,v.Sublist (tcO Aj)∧a.1=tcT Ae r4 r7 dn (prU v Ae Aj))) (by simp) 5
  (fun y a hy hI=>by
   obtain ⟨Ls,Kh,Cr,h1,h2,h3⟩:=bRm (l3:=l3) (ty:=a.2.2) hr hsl hV hl hst hy hI.1 hI.2;exact ⟨(Ls,Kh,Cr),⟨by dsimp only;omega,fun _=>h3⟩,h1⟩)
  (fun a _=>bHz (by omega)) (acc:=([],0,17)) ⟨by simp,fun h=>absurd h (by omega)⟩
 exact ⟨be,my,ty,hL⟩
end
theorem bXp{n:Nat}{r4 r7:Int}{Ae:Lqq}(h1:1≤Ae.length∧Ae.length≤6)(h2:1≤r4∧r4≤5)(h3:1≤r7∧r7≤r4):KC.Valid (tcC Ae r4 r7 []) :=
 ⟨by show (1:Int)≤(Ae.length:Int);omega,by show (Ae.length:Int)≤12;omega,h2.1,by show r4≤20;omega,h3.1,h3.2,by show 1≤ptT.length;decide,by show ptT.length≤60;decide,by show ((0:Nat):Int)≤r4;omega,fun r hr=>by simp at hr,by show ∀ x∈ptT,0≤x∧x≤1000;decide,fun r hr=>by simp at hr,by show KC.fallsB ptT=true;decide +kernel,rfl⟩
theorem bRn{r4 r7:Int}{Ae dn:Lqq}(h1:1≤Ae.length∧Ae.length≤6)(h2:1≤r4∧r4≤5)(h3:1≤r7∧r7≤r4)(hd:(dn.length:Int)≤r4)(h:∀ g∈dn,KC.RaceOK Ae.length g):KC.Valid (tcC Ae r4 r7 dn):=by
 have:=KC.valid_with (f:=dn) (bXp (n:=0) h1 h2 h3) (by show (0+dn.length:Int)≤r4;omega) (fun r hr=>by show (r.length:Int)=(Ae.length:Int);rw [(h r hr).len]) (fun r hr=>(h r hr).bd)
  (by
   rw [List.any_eq_false];intro g hg;rw [(KC.clash_iff g fun x hx=>((h g hg).bd x hx).1).2 (h g hg).cl]
   exact Bool.false_ne_true)
 exact this
theorem cMc(l1 l2 l3:List Int){base:Nat}:FV Tp 3 [.p (.sl l1.length (l1.map bW)),.p (.sl l2.length (l2.map bW)),.p (.sl l3.length (l3.map bW))] base (.p (blP true)) []:=by
 have M:=aRr (ns:=6) (nd:=14) (l:=l1) (nx:=0) (st:=17) (by decide) (by decide) (by decide)
 rcases hmd:bIq 6 14 l1 0 17 with ⟨Ae,Aj,m2,t3⟩
 rw [hmd] at M
 obtain ⟨hr,Rx,_⟩:=M;dsimp only at hr Rx
 have hlen:=hr.len;have B1:=uG 1 5 l2 0 17
 rcases B5:lD 1 5 l2 0 17 with ⟨r4,m5,t6⟩
 rw [B5] at B1
 dsimp only at B1
 have B2:=uG 1 r4 l2 m5 t6
 rcases Dr:lD 1 r4 l2 m5 t6 with ⟨r7,m8,t9⟩
 rw [Dr] at B2
 dsimp only at B2
 obtain ⟨⟨dn,mx,tt⟩,⟨d1,d2,_,_⟩,Qt⟩:=aF.ex (P:=Tp) (k:=0) (b:=bRp) (e := .exit 0) (fun i (a:Lqq × Int × Int)=>oM l2 l3 Ae Aj r4 r7 i a.1.length (a.1.map aE) a.2.1 a.2.2) (fun a=>oM l2 l3 Ae Aj r4 r7 (r4-1).toNat a.1.length (a.1.map aE) a.2.1 a.2.2)
  (fun i a=>a.1.length=i∧(∀ g∈a.1,KC.RaceOK Ae.length g)∧0≤a.2.1∧a.2.1≤100+100*i) (by simp) (r4-1).toNat
  (fun i a hi hI=>by
   obtain ⟨i1,i2,i3,i4⟩:=hI;obtain ⟨_,q1,q2,q3⟩:=CU.racedM_spec (Ae.length:Int) true l2 a.2.1 a.2.2 (by omega) (by omega)
   rw [aHy] at q1
   rcases hR:CU.racedM (Ae.length:Int) true l2 a.2.1 a.2.2 with ⟨g0,m0,t0⟩
   rw [hR] at q1 q2 q3
   dsimp only at q1 q2 q3
   exact ⟨(a.1++[g0],m0,t0),⟨by simp [i1],fun g hg=>by
    rcases fV.1 hg with h | h
    ·exact i2 g h
    ·rw [List.mem_singleton.1 h];exact q1,by dsimp only;omega,by dsimp only;omega⟩,bHu (by omega) (by omega) (by omega) hR ⟨rfl,by omega⟩ (aI (by omega)) rfl (by simp) (by simp)⟩)
  (fun a _=>bHv (by omega)) (acc:=([],m8,t9)) ⟨rfl,fun g hg=>by simp at hg,by dsimp only;omega,by dsimp only;omega⟩
 dsimp only at d1 d2
 have hV:=bRn (r4:=r4) (r7:=r7) (by omega) (by omega) (by omega) (by omega) d2
 have hl:r4=dn.length+1:=by omega
 by_cases h8:(tcO Aj).length≤8
 ·have hRl:(eK 30 [] (aC Aj) (aC Ae)).length=Ae.length:=by rw [yN,eI]
  have hst:(((tR (eK 30 [] (aC Aj) (aC Ae)) (aPc 30 (aC Ae) (aC Aj))).length:Int) == (Ae.length:Int))=true→∀ u v:List Int,u.Sublist (tcO Aj)→v.Sublist (tcO Aj)→prU u Ae Aj=prU v Ae Aj:=fun h u v hu hv=>aRp hr (by have:=eq_of_beq h;omega) hu hv
  obtain ⟨Ls,Kh,Cr,hL⟩:=aRq (l3:=l3) hr (by omega) hV hl hst
  have hso:(aPc 30 (aC Ae) (aC Aj)).length≤1000:=by
   unfold aPc;rw [B9];refine gL (zR _ _) ?_;rw [aRl,eI];omega
  exact cEs (by omega) (by omega) (by omega) hmd (by omega) (by omega) B5 (by omega) (by omega) Dr (by show _∧_;omega) Qt hV hr (by omega) (by omega) (cLg hr (by omega) h8) hso hL
 ·obtain ⟨Ls,Kh,Cr,hL⟩:=aRq (l3:=l3) (se:=false) hr (by omega) hV hl (fun h=>by cases h)
  exact cEt (by omega) (by omega) (by omega) hmd (by omega) (by omega) B5 (by omega) (by omega) Dr (by show _∧_;omega) Qt hV hr (by omega) hL
end
end KV
end Go.Proofs
