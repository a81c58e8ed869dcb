/- Parts of the proof of JPursued: laws of walks, contracts of functions, plain models. No condition. -/
import Derived.Test.YtaghkcgipomdjaaGreatPJPursuedD
set_option linter.unusedVariables false
set_option linter.unusedSimpArgs false
set_option maxRecDepth 100000
namespace Go.Proofs
namespace KV
open Tryz
section
variable {En:Bool}{r6 y0 y1 y2 y3 y4 y5 num n102 Aa Ab:Int}{T104:Lqb}{x:List Int}{base:Nat}
variable {dl:Int}{sk dc:Lqq}

noncomputable abbrev aQt:Code:=pS (cd Tryz.f71) 9 [0,1,0,1,0,0]
noncomputable abbrev bGx:Code:=pS (cd Tryz.f71) 9 [0,1,0]
noncomputable abbrev aQu:Code:=pS (cd Tryz.f71) 9 [0,1,0,1]
theorem aCo:((0:Int) != 0)=false:=by first | decide | simp
def jI(dl:Int)(sk dc:Lqq)(r:Int)(x:List Int):Int × Bool:=fF dl x (aB dc) (((aB sk).getD (bO (fun x=>decide (r=x)) (aM (aB sk) 0)).toNat []).getD 0 0) (((aB sk).getD (bO (fun x=>decide (r=x)) (aM (aB sk) 0)).toNat []).getD 1 0)
def pC(dl:Int)(sk:Lqq)(dc:Lqq)(num:Int)(r6:Int)  : St:=⟨fr 102 [(3,(.rp [(aA num)] 0)),(4,(.ptr 0 0)),(5,(.ptr 1 0)),(6,(.rp [(PV.rp (aF dl (aB sk) (aB dc)) 0)] 0)),(9,(.rp [(aA r6)] 0)),(10,(.rp [(aA (bO (fun x=>decide (r6=x)) (aM (aB sk) 0)))] 0)),(53,(.fn 181 [] [(.rp [(aH ((aV dl (aB dc)).filter fun n => !(n == num)))] 0)]))],[some (.box 4 [(pB false)]),some (.box 36 [(pI 0)])]⟩
def aCp(dl:Int)(sk:Lqq)(dc:Lqq)(num:Int)(r6:Int):St:=⟨fr 102 [(3,(.rp [(aA num)] 0)),(4,(.ptr 0 0)),(5,(.ptr 1 0)),(6,(.rp [(PV.rp (aF dl (aB sk) (aB dc)) 0)] 0)),(9,(.rp [(aA r6)] 0)),(10,(.rp [(aA (bO (fun x=>decide (r6=x)) (aM (aB sk) 0)))] 0)),(53,(.fn 181 [] [(.rp [(aH ((aV dl (aB dc)).filter fun n => !(n == num)))] 0)]))],[some (.box 4 [(pB false)]),some (.box 36 [(pI 0)])]⟩
def aQv(dl:Int)(sk:Lqq)(dc:Lqq)(num:Int)(r6:Int):St:=⟨fr 102 [(3,(.rp [(aA num)] 0)),(4,(.ptr 0 0)),(5,(.ptr 1 0)),(6,(.rp [(PV.rp (aF dl (aB sk) (aB dc)) 0)] 0)),(9,(.rp [(aA r6)] 0)),(10,(.rp [(aA (bO (fun x=>decide (r6=x)) (aM (aB sk) 0)))] 0)),(53,(.fn 181 [] [(.rp [(aH ((aV dl (aB dc)).filter fun n => !(n == num)))] 0)]))],[some (.box 4 [(.kb true)]),some (.box 36 [(pI 0)])]⟩
section
variable(h0:cT dl sk dc)(h1:bV (aB dc))(h2:(aV dl (aB dc)).length≤1000)
include h0 h1 h2
theorem bUv(h3:((aV dl (aB dc)).contains num)=false):FV Tp 71 [(.p (.agg (dQ dl sk dc))),(pI num)] base (.tup [(pB false),(pI 1)]) []:=have k1:=fk 4 (kF dl sk dc h0) rfl;have k2:=fk 3 (qV (dl:=dl) (sk:=(aB sk)) (dc:=(aB dc)) h1) rfl;FV.fi func71 [k1.o,bF,.g 1 ⟨[],[0,2,3],[4,1],[]⟩,.x (PV.rp (aF dl (aB sk) (aB dc)) 0),k2.o,.x (aA num),.c (pB ((aV dl (aB dc)).contains num)) [],bT] (gc (cE h3) (gt (FC Tp 22 [(.own 3),(pI num)] [(3,(.row 3 ((aV dl (aB dc)).length) ((aV dl (aB dc)).map aA)))] 4 (pB ((aV dl (aB dc)).contains num)) []) (fv (oS (aV dl (aB dc)) num h2)) (gr (aA num) (gc k2 (gr (PV.rp (aF dl (aB sk) (aB dc)) 0) (gc aCo (gc k1 gn)))))))
theorem bUw(h3:((aV dl (aB dc)).contains num)=true)(h4:(8:Int)<((aV dl (aB dc)).length:Int)):FV Tp 71 [(.p (.agg (dQ dl sk dc))),(pI num)] base (.tup [(pB false),(pI 10)]) []:=have k1:=fk 4 (kF dl sk dc h0) rfl;have k2:=fk 3 (qV (dl:=dl) (sk:=(aB sk)) (dc:=(aB dc)) h1) rfl;FV.fi func71 [k1.o,bF,.g 1 ⟨[],[0,2,3],[4,1],[]⟩,.x (PV.rp (aF dl (aB sk) (aB dc)) 0),k2.o,.x (aA num),.c (pB ((aV dl (aB dc)).contains num)) [],bF,bT] (gc (bU h4) (gc (aW h3) (gt (FC Tp 22 [(.own 3),(pI num)] [(3,(.row 3 ((aV dl (aB dc)).length) ((aV dl (aB dc)).map aA)))] 4 (pB ((aV dl (aB dc)).contains num)) []) (fv (oS (aV dl (aB dc)) num h2)) (gr (aA num) (gc k2 (gr (PV.rp (aF dl (aB sk) (aB dc)) 0) (gc aCo (gc k1 gn))))))))
end
section
variable(h0:cT dl sk dc)(h1:bV (aB dc))(h2:(aV dl (aB dc)).length≤1000)(h3:((aV dl (aB dc)).contains num)=true)(h4:((aV dl (aB dc)).length:Int)≤8)(h5:bQ .i64 (atF (aB dc).reverse) (.int .i64 num))(h6:(cW (atF (aB dc).reverse) (.int .i64 num))=true)(h7:eP (atF (aB dc).reverse) (.int .i64 num)=some (dcE y0 y1 y2 y3 y4 y5))(h8:bFu dl (aB sk) (aB dc) [y0,y1,y2,y3,y4,y5] r6)(h9:uni 2 (aB sk)∧(aB sk).length≤1000)(A5:(aM (aB sk) 0).length≤1000)
include h0 h1 h2 h3 h4 h5 h6 h7 h8 h9 A5
theorem bUx(B3:(bO (fun x=>decide (r6=x)) (aM (aB sk) 0))<0):FV Tp 71 [(.p (.agg (dQ dl sk dc))),(pI num)] base (.tup [(pB false),(pI 0)]) []:=have k1:=fk 4 (kF dl sk dc h0) rfl;have k2:=fk 3 (qV (dl:=dl) (sk:=(aB sk)) (dc:=(aB dc)) h1) rfl;have k3:=fk 13 (mT dl (aB sk) (aB dc) h9) rfl;FV.fi func71 [k1.o,bF,.g 1 ⟨[],[0,2,3],[4,1],[]⟩,.x (PV.rp (aF dl (aB sk) (aB dc)) 0),k2.o,.x (aA num),.c (pB ((aV dl (aB dc)).contains num)) [],bF,bF,.x (PV.rp (aF dl (aB sk) (aB dc)) 0),.x (PV.rp (aF dl (aB sk) (aB dc)) 0),.x (.mp (atF (aB dc).reverse)),.x (aA num),bT,.x (dcE y0 y1 y2 y3 y4 y5),.c (pI r6) [],.x (PV.rp (aF dl (aB sk) (aB dc)) 0),.x (.agg (dQ dl (aB sk) (aB dc))),k3.o,.c (pI (bO (fun x=>decide (r6=x)) (aM (aB sk) 0))) [],.g 2 ⟨[],[0,1,2,3,13],[12,29],[]⟩,.x (aA (bO (fun x=>decide (r6=x)) (aM (aB sk) 0))),bT] (gc (bU B3) (gr (aA (bO (fun x=>decide (r6=x)) (aM (aB sk) 0))) (gt (FC Tp 20 [(.own 13),(pI r6)] [(13,(.row 3 ((aM (aB sk) 0).length) ((aM (aB sk) 0).map aA)))] 21 (pI (bO (fun x=>decide (r6=x)) (aM (aB sk) 0))) []) (fv (aBs (aM (aB sk) 0) r6 A5)) (gc k3 (gr (.agg (dQ dl (aB sk) (aB dc))) (gt (0+3≤(aF dl (aB sk) (aB dc)).length) (by first | decide | simp) (gr (PV.rp (aF dl (aB sk) (aB dc)) 0) (gc (fk 4 (h8 _) rfl) (gc h7 (gc h6 (gc h5 (gr (aA num) (gr (.mp (atF (aB dc).reverse)) (gr (PV.rp (aF dl (aB sk) (aB dc)) 0) (gr (PV.rp (aF dl (aB sk) (aB dc)) 0) (gc (aS h4) (gc (aW h3) (gt (FC Tp 22 [(.own 3),(pI num)] [(3,(.row 3 ((aV dl (aB dc)).length) ((aV dl (aB dc)).map aA)))] 4 (pB ((aV dl (aB dc)).contains num)) []) (fv (oS (aV dl (aB dc)) num h2)) (gr (aA num) (gc k2 (gr (PV.rp (aF dl (aB sk) (aB dc)) 0) (gc aCo (gc k1 gn)))))))))))))))))))))))
theorem bUy(B3:(0:Int)≤(bO (fun x=>decide (r6=x)) (aM (aB sk) 0)))(F8:aC Tp 0 bGx (aCp dl sk dc num r6) .normal (pC dl sk dc num r6 )):FV Tp 71 [(.p (.agg (dQ dl sk dc))),(pI num)] base (.tup [(pB false),(pI 0)]) []:=have k1:=fk 4 (kF dl sk dc h0) rfl;have k2:=fk 3 (qV (dl:=dl) (sk:=(aB sk)) (dc:=(aB dc)) h1) rfl;have k3:=fk 13 (mT dl (aB sk) (aB dc) h9) rfl;have k4:=fk 5 (aPy (q:=((aV dl (aB dc)).filter fun n => !(n == num)))) rfl;FV.fi func71 [k1.o,bF,.g 1 ⟨[],[0,2,3],[4,1],[]⟩,.x (PV.rp (aF dl (aB sk) (aB dc)) 0),k2.o,.x (aA num),.c (pB ((aV dl (aB dc)).contains num)) [],bF,bF,.x (PV.rp (aF dl (aB sk) (aB dc)) 0),.x (PV.rp (aF dl (aB sk) (aB dc)) 0),.x (.mp (atF (aB dc).reverse)),.x (aA num),bT,.x (dcE y0 y1 y2 y3 y4 y5),.c (pI r6) [],.x (PV.rp (aF dl (aB sk) (aB dc)) 0),.x (.agg (dQ dl (aB sk) (aB dc))),k3.o,.c (pI (bO (fun x=>decide (r6=x)) (aM (aB sk) 0))) [],.g 2 ⟨[],[0,1,2,3,13],[12,29],[]⟩,.x (aA (bO (fun x=>decide (r6=x)) (aM (aB sk) 0))),bF,.c (.p (aH ((aV dl (aB dc)).filter fun n => !(n == num)))) [(3,.dead)],k4.o,F8.k 1 (gI bf [1,2])] (gc F8 (gc k4 (gt (FC Tp 137 [(.own 3),(.fn 138 [] [(.rp [(aA num)] 0)])] [(3,(.row 3 ((aV dl (aB dc)).length) ((aV dl (aB dc)).map aA)))] 5 (.p (aH ((aV dl (aB dc)).filter fun n => !(n == num)))) [(3,.dead)]) (FMM.fc (ids:=[3]) (bFs (l:=(aV dl (aB dc))) (m:=num) h2 (fun _ _=>rfl)) (by kernel_rfl)) (gc (aS B3) (gr (aA (bO (fun x=>decide (r6=x)) (aM (aB sk) 0))) (gt (FC Tp 20 [(.own 13),(pI r6)] [(13,(.row 3 ((aM (aB sk) 0).length) ((aM (aB sk) 0).map aA)))] 21 (pI (bO (fun x=>decide (r6=x)) (aM (aB sk) 0))) []) (fv (aBs (aM (aB sk) 0) r6 A5)) (gc k3 (gr (.agg (dQ dl (aB sk) (aB dc))) (gt (0+3≤(aF dl (aB sk) (aB dc)).length) (by first | decide | simp) (gr (PV.rp (aF dl (aB sk) (aB dc)) 0) (gc (fk 4 (h8 _) rfl) (gc h7 (gc h6 (gc h5 (gr (aA num) (gr (.mp (atF (aB dc).reverse)) (gr (PV.rp (aF dl (aB sk) (aB dc)) 0) (gr (PV.rp (aF dl (aB sk) (aB dc)) 0) (gc (aS h4) (gc (aW h3) (gt (FC Tp 22 [(.own 3),(pI num)] [(3,(.row 3 ((aV dl (aB dc)).length) ((aV dl (aB dc)).map aA)))] 4 (pB ((aV dl (aB dc)).contains num)) []) (fv (oS (aV dl (aB dc)) num h2)) (gr (aA num) (gc k2 (gr (PV.rp (aF dl (aB sk) (aB dc)) 0) (gc aCo (gc k1 gn))))))))))))))))))))))))))
theorem bUz(B3:(0:Int)≤(bO (fun x=>decide (r6=x)) (aM (aB sk) 0)))(F8:aC Tp 0 bGx (aCp dl sk dc num r6) .ret (aQv dl sk dc num r6)):FV Tp 71 [(.p (.agg (dQ dl sk dc))),(pI num)] base (.tup [(pB true),(pI 0)]) []:=have k1:=fk 4 (kF dl sk dc h0) rfl;have k2:=fk 3 (qV (dl:=dl) (sk:=(aB sk)) (dc:=(aB dc)) h1) rfl;have k3:=fk 13 (mT dl (aB sk) (aB dc) h9) rfl;have k4:=fk 5 (aPy (q:=((aV dl (aB dc)).filter fun n => !(n == num)))) rfl;FV.fi func71 [k1.o,bF,.g 1 ⟨[],[0,2,3],[4,1],[]⟩,.x (PV.rp (aF dl (aB sk) (aB dc)) 0),k2.o,.x (aA num),.c (pB ((aV dl (aB dc)).contains num)) [],bF,bF,.x (PV.rp (aF dl (aB sk) (aB dc)) 0),.x (PV.rp (aF dl (aB sk) (aB dc)) 0),.x (.mp (atF (aB dc).reverse)),.x (aA num),bT,.x (dcE y0 y1 y2 y3 y4 y5),.c (pI r6) [],.x (PV.rp (aF dl (aB sk) (aB dc)) 0),.x (.agg (dQ dl (aB sk) (aB dc))),k3.o,.c (pI (bO (fun x=>decide (r6=x)) (aM (aB sk) 0))) [],.g 2 ⟨[],[0,1,2,3,13],[12,29],[]⟩,.x (aA (bO (fun x=>decide (r6=x)) (aM (aB sk) 0))),bF,.c (.p (aH ((aV dl (aB dc)).filter fun n => !(n == num)))) [(3,.dead)],k4.o,F8.k 1 (gI bf [1,2])] (gc F8 (gc k4 (gt (FC Tp 137 [(.own 3),(.fn 138 [] [(.rp [(aA num)] 0)])] [(3,(.row 3 ((aV dl (aB dc)).length) ((aV dl (aB dc)).map aA)))] 5 (.p (aH ((aV dl (aB dc)).filter fun n => !(n == num)))) [(3,.dead)]) (FMM.fc (ids:=[3]) (bFs (l:=(aV dl (aB dc))) (m:=num) h2 (fun _ _=>rfl)) (by kernel_rfl)) (gc (aS B3) (gr (aA (bO (fun x=>decide (r6=x)) (aM (aB sk) 0))) (gt (FC Tp 20 [(.own 13),(pI r6)] [(13,(.row 3 ((aM (aB sk) 0).length) ((aM (aB sk) 0).map aA)))] 21 (pI (bO (fun x=>decide (r6=x)) (aM (aB sk) 0))) []) (fv (aBs (aM (aB sk) 0) r6 A5)) (gc k3 (gr (.agg (dQ dl (aB sk) (aB dc))) (gt (0+3≤(aF dl (aB sk) (aB dc)).length) (by first | decide | simp) (gr (PV.rp (aF dl (aB sk) (aB dc)) 0) (gc (fk 4 (h8 _) rfl) (gc h7 (gc h6 (gc h5 (gr (aA num) (gr (.mp (atF (aB dc).reverse)) (gr (PV.rp (aF dl (aB sk) (aB dc)) 0) (gr (PV.rp (aF dl (aB sk) (aB dc)) 0) (gc (aS h4) (gc (aW h3) (gt (FC Tp 22 [(.own 3),(pI num)] [(3,(.row 3 ((aV dl (aB dc)).length) ((aV dl (aB dc)).map aA)))] 4 (pB ((aV dl (aB dc)).contains num)) []) (fv (oS (aV dl (aB dc)) num h2)) (gr (aA num) (gc k2 (gr (PV.rp (aF dl (aB sk) (aB dc)) 0) (gc aCo (gc k1 gn))))))))))))))))))))))))))
end
def rH(dl:Int)(sk:Lqq)(dc:Lqq)(num:Int)(r6:Int)(x:List Int)  : St:=⟨fr 102 [(3,(.rp [(aA num)] 0)),(4,(.ptr 0 0)),(5,(.ptr 1 0)),(6,(.rp [(PV.rp (aF dl (aB sk) (aB dc)) 0)] 0)),(9,(.rp [(aA r6)] 0)),(10,(.rp [(aA (bO (fun x=>decide (r6=x)) (aM (aB sk) 0)))] 0)),(11,(.own 2)),(53,(.fn 181 [] [(.rp [(aH ((aV dl (aB dc)).filter fun n => !(n == num)))] 0)])),(54,(.own 2))],[some (.box 4 [(pB false)]),some (.box 36 [(pI 0)]),some (.row 3 x.length (x.map aA))]⟩
def aIg(dl:Int)(sk:Lqq)(dc:Lqq)(num:Int)(r6:Int)  : St:=⟨fr 102 [],[some (.box 4 [(.kb true)]),some (.box 36 [(pI 0)]),some .dead]⟩
section
variable(hl0:aC Tp 3 aQt (rH dl sk dc num r6 x ) .normal (cQ (rH dl sk dc num r6 x ) [(12,(pI ((jI dl sk dc r6 x).1))),(13,(pB ((jI dl sk dc r6 x).2)))]))(h1:(aB sk)[(bO (fun x=>decide (r6=x)) (aM (aB sk) 0)).toNat]? = some [Aa,Ab])(h2:0≤(bO (fun x=>decide (r6=x)) (aM (aB sk) 0)))(h3:uni 2 (aB sk))(h4:[(aA num)].length=1*1∧x.length+1≤1000000)(h5:aDg dl (aB sk) (aB dc) (.sl (x.length+1) ((x.map aA)++[(aA num)])) [Aa,Ab] n102 En ([]:Lqb) T104)(h6:dM [(aA r6),(aA 0),(aA ((jI dl sk dc r6 x).1))] [(0,3,true),(1,3,true),(2,3,true)]=true∧dM [(aA r6),(aA 0),(aA n102)] [(0,3,true),(1,3,true),(2,3,true)]=true)
include hl0 h1 h2 h3 h4 h5 h6
theorem bBo(h7:(mM [(aA r6),(aA 0),(aA ((jI dl sk dc r6 x).1))] [(aA r6),(aA 0),(aA n102)] [(0,3,true),(1,3,true),(2,3,true)])=false):aC Tp 3 aQu (rfO (pC dl sk dc num r6 ) 54 11 x) .ret (aIg dl sk dc num r6 ):=have k1:=mq br 13 h5;aC.fi (gZ [0,102]) [hl0.k 2 (gZ ao),.x (PV.rp (aF dl (aB sk) (aB dc)) 0),.x (PV.rp (aF dl (aB sk) (aB dc)) 0),.x (.sl ((aB sk).length) ((aB sk).flatten.map aA)),.x (aA (bO (fun x=>decide (r6=x)) (aM (aB sk) 0))),.x (.agg [(aA Aa),(aA Ab)]),.x (PV.rp (aF dl (aB sk) (aB dc)) 0),.x (aA num),.c (.agg [(.fn 100 [] [(.ptr 9 0),(.ptr 10 0),(.ptr 5 0),(.ptr 7 0)]),(.fn 102 [] [(.ptr 11 0)]),(.fn 103 [] [(.ptr 7 0),(.ptr 6 0)]),(.fn 106 [] [(.ptr 7 0)]),(.fn 104 [] [(.ptr 11 0)])]) [(4,.dead),(5,(.box 106 [(.rp (aF dl (aB sk) (aB dc)) 0)])),(6,(.box 31 [(.p (.sl (x.length+1) ((x.map aA)++[(aA num)])))])),(7,(.box 119 [(.fn 100 [] [(.ptr 9 0),(.ptr 10 0),(.ptr 5 0),(.ptr 7 0)]),(.fn 102 [] [(.ptr 11 0)]),(.fn 103 [] [(.ptr 7 0),(.ptr 6 0)]),(.fn 106 [] [(.ptr 7 0)]),(.fn 104 [] [(.ptr 11 0)])])),(8,(.mp (aK ([]:Lqb)) 0)),(9,(.box 183 [(.mp 8)])),(10,(.box 115 [(.fn 98 [(.rp (aF dl (aB sk) (aB dc)) 0)] [])])),(11,(.box 185 [(.fn 99 [] [(.ptr 5 0),(.ptr 7 0)])]))],k1.o,.x (aA r6),.x (aA r6),bT,bT,bT,bT] (Ba (cE h7) (gc h6 (gr (aA r6) (gr (aA r6) (gc k1 (gt (FC Tp 54 [(.rp (aF dl (aB sk) (aB dc)) 0),(.own 4)] [(4,(.row 3 (x.length+1) ((x.map aA)++[(aA num)])))] 5 (.agg [(.fn 100 [] [(.ptr 9 0),(.ptr 10 0),(.ptr 5 0),(.ptr 7 0)]),(.fn 102 [] [(.ptr 11 0)]),(.fn 103 [] [(.ptr 7 0),(.ptr 6 0)]),(.fn 106 [] [(.ptr 7 0)]),(.fn 104 [] [(.ptr 11 0)])]) [(4,.dead),(5,(.box 106 [(.rp (aF dl (aB sk) (aB dc)) 0)])),(6,(.box 31 [(.p (.sl (x.length+1) ((x.map aA)++[(aA num)])))])),(7,(.box 119 [(.fn 100 [] [(.ptr 9 0),(.ptr 10 0),(.ptr 5 0),(.ptr 7 0)]),(.fn 102 [] [(.ptr 11 0)]),(.fn 103 [] [(.ptr 7 0),(.ptr 6 0)]),(.fn 106 [] [(.ptr 7 0)]),(.fn 104 [] [(.ptr 11 0)])])),(8,(.mp (aK ([]:Lqb)) 0)),(9,(.box 183 [(.mp 8)])),(10,(.box 115 [(.fn 98 [(.rp (aF dl (aB sk) (aB dc)) 0)] [])])),(11,(.box 185 [(.fn 99 [] [(.ptr 5 0),(.ptr 7 0)])]))]) (FC.close1 (Am:=[(.rp (aF dl (aB sk) (aB dc)) 0),(.p (.sl (x.length+1) ((x.map aA)++[(aA num)])))]) (FMM.fcN (k:=7) rfl (ids:=[]) (oX (dl:=dl) (sk:=(aB sk)) (dc:=(aB dc)) (on:=(x.length+1)) (ol:=((x.map aA)++[(aA num)]))) (by kernel_rfl)) (by kernel_rfl)) (gc h4 (gr (aA num) (gr (PV.rp (aF dl (aB sk) (aB dc)) 0) (gfz h3 h2 h1 (gr (aA (bO (fun x=>decide (r6=x)) (aM (aB sk) 0))) (gr (.sl ((aB sk).length) ((aB sk).flatten.map aA)) (gr (PV.rp (aF dl (aB sk) (aB dc)) 0) (gr (PV.rp (aF dl (aB sk) (aB dc)) 0) (gc hl0 gn)))))))))))))))
theorem bBp(h7:(mM [(aA r6),(aA 0),(aA ((jI dl sk dc r6 x).1))] [(aA r6),(aA 0),(aA n102)] [(0,3,true),(1,3,true),(2,3,true)])=true)(h8:(((jI dl sk dc r6 x).2) == En)=false):aC Tp 3 aQu (rfO (pC dl sk dc num r6 ) 54 11 x) .ret (aIg dl sk dc num r6 ):=have k1:=mq br 13 h5;aC.fi (gZ [0,102]) [hl0.k 2 (gZ ao),.x (PV.rp (aF dl (aB sk) (aB dc)) 0),.x (PV.rp (aF dl (aB sk) (aB dc)) 0),.x (.sl ((aB sk).length) ((aB sk).flatten.map aA)),.x (aA (bO (fun x=>decide (r6=x)) (aM (aB sk) 0))),.x (.agg [(aA Aa),(aA Ab)]),.x (PV.rp (aF dl (aB sk) (aB dc)) 0),.x (aA num),.c (.agg [(.fn 100 [] [(.ptr 9 0),(.ptr 10 0),(.ptr 5 0),(.ptr 7 0)]),(.fn 102 [] [(.ptr 11 0)]),(.fn 103 [] [(.ptr 7 0),(.ptr 6 0)]),(.fn 106 [] [(.ptr 7 0)]),(.fn 104 [] [(.ptr 11 0)])]) [(4,.dead),(5,(.box 106 [(.rp (aF dl (aB sk) (aB dc)) 0)])),(6,(.box 31 [(.p (.sl (x.length+1) ((x.map aA)++[(aA num)])))])),(7,(.box 119 [(.fn 100 [] [(.ptr 9 0),(.ptr 10 0),(.ptr 5 0),(.ptr 7 0)]),(.fn 102 [] [(.ptr 11 0)]),(.fn 103 [] [(.ptr 7 0),(.ptr 6 0)]),(.fn 106 [] [(.ptr 7 0)]),(.fn 104 [] [(.ptr 11 0)])])),(8,(.mp (aK ([]:Lqb)) 0)),(9,(.box 183 [(.mp 8)])),(10,(.box 115 [(.fn 98 [(.rp (aF dl (aB sk) (aB dc)) 0)] [])])),(11,(.box 185 [(.fn 99 [] [(.ptr 5 0),(.ptr 7 0)])]))],k1.o,.x (aA r6),.x (aA r6),bF,bF,bF,bF,bT] (gc (cE h8) (Ba (aW h7) (gc h6 (gr (aA r6) (gr (aA r6) (gc k1 (gt (FC Tp 54 [(.rp (aF dl (aB sk) (aB dc)) 0),(.own 4)] [(4,(.row 3 (x.length+1) ((x.map aA)++[(aA num)])))] 5 (.agg [(.fn 100 [] [(.ptr 9 0),(.ptr 10 0),(.ptr 5 0),(.ptr 7 0)]),(.fn 102 [] [(.ptr 11 0)]),(.fn 103 [] [(.ptr 7 0),(.ptr 6 0)]),(.fn 106 [] [(.ptr 7 0)]),(.fn 104 [] [(.ptr 11 0)])]) [(4,.dead),(5,(.box 106 [(.rp (aF dl (aB sk) (aB dc)) 0)])),(6,(.box 31 [(.p (.sl (x.length+1) ((x.map aA)++[(aA num)])))])),(7,(.box 119 [(.fn 100 [] [(.ptr 9 0),(.ptr 10 0),(.ptr 5 0),(.ptr 7 0)]),(.fn 102 [] [(.ptr 11 0)]),(.fn 103 [] [(.ptr 7 0),(.ptr 6 0)]),(.fn 106 [] [(.ptr 7 0)]),(.fn 104 [] [(.ptr 11 0)])])),(8,(.mp (aK ([]:Lqb)) 0)),(9,(.box 183 [(.mp 8)])),(10,(.box 115 [(.fn 98 [(.rp (aF dl (aB sk) (aB dc)) 0)] [])])),(11,(.box 185 [(.fn 99 [] [(.ptr 5 0),(.ptr 7 0)])]))]) (FC.close1 (Am:=[(.rp (aF dl (aB sk) (aB dc)) 0),(.p (.sl (x.length+1) ((x.map aA)++[(aA num)])))]) (FMM.fcN (k:=7) rfl (ids:=[]) (oX (dl:=dl) (sk:=(aB sk)) (dc:=(aB dc)) (on:=(x.length+1)) (ol:=((x.map aA)++[(aA num)]))) (by kernel_rfl)) (by kernel_rfl)) (gc h4 (gr (aA num) (gr (PV.rp (aF dl (aB sk) (aB dc)) 0) (gfz h3 h2 h1 (gr (aA (bO (fun x=>decide (r6=x)) (aM (aB sk) 0))) (gr (.sl ((aB sk).length) ((aB sk).flatten.map aA)) (gr (PV.rp (aF dl (aB sk) (aB dc)) 0) (gr (PV.rp (aF dl (aB sk) (aB dc)) 0) (gc hl0 gn))))))))))))))))
end
def aQw(dl:Int)(sk:Lqq)(dc:Lqq)(num:Int)(r6:Int)  : St:=⟨fr 102 [(3,(.rp [(aA num)] 0)),(4,(.ptr 0 0)),(5,(.ptr 1 0)),(6,(.rp [(PV.rp (aF dl (aB sk) (aB dc)) 0)] 0)),(9,(.rp [(aA r6)] 0)),(10,(.rp [(aA (bO (fun x=>decide (r6=x)) (aM (aB sk) 0)))] 0)),(53,(.fn 181 [] [(.rp [(aH ((aV dl (aB dc)).filter fun n => !(n == num)))] 0)]))],[some (.box 4 [(pB false)]),some (.box 36 [(pI 0)]),some .dead]⟩
theorem bBq(hl0:aC Tp 3 aQt (rH dl sk dc num r6 x ) .normal (cQ (rH dl sk dc num r6 x ) [(12,(pI ((jI dl sk dc r6 x).1))),(13,(pB ((jI dl sk dc r6 x).2)))]))(h1:(aB sk)[(bO (fun x=>decide (r6=x)) (aM (aB sk) 0)).toNat]? = some [Aa,Ab])(h2:0≤(bO (fun x=>decide (r6=x)) (aM (aB sk) 0)))(h3:uni 2 (aB sk))(h4:[(aA num)].length=1*1∧x.length+1≤1000000)(h5:aDg dl (aB sk) (aB dc) (.sl (x.length+1) ((x.map aA)++[(aA num)])) [Aa,Ab] n102 En ([]:Lqb) T104)(h6:dM [(aA r6),(aA 0),(aA ((jI dl sk dc r6 x).1))] [(0,3,true),(1,3,true),(2,3,true)]=true∧dM [(aA r6),(aA 0),(aA n102)] [(0,3,true),(1,3,true),(2,3,true)]=true)(h7:(mM [(aA r6),(aA 0),(aA ((jI dl sk dc r6 x).1))] [(aA r6),(aA 0),(aA n102)] [(0,3,true),(1,3,true),(2,3,true)])=true)(h8:(((jI dl sk dc r6 x).2) == En)=true):aC Tp 3 aQu (rfO (pC dl sk dc num r6 ) 54 11 x) .normal (aQw dl sk dc num r6 ):=have k1:=mq br 13 h5;aC.fi (gZ bf) ([hl0.k 2 (gZ ao),.x (PV.rp (aF dl (aB sk) (aB dc)) 0),.x (PV.rp (aF dl (aB sk) (aB dc)) 0),.x (.sl ((aB sk).length) ((aB sk).flatten.map aA)),.x (aA (bO (fun x=>decide (r6=x)) (aM (aB sk) 0))),.x (.agg [(aA Aa),(aA Ab)]),.x (PV.rp (aF dl (aB sk) (aB dc)) 0),.x (aA num),.c (.agg [(.fn 100 [] [(.ptr 9 0),(.ptr 10 0),(.ptr 5 0),(.ptr 7 0)]),(.fn 102 [] [(.ptr 11 0)]),(.fn 103 [] [(.ptr 7 0),(.ptr 6 0)]),(.fn 106 [] [(.ptr 7 0)]),(.fn 104 [] [(.ptr 11 0)])]) [(4,.dead),(5,(.box 106 [(.rp (aF dl (aB sk) (aB dc)) 0)])),(6,(.box 31 [(.p (.sl (x.length+1) ((x.map aA)++[(aA num)])))])),(7,(.box 119 [(.fn 100 [] [(.ptr 9 0),(.ptr 10 0),(.ptr 5 0),(.ptr 7 0)]),(.fn 102 [] [(.ptr 11 0)]),(.fn 103 [] [(.ptr 7 0),(.ptr 6 0)]),(.fn 106 [] [(.ptr 7 0)]),(.fn 104 [] [(.ptr 11 0)])])),(8,(.mp (aK ([]:Lqb)) 0)),(9,(.box 183 [(.mp 8)])),(10,(.box 115 [(.fn 98 [(.rp (aF dl (aB sk) (aB dc)) 0)] [])])),(11,(.box 185 [(.fn 99 [] [(.ptr 5 0),(.ptr 7 0)])]))],k1.o,.x (aA r6),.x (aA r6)]++rF 5) (gc (aW h8) (Ba (aW h7) (gc h6 (gr (aA r6) (gr (aA r6) (gc k1 (gt (FC Tp 54 [(.rp (aF dl (aB sk) (aB dc)) 0),(.own 4)] [(4,(.row 3 (x.length+1) ((x.map aA)++[(aA num)])))] 5 (.agg [(.fn 100 [] [(.ptr 9 0),(.ptr 10 0),(.ptr 5 0),(.ptr 7 0)]),(.fn 102 [] [(.ptr 11 0)]),(.fn 103 [] [(.ptr 7 0),(.ptr 6 0)]),(.fn 106 [] [(.ptr 7 0)]),(.fn 104 [] [(.ptr 11 0)])]) [(4,.dead),(5,(.box 106 [(.rp (aF dl (aB sk) (aB dc)) 0)])),(6,(.box 31 [(.p (.sl (x.length+1) ((x.map aA)++[(aA num)])))])),(7,(.box 119 [(.fn 100 [] [(.ptr 9 0),(.ptr 10 0),(.ptr 5 0),(.ptr 7 0)]),(.fn 102 [] [(.ptr 11 0)]),(.fn 103 [] [(.ptr 7 0),(.ptr 6 0)]),(.fn 106 [] [(.ptr 7 0)]),(.fn 104 [] [(.ptr 11 0)])])),(8,(.mp (aK ([]:Lqb)) 0)),(9,(.box 183 [(.mp 8)])),(10,(.box 115 [(.fn 98 [(.rp (aF dl (aB sk) (aB dc)) 0)] [])])),(11,(.box 185 [(.fn 99 [] [(.ptr 5 0),(.ptr 7 0)])]))]) (FC.close1 (Am:=[(.rp (aF dl (aB sk) (aB dc)) 0),(.p (.sl (x.length+1) ((x.map aA)++[(aA num)])))]) (FMM.fcN (k:=7) rfl (ids:=[]) (oX (dl:=dl) (sk:=(aB sk)) (dc:=(aB dc)) (on:=(x.length+1)) (ol:=((x.map aA)++[(aA num)]))) (by kernel_rfl)) (by kernel_rfl)) (gc h4 (gr (aA num) (gr (PV.rp (aF dl (aB sk) (aB dc)) 0) (gfz h3 h2 h1 (gr (aA (bO (fun x=>decide (r6=x)) (aM (aB sk) 0))) (gr (.sl ((aB sk).length) ((aB sk).flatten.map aA)) (gr (PV.rp (aF dl (aB sk) (aB dc)) 0) (gr (PV.rp (aF dl (aB sk) (aB dc)) 0) (gc hl0 gn))))))))))))))))
end
section
variable {F:Fence} {n:Nat} {P:Program}
theorem aQs{o:Oper}{a:Act}{next Ec:Act→World→Prop}{Q Q':Exit→Act→World→Prop}{r:Result Next}(h:o.uponIn F n P a next Q r)
  (hn:∀ v d w',next (({ a with defers:=d }:Act).put o.dst v) w'→Ec (({ a with defers:=d }:Act).put o.dst v) w') (hQ:∀ e a' w',e ≠ .normal→Q e a' w'→Q' e a' w') (hL:LetsOut Q→LetsOut Q'):o.uponIn F n P a Ec Q' r:=by
 have Ee:∀ v w',next (a.put o.dst v) w'→Ec (a.put o.dst v) w':=fun v w'=>hn v a.defers w'
 cases r with
 | halt x w' =>
  cases x <;> first | exact hQ _ _ _ (by simp) h | exact h
 | ok nx w' =>
  cases nx with
  | value v=>exact Ee _ _ h
  | skip=>exact Ee _ _ h
  | defer d=>exact hn _ _ _ h
  | enter f us =>
   refine ⟨h.1,h.2.mono ?_⟩;intro e Gg he;cases e with
   | returned v=>exact Ee _ _ he
   | panicked c=>exact hQ _ _ _ (by simp) he
   | outgrown=>exact hL he
  | row r us=>exact ⟨h.1,h.2.mono fun v Gg he=>Ee _ _ he⟩
  | round l f tmps Ul bd =>
   refine ⟨h.1,h.2.mono ?_⟩;intro e Gg he;cases e with
   | returned v=>exact Ee _ _ he
   | panicked c=>exact hQ _ _ _ (by simp) he
   | outgrown=>exact hL he
  | _=>exact h
def Kps(ops:Array Oper)(a0 a:Act):Prop:=∀ i,(∀ o∈ops.toList,o.dst≠some i)→a.tmps.getD i undef=a0.tmps.getD i undef
theorem bBn{ops:Array Oper}{Q Q':Exit→Act→World→Prop}{i:Nat}{K K':Act→World→Prop}{a0 a:Act}{w:World}(h:wpOpIn F n P ops Q i K a w)(ha:Kps ops a0 a)(hK:∀ a' w',Kps ops a0 a'→K a' w'→K' a' w')
  (hQ:∀ e a' w',e ≠ .normal→Q e a' w'→Q' e a' w') (hL:LetsOut Q→LetsOut Q'):wpOpIn F n P ops Q' i K' a w:=by
 unfold wpOpIn at h ⊢
 split
 ·rename_i hi
  simp only [hi] at h
  exact hK _ _ ha h
 ·rename_i o hi
  simp only [hi] at h
  have hm:o∈ops.toList:=by
   obtain ⟨hl,he⟩:=Dz.1 hi;rw [← he];exact Array.mem_toList_iff.2 (Array.getElem_mem hl)
  have hput:∀ v (d:List Deferred),Kps ops a0 (({ a with defers:=d }:Act).put o.dst v):=fun v d i hd=>by
   rw [nX (a:={ a with defers:=d }) (hd o hm)]
   exact ha i hd
  split at h
  ·rename_i hw
   rw [if_pos hw];exact ⟨h.1,aQs h.2 (fun v d w' hn=>hK _ _ (hput v d) hn) hQ hL⟩
  ·rename_i hw
   rw [if_neg hw];exact ⟨h.1,hK _ _ (hput undef a.defers) h.2⟩
theorem aCn{md:Region.Mode}{ops:Array Oper}{Q:Exit→Act→World→Prop}{a0:Act}:∀ (fuel:Nat) (listed:Array Bool) (a:Act) (w:World),wpAnyIn F n P md ops Q fuel listed a w→Kps ops a0 a →
  wpAnyIn F n P md ops (fun e a' w'=>Q e a' w'∧(e = .normal→Kps ops a0 a')) fuel listed a w
 | 0,listed,a,w,h,ha=>⟨h.1,h.2,fun _=>ha⟩
 | fuel+1,listed,a,w,h,ha=>by
  refine ⟨fun h0=>⟨h.1 h0,fun _=>ha⟩,fun j hj => ?_⟩
  exact bBn (h.2 j hj) ha (fun a' w' hk h'=>aCn fuel _ a' w' h' hk) (fun e a' w' hne hq=>⟨hq,fun he=>absurd he hne⟩) (fun ⟨a',w',hq⟩=>⟨a',w',hq,fun he=>by cases he⟩)
end
section
section
variable {F:Fence} {n:Nat} {P:Program}
def bkD(ds:List Deferred)(a:Act):Act:={ a with defers:=a.defers++ds }
theorem aIf(ds:List Deferred)(a:Act)(d:Option Nat)(v:Value):(bkD ds a).put d v=bkD ds (a.put d v):=by cases d <;> rfl
theorem aCm(ds:List Deferred)(a:Act):(bkD ds a).eval=a.eval:=by funext x;cases x <;> rfl
theorem bBl(ds:List Deferred){o:Oper}{a:Act}{next Ec:Act→World→Prop}{Q Q':Exit→Act→World→Prop}{r:Result Next}(h:o.uponIn F n P a next Q r)
  (hn:∀ a' w',next a' w'→Ec (bkD ds a') w') (hQ:∀ e a' w',Q e a' w'→Q' e (bkD ds a') w') (hL:LetsOut Q→LetsOut Q'):o.uponIn F n P (bkD ds a) Ec Q' r:=by
 have hv:∀ v w',next (a.put o.dst v) w'→Ec ((bkD ds a).put o.dst v) w':=fun v w' h=>by rw [aIf];exact hn _ _ h
 cases r with
 | halt x w' =>
  cases x <;> first | exact hQ _ _ _ h | exact h
 | ok nx w' =>
  cases nx with
  | value v=>exact hv _ _ h
  | skip=>exact hv _ _ h
  | defer d =>
   have:=hn _ _ h;rw [← aIf] at this
   exact this
  | enter f us =>
   refine ⟨h.1,h.2.mono ?_⟩;intro e Gg he;cases e with
   | returned v=>exact hv _ _ he
   | panicked c=>exact hQ _ _ _ he
   | outgrown=>exact hL he
  | row r us=>exact ⟨h.1,h.2.mono fun v Gg he=>hv _ _ he⟩
  | round l f tmps Ul bd =>
   refine ⟨h.1,h.2.mono ?_⟩;intro e Gg he;cases e with
   | returned v=>exact hv _ _ he
   | panicked c=>exact hQ _ _ _ he
   | outgrown=>exact hL he
  | _=>exact h
theorem bMu(ds:List Deferred){ops:Array Oper}{Q Q':Exit→Act→World→Prop}{i:Nat}{K K':Act→World→Prop}{a:Act}{w:World}(h:wpOpIn F n P ops Q i K a w)(hK:∀ a' w',K a' w'→K' (bkD ds a') w')
  (hQ:∀ e a' w',Q e a' w'→Q' e (bkD ds a') w') (hL:LetsOut Q→LetsOut Q'):wpOpIn F n P ops Q' i K' (bkD ds a) w:=by
 unfold wpOpIn at h ⊢
 split
 ·rename_i hi
  simp only [hi] at h
  exact hK _ _ h
 ·rename_i o hi
  simp only [hi] at h
  have e1:(bkD ds a).tmps=a.tmps:=rfl;rw [e1]
  split at h
  ·rename_i hw
   rw [if_pos hw];refine ⟨by rw [aCm];exact h.1,?_⟩
   rw [aCm];exact bBl ds h.2 hK hQ hL
  ·rename_i hw
   rw [if_neg hw];exact ⟨by rw [aCm];exact h.1,by rw [aIf];exact hK _ _ h.2⟩
theorem aLv(ds:List Deferred){md:Region.Mode}{ops:Array Oper}{Q Q':Exit→Act→World→Prop}(hQ:∀ e a' w',Q e a' w'→Q' e (bkD ds a') w')(hL:LetsOut Q→LetsOut Q'):∀ (fuel:Nat) (listed:Array Bool) (a:Act) (w:World),wpAnyIn F n P md ops Q fuel listed a w→wpAnyIn F n P md ops Q' fuel listed (bkD ds a) w
 | 0,listed,a,w,h=>⟨h.1,hQ _ _ _ h.2⟩
 | fuel+1,listed,a,w,h=>⟨fun h0=>hQ _ _ _ (h.1 h0),fun j hj=>bMu ds (h.2 j hj) (fun a' w' h'=>aLv ds hQ hL fuel _ a' w' h') hQ hL⟩
end
variable {P:Program} {T:TT} {E:Env}
theorem bBm(ds:List Deferred)(hT:∀ t i,T t=some i→bY P t=some i)(hE:kS P E)(hm:P.follows .mixedOrders=true){id:Nat}{ops:Array Oper}{st Ah:St}{s s':AS}(h:aIo P T E ops true st s=some (Ah,s'))(g:aX s')
  (C0:Cx) (M0:Mem) (w0:World) (a:Act) (w:World) (hs:Sim P C0 M0 w0 st a w) (ro:Option Nat) (n:Nat):(Code.region id ops true).wpIn (Fen ro) n P (fun e' a' w'=>e'=Ex.normal.toExit∧∃ a2,a'=bkD ds a2∧Sim P C0 M0 w0 Ah a2 w'∧Kps ops a a2) (bkD ds a) w:=by
 obtain ⟨_,s1,h1,k1⟩:=aD h;obtain ⟨e1,rfl⟩:=aE h1;obtain ⟨r,s2,h2,k2⟩:=aD k1;obtain ⟨_,s3,h3,k3⟩:=aD k2;obtain ⟨e3,rfl⟩:=aE h3;obtain ⟨rfl,rfl⟩:=aI k3;obtain ⟨hB,_⟩:=bE e1;obtain ⟨hA,_⟩:=bE e3;obtain ⟨os,hfts,hlex⟩:=pR ops.toList _ (fts:=r.1) (fin:=r.2) h2 g
 replace hB:=vX hB
 unfold Region.lexB at hB
 rw [Bl] at hB
 have hlen:os.length=ops.toList.length:=by
  have:∀ {l:List Oper} {id:Nat} {st:St} {os:List uI} {fin:St},aIp P T E ops.toList id l st os fin→os.length=l.length:=by
   intro l
   induction l with
   | nil=>intro id st os fin h;cases h;rfl
   | cons o l ih=>intro id st os fin h;cases h with | cons _ _ _ _ q os _ h hr=>simp [ih hr]
  exact this hlex
 have key:nM P T E ops.toList st.m.length (fun k=>os.getD k (.any,[],none)) r.2 ops.toList.length (Array.replicate ops.size false) st:=by
  refine nM.lex ops.toList 0 _ st os (fun j=>by simp) (fun j q hj=>by simp [Bm,hj]) (fun j hj=>absurd hj (aNq _)) (fun j oj hj hl => ?_) (fun i j _ hij hj => ?_) (by simpa using hB.2) (by simpa [ido] using hlex)
  ·exfalso
   rcases Nat.lt_or_ge j ops.size with h' | h'
   ·simp [h'] at hl
   ·simp [Nat.not_lt.2 h'] at hl
  have Dx:j<os.length:=by
   rw [hlen];obtain ⟨o,ho⟩:=Option.isSome_iff_exists.1 hj;exact (Bc.1 ho).1
  have:=lX r.1 0 hA i j (zP os[i]) (zP os[j]) hij (by rw [hfts,eX,Aq (by omega)];rfl) (by rw [hfts,eX,Aq Dx];rfl)
  rw [fG,fG] at this
  simp only [Bm,Aq Dx,Aq (show i<os.length by omega),Option.getD_some,Array.toArray_toList]
  exact this
 refine wpIn_region_any hm ?_;have:=nM.sound hT hE (C0:=C0) (M0:=M0) (w0:=w0) (ro:=ro) (n:=n) (Q:=fun e' a' w'=>e'=Ex.normal.toExit∧Sim P C0 M0 w0 r.2 a' w') (fun a' w' h'=>⟨rfl,h'⟩) _ _ _ a _ key (hs.drawn (w.drawn+1))
 have h2:=aCn (a0:=a) _ _ _ _ (by simpa using this) (fun _ _=>rfl)
 exact aLv ds (fun e a' w' h=>⟨h.1.1,a',rfl,h.1.2,h.2 h.1.1⟩) (fun ⟨a',w',h⟩=>by cases h.1.1) _ _ _ _ h2

end
section
def rG(P:Program)(k:Nat)(c:Code)(st:St)(e:Ex)(Ah:St):Prop:=∀ (C0:Cx) (M0:Mem) (w0:World) (a:Act) (w:World),M0.length≤k→Sim P C0 M0 w0 st a w→∀ (ds:List Deferred) (ro:Option Nat) (n:Nat),c.wpIn (Fen ro) n P (fun e' a' w'=>e'=e.toExit∧∃ a2,a'=bkD ds a2∧Sim P C0 M0 w0 Ah a2 w'∧(∀ i,wrR c i=false→a2.tmps.getD i undef=a.tmps.getD i undef)) (bkD ds a) w
noncomputable def bGw(c:Code)(st:St):Ask (Ex × St):=match c with
 | .region _ ops true=>do
  let Ah ← aIo Tp tT EO ops true st
  pure (.normal,Ah)
 | _=>fail
theorem rG.fin{k:Nat}{c:Code}{st Ah:St}{e:Ex}{g:Gh}{o:List OI}{l:List Prop}(h:yM k g (bGw c st (asg o))=some (e,Ah,l,[]))(gd:aX (out l)):rG Tp k c st e Ah:=by
 unfold yM at h
 split at h
 ·rename_i e1 st1 s hr
  split at h
  ·rename_i st2 hg
   simp only [Option.some.injEq,Prod.mk.injEq] at h
   obtain ⟨rfl,rfl,rfl,hs⟩:=h;unfold bGw at hr
   split at hr
   ·rename_i id ops
    obtain ⟨Q4,s1,h1,k1⟩:=aD hr;obtain ⟨he,rfl⟩:=aI k1;cases he;intro C0 M0 w0 a w hk hsm ds ro n;refine wpIn_mono (bBm ds aEn aEm mixed h1 (fun p hp=>gd p hp) C0 M0 w0 a w hsm ro n) ?_
    rintro e' a' w' ⟨rfl,a2,rfl,h',hkp⟩;exact ⟨rfl,a2,rfl,dY hk hg h',fun i hi=>hkp i fun o ho e=>by
     unfold wrR at hi
     have:=List.any_eq_false.1 hi o ho;rw [e] at this
     exact this (Nat.beq_refl i)⟩
   ·cases hr
  ·cases h
 ·cases h
theorem rG.fi{k:Nat}{c:Code}{st Ah:St}{e:Ex}(g:Gh)(o:List OI){l:List Prop}(gd:aX (out l))(h:yM k g (bGw c st (asg o))=some (e,Ah,l,[]):=by kernel_rfl):rG Tp k c st e Ah:=rG.fin h gd
end
section

theorem bUu{dl:Int}{sk dc:Lqq}{num r6:Int}{x:List Int}{y0 y1 n2:Int}{b3:Bool}{T4:Lqb}(h0:(aB sk)[(bO (fun x=>decide (r6=x)) (aM (aB sk) 0)).toNat]? = some [y0,y1])(h1:0≤(bO (fun x=>decide (r6=x)) (aM (aB sk) 0)))(h2:uni 2 (aB sk))(h3:aDg dl (aB sk) (aB dc) (aH x) [y0,y1] n2 b3 ([]:Lqb) T4):rG Tp 0 (sub (cd Tryz.f71) [1,1,1,1,1,1,1,1,1,0,1,0,1,0,0]) ⟨fr 102 [(3,(.rp [(aA num)] 0)),(6,(.rp [(PV.rp (aF dl (aB sk) (aB dc)) 0)] 0)),(9,(.rp [(aA r6)] 0)),(10,(.rp [(aA (bO (fun x=>decide (r6=x)) (aM (aB sk) 0)))] 0)),(11,(.p (aH x)))],[]⟩ .normal ⟨fr 102 [(3,(.rp [(aA num)] 0)),(6,(.rp [(PV.rp (aF dl (aB sk) (aB dc)) 0)] 0)),(9,(.rp [(aA r6)] 0)),(10,(.rp [(aA (bO (fun x=>decide (r6=x)) (aM (aB sk) 0)))] 0)),(11,(.p (aH x))),(12,(pI n2)),(13,(pB b3))],[]⟩:=have k1:=mN [] 0 (oX (dl:=dl) (sk:=(aB sk)) (dc:=(aB dc)) (on:=x.length) (ol:=(x.map aA)));have k2:=mq bz 8 h3;rG.fi (gZ [0,3,4,2,7,2,14,88]) [.x (PV.rp (aF dl (aB sk) (aB dc)) 0),.x (PV.rp (aF dl (aB sk) (aB dc)) 0),.x (.sl ((aB sk).length) ((aB sk).flatten.map aA)),.x (aA (bO (fun x=>decide (r6=x)) (aM (aB sk) 0))),.x (.agg [(aA y0),(aA y1)]),.x (PV.rp (aF dl (aB sk) (aB dc)) 0),k1.o,k2.o] (gc k2 (gc k1 (gr (PV.rp (aF dl (aB sk) (aB dc)) 0) (gfz h2 h1 h0 (gr (aA (bO (fun x=>decide (r6=x)) (aM (aB sk) 0))) (gr (.sl ((aB sk).length) ((aB sk).flatten.map aA)) (gr (PV.rp (aF dl (aB sk) (aB dc)) 0) (gr (PV.rp (aF dl (aB sk) (aB dc)) 0) gn))))))))
end
end KV
end Go.Proofs
section
namespace Go.Proofs
open Go.RowKit
namespace KV
open Tryz
theorem bGu{P:Program}{C:Cx}{st:St}{a:Act}{w:World}(hS:dP C st.m w st.t a.tmps)(hM:aP P C st.m w)(hp:eU st.m=true)(hn:aMn st.m) :
  Sim P (cxF fun _=>False) [] { w with heap := #[] } st { a with defers:=[] } w :=
 ⟨C,hS,hM,⟨rfl,rfl,rfl,Nat.zero_le _,fun b hb=>absurd hb (aNq _),fun _ _ h=>by simp at h,fun _ _ h=>by simp at h,fun _ _ h=>by simp at h,fun _ _ b _ _ _ => .inl (Nat.zero_le _),fun _ h=>h.elim,fun b _ => .inr (.inl (Nat.zero_le _))⟩,.nil rfl hn⟩
theorem bBk{P:Program}{C:Cx}{M:Mem}{W W':World}(hM:aP P C M W)(hg:W.grownBy W' none):aP P C M W'∧Fr C M W C M W':=by
 have hsame:∀ b,b<W.heap.size→W'.heap[b]? = W.heap[b]? := fun b hb=>hg.block b hb (fun e=>by cases e)
 have hL:Le C C M M W W':=⟨fun _ o h=>⟨o,h⟩,fun _ _ _ _ _ cs h=>⟨cs,h⟩,fun _ o h o' h' hl=>by rw [h] at h';cases h';exact ⟨hl,rfl,rfl⟩,fun _ h=>h,fun b hb=>hsame b (hM.Fs b hb)⟩
 refine ⟨⟨fun i ty n cs hm => ?_,fun i ty cs hm => ?_,fun i es cl hm => ?_,hM.inj,hM.nF,fun b hb=>Cg (hM.Fs b hb) hg.size,fun i o b ho hl hb=>Cg (hM.lt i o b ho hl hb) hg.size⟩,
  ⟨hg.os,hg.tape,hg.output,hg.size,fun b hb _=>hsame b hb,fun i o h=>⟨⟨o,h⟩,rfl,rfl⟩,fun _ _ _ _ _ cs h=>⟨cs,h⟩,fun _ o h o' h' hl=>by rw [h] at h';cases h';exact hl,fun i o b ho hl hb => .inr ⟨i,o,ho,hl,hb⟩,fun _ h=>h,fun _ h => .inl h⟩⟩
 ·rcases hM.row _ _ _ _ hm with h4 | ⟨b,arr,inf,q0,q1,q2,q3,q4,q5,q6,q7,q8⟩
  ·exact .inl h4
  ·exact .inr ⟨b,arr,inf,q0,(hsame b (Dz.1 q1).1).trans q1,q2,q3,q4,q5,q6,fun j hj=>(q7 j hj).mono hL.F hL.fz,q8⟩
 ·obtain ⟨b,arr,q0,q1,q2,q3,q4⟩:=hM.box _ _ _ hm
  exact ⟨b,arr,q0,(hsame b (Dz.1 q1).1).trans q1,q2,fun j hj=>(q3 j hj).mono hL,q4⟩
 ·obtain ⟨b,arr,q0,q1,q2,q3⟩:=hM.mp _ _ _ hm
  refine ⟨b,arr,q0,(hsame b (Dz.1 q1).1).trans q1,q2,fun j hj => ?_⟩
  obtain ⟨en,r1,r2,r3,r4⟩:=q3 j hj;exact ⟨en,r1,r2,r3,r4.mono hL.F hL.fz⟩
def bGv(t:List AV)(i:Nat):Bool:=match t[i]? with
 | some .any=>true
 | _=>false
theorem aTi{C:Cx}{M:Mem}{w:World}{v u:Value}(h:Rep C M w (.p (.v v)) u):u=v:=by
 cases h with
 | p _ _ h=>cases h;rfl
theorem bUt{P:Program}{k:Nat}{c:Code}{tA tB:List AV}{S:St}{g:Gh}{i1 i2:Nat}{v1 v2:Value}(hk:rG P 0 c ⟨tA,[]⟩ .normal ⟨tB,[]⟩)(hg:gh 0 g S=some ⟨tA,[]⟩)(hn:eU S.m=true)
  (h1:tB[i1]? = some (.p (.v v1))) (h2:tB[i2]? = some (.p (.v v2))) (hne:i1≠i2) (hl:tB.length=S.t.length) (hall:((List.range S.t.length).all fun i => !wrR c i || Nat.beq i i1 || Nat.beq i i2 || bGv S.t i)=true) :
  aC P k c S .normal (cQ S [(i1,.p (.v v1)),(i2,.p (.v v2))]):=by
 intro C0 M0 w0 a w hk0 hs ro _ n;obtain ⟨C,hS,hM,hF,hD⟩:=hs;obtain ⟨C1,Hv,Bp,_,_⟩:=dY (dH 0) hg (bGu hS hM hn (dO hn).2);have Gj:Sim P (C1.with []) [] w ⟨tA,[]⟩ { a with defers:=[] } w:=⟨C1,Hv,Bp,(Fr.refl _ _ _).based [],.nil rfl (dO (m:=[]) rfl).2⟩
 have:=hk (C1.with []) [] w _ w (dH 0) Gj a.defers ro n
 refine wpIn_mono this ?_;rintro e' a' w' ⟨rfl,a2,rfl,⟨C2,Nj,Hc,Fq,⟨l2,d1,d2,d3⟩,_⟩,hkp⟩;have Hd:w.grownBy w' none:=aLl Fq;obtain ⟨Gn,Hb⟩:=bBk hM Hd;have Ik:=hS.le (hM.le Hb);refine ⟨rfl,C,⟨?_,fun i hi => ?_⟩,Gn,hF.trans Hb,?_⟩
 ·have e0:=Nj.size
  show a2.tmps.size=((S.t.set i1 _).set i2 _).length;rw [tM,tM];exact e0.trans hl
 ·have Ce:i<S.t.length:=by
   have:i<((S.t.set i1 (.p (.v v1))).set i2 (.p (.v v2))).length:=hi
   rwa [tM,tM] at this
  have key:∀ x,((S.t.set i1 (.p (.v v1))).set i2 (.p (.v v2)))[i]? = some x→Rep C S.m w' x (a2.tmps.getD i undef):=by
   intro x hx
   by_cases e2:i2=i
   ·subst e2
    rw [bHq (by rw [tM];exact Ce)] at hx
    cases hx;rw [aTi (Nj.at h2)]
    exact .p _ _ (.v _)
   rw [bHr e2] at hx
   by_cases e1:i1=i
   ·subst e1
    rw [bHq Ce] at hx
    cases hx;rw [aTi (Nj.at h1)]
    exact .p _ _ (.v _)
   rw [bHr e1] at hx
   have hc:=fU.1 hall i (wJ.2 Ce);cases hw:wrR c i with
   | false =>
    rw [hkp i hw];exact Ik.at hx
   | true =>
    have n1:Nat.beq i i1=false:=by
     cases h:Nat.beq i i1 with
     | false=>rfl
     | true=>exact absurd (Nat.eq_of_beq_eq_true h).symm e1
    have n2:Nat.beq i i2=false:=by
     cases h:Nat.beq i i2 with
     | false=>rfl
     | true=>exact absurd (Nat.eq_of_beq_eq_true h).symm e2
    rw [hw,n1,n2] at hc
    have hc:bGv S.t i=true:=hc;unfold bGv at hc
    rw [hx] at hc
    cases x <;> first | exact .any _ | cases hc
  exact key _ (Aq hi)
 ·obtain ⟨⟨l,e1,e2,e3⟩,hR⟩:=hD.fr hM .refl Hb
  obtain ⟨⟨l',Iz,_,Km⟩,_⟩:=hD;have hll:l=l':=by
   have:=e1.symm.trans Iz;exact (List.map_inj_right (fun x y h=>by simpa [mark] using h)).1 this
  refine ⟨⟨l2++l,?_,?_,?_⟩,hR⟩
  ·show a2.defers++a.defers=_
   rw [d1,e1,fL]
  ·refine List.nodup_append.2 ⟨d2,e2,fun x hx y hy hxy => ?_⟩
   have:=(d3 x hx).2.1;have:=(Dz.1 (Km y (hll ▸ hy)).1).1;subst hxy;omega
  ·intro D Kn
   rcases iE.1 Kn with h | h
   ·exact ⟨(d3 D h).1,fM hF.size (d3 D h).2.1,fun hf=>by
     have:=hM.Fs D hf;have:=(d3 D h).2.1;omega⟩
   ·exact e3 D h
end KV
end Go.Proofs
end
namespace Go.Proofs
namespace KV
open Tryz
section
variable {dl:Int}{sk dc:Lqq}
theorem bMq(l:List Int)(v:Int)(hl:l.length≤1000000){base:Nat}:FV Tp 20 [.p (aH l),.p (aA v)] base (pI (bO (fun x=>decide (v=x)) l)) []:=by
 rcases aG.find (P:=Tp) (k:=0) (b:=(sub (cd Tryz.f20) cf)) (fun i=>gO l v i) (fun i _=>cQ (gO l v i) [(4,.p (aA (i:Int)))]) (gO l v l.length) .ret (.exit 0) (by simp) (by simp) (fun x=>decide (v=x)) l
  (fun i x hx hp=>aEw (by have:=bA hx;omega) hx (by simpa using hp) (aN (by have:=bA hx;omega)) rfl)
  (fun i x hx hp=>aEv (by have:=bA hx;omega) hx (by simpa using hp))
  (aEx (l:=l) (i:=l.length) (by omega)) with ⟨i,x,h1,h2,h3,h4⟩ | ⟨h1,h2,h3⟩
 ·rw [jR h2];exact bDx h4
 ·rw [jS h1];exact bDw h3
theorem bMr(l:List Int)(v:Int)(hl:l.length≤1000000){base:Nat}:FV Tp 22 [.p (aH l),.p (aA v)] base (pB (l.contains v)) []:=by
 rw [← vG];have k1:=fk 0 (bMq l v hl) rfl;exact FV.fi func22 [k1.o] (gc k1 gn)
theorem bMs{l:List Int}(hl:l.length≤1000000)(n:Int):sF (aH l) n (l.contains n):=fun base=>bMr l n hl
def aDi(dl:Int)(sk dc:Lqq)(num r6:Int)(x:List Int):Bool := !(((jI dl sk dc r6 x).1 == (jI dl sk dc r6 (x++[num])).1) && ((jI dl sk dc r6 x).2 == (jI dl sk dc r6 (x++[num])).2))
theorem bVw(r t t':Int):mM [aA r,aA 0,aA t] [aA r,aA 0,aA t'] [(0,3,true),(1,3,true),(2,3,true)]=(t == t'):=by
 rw [Bool.eq_iff_iff];simp [mM,aCx]
theorem aTh{r6 y0 y1:Int}(h:(aB sk)[(bO (fun x=>decide (r6=x)) (aM (aB sk) 0)).toNat]? = some [y0,y1])(x:List Int):jI dl sk dc r6 x=fF dl x (aB dc) y0 y1:=by
 have e:(aB sk).getD (bO (fun x=>decide (r6=x)) (aM (aB sk) 0)).toNat []=[y0,y1]:=by
  rw [Bm,h];rfl
 unfold jI;rw [e];rfl
theorem bGs{dl:Int}{sk dc:Lqq}{num r6:Int}{x:List Int}(hd:bV (aB dc))(hu:uni 2 (aB sk))(hs:∀ s∈aB sk,-1≤s.getD 1 0∧s.getD 1 0≤360000)(hx:x.length≤1000){y0 y1:Int}(h0:(aB sk)[(bO (fun x=>decide (r6=x)) (aM (aB sk) 0)).toNat]? = some [y0,y1])(h1:0≤(bO (fun x=>decide (r6=x)) (aM (aB sk) 0))) :
  aC Tp 3 (sub (cd Tryz.f71) [1,1,1,1,1,1,1,1,1,0,1,0,1,0,0]) (rH dl sk dc num r6 x) .normal (cQ (rH dl sk dc num r6 x) [(12,(pI ((jI dl sk dc r6 x).1))),(13,(pB ((jI dl sk dc r6 x).2)))]):=by
 obtain ⟨T',_,hT⟩:=bEs (sk:=aB sk) hd (fun n=>aCa hx n) y0 y1 (hs _ (Bi h0)) (T:=[]) cA.nil
 rw [aTh h0];exact bUt (bUu (num:=num) h0 h1 hu hT) (g:=⟨(rng [(0,3),(4,2),(7,2),(12,90)]),[],[2],[]⟩) (by kernel_rfl) rfl (by rfl) (by rfl) (by decide) (by rfl) (by kernel_rfl)
theorem bBi{dl:Int}{sk dc:Lqq}{num r6:Int}{x:List Int}(hd:bV (aB dc))(hu:uni 2 (aB sk))(hs:∀ s∈aB sk,-1≤s.getD 1 0∧s.getD 1 0≤360000)(hx:x.length≤1000){y0 y1:Int}(h0:(aB sk)[(bO (fun x=>decide (r6=x)) (aM (aB sk) 0)).toNat]? = some [y0,y1])(h1:0≤(bO (fun x=>decide (r6=x)) (aM (aB sk) 0))) :
  (aDi dl sk dc num r6 x=false→aC Tp 3 (sub (cd Tryz.f71) [1,1,1,1,1,1,1,1,1,0,1,0,1]) (rfO (pC dl sk dc num r6) 54 11 x) .normal (aQw dl sk dc num r6)) ∧
  (aDi dl sk dc num r6 x=true→aC Tp 3 (sub (cd Tryz.f71) [1,1,1,1,1,1,1,1,1,0,1,0,1]) (rfO (pC dl sk dc num r6) 54 11 x) .ret (aIg dl sk dc num r6)):=by
 have hn:=bGs (dl:=dl) (num:=num) hd hu hs hx h0 h1;obtain ⟨T',_,hT⟩:=bEs (dl:=dl) (sk:=aB sk) hd (fun n=>bMs (l:=x++[num]) (by rw [lT];show x.length+1≤_;omega) n) y0 y1 (hs _ (Bi h0)) (T:=[]) cA.nil
 rw [← aTh h0] at hT
 have hov:aH (x++[num]) = .sl (x.length+1) (x.map aA++[aA num]):=by
  show PV.sl (x++[num]).length ((x++[num]).map aA)=_;rw [lT,fL];rfl
 rw [hov] at hT
 have hq:=bVw r6 (jI dl sk dc r6 x).1 (jI dl sk dc r6 (x++[num])).1;unfold aDi;cases ha:((jI dl sk dc r6 x).1 == (jI dl sk dc r6 (x++[num])).1) with
 | false =>
  refine ⟨fun h=>(by cases h),fun _ => ?_⟩
  rw [ha] at hq
  exact bBo hn h0 h1 hu ⟨rfl,by omega⟩ hT ⟨rfl,rfl⟩ hq
 | true =>
  rw [ha] at hq
  cases hb:((jI dl sk dc r6 x).2 == (jI dl sk dc r6 (x++[num])).2) with
  | false =>
   refine ⟨fun h=>(by cases h),fun _ => ?_⟩
   exact bBp hn h0 h1 hu ⟨rfl,by omega⟩ hT ⟨rfl,rfl⟩ hq hb
  | true =>
   refine ⟨fun _ => ?_,fun h=>(by cases h)⟩
   exact bBq hn h0 h1 hu ⟨rfl,by omega⟩ hT ⟨rfl,rfl⟩ hq hb
theorem bBj{num r6:Int}(hd:bV (aB dc))(hu:uni 2 (aB sk))(hs:∀ s∈aB sk,-1≤s.getD 1 0∧s.getD 1 0≤360000){y0 y1:Int}(h0:(aB sk)[(bO (fun x=>decide (r6=x)) (aM (aB sk) 0)).toNat]? = some [y0,y1])(h1:0≤(bO (fun x=>decide (r6=x)) (aM (aB sk) 0)))(ho:((aV dl (aB dc)).filter fun n => !(n == num)).length≤60) :
  ((iQ ((aV dl (aB dc)).filter fun n => !(n == num))).any (aDi dl sk dc num r6)=false→aC Tp 0 (sub (cd Tryz.f71) [1,1,1,1,1,1,1,1,1,0,1,0]) (aCp dl sk dc num r6) .normal (pC dl sk dc num r6)) ∧
  ((iQ ((aV dl (aB dc)).filter fun n => !(n == num))).any (aDi dl sk dc num r6)=true→aC Tp 0 (sub (cd Tryz.f71) [1,1,1,1,1,1,1,1,1,0,1,0]) (aCp dl sk dc num r6) .ret (aQv dl sk dc num r6)):=by
 have main:=aFf (P:=Tp) (k:=0) (kb:=3) (kk:=2) (g0:=⟨[],[],[],[]⟩) (g1:=⟨[],[],[],[]⟩) (gR:=⟨[],[],[],[]⟩) (aCp dl sk dc num r6) (fun _=>pC dl sk dc num r6) (fun _ _=>aQw dl sk dc num r6) (fun _ _=>aIg dl sk dc num r6) (pC dl sk dc num r6).t (aQv dl sk dc num r6).m (fun _=>aDi dl sk dc num r6)
  (cc := sub (cd Tryz.f71) [1, 1, 1, 1, 1, 1, 1, 1, 1, 0, 1, 0]) (gi := 53) (p1 := 54) (d := 11) (id := 14) (ty := 31) (pos := "outcome.go:200") (body := sub (cd Tryz.f71) [1, 1, 1, 1, 1, 1, 1, 1, 1, 0, 1, 0, 1]) (by kernel_rfl)
  rfl (fun _=>rfl) (g := .fn 181 [] [.rp [aH ((aV dl (aB dc)).filter fun n => !(n == num))] 0]) (by rfl) (aFd _ ho) (fun args w=>rfl) (fun _=>rfl) (fun _=>rfl) (fun _ _=>rfl) (fun _ _=>rfl) rfl rfl (fun _=>by show 2<3;omega) (by kernel_rfl) (fun x=>rfl) (by show 2≤2;omega) rfl (by kernel_rfl) (fun pre l=>by kernel_rfl) (fun _ _ _=>by kernel_rfl) (fun pre l _ hx=>bBi hd hu hs hx h0 h1)
 refine ⟨fun h=>main.1 fun pre l hp => ?_,fun h=>main.2 ?_⟩
 ·have:=List.any_eq_false.1 h l (hp.subset (by simp))
  simpa using this
 ·obtain ⟨l,hl,hb⟩:=List.any_eq_true.1 h
  obtain ⟨s,t,e⟩:=List.append_of_mem hl;exact ⟨s,l,⟨t,by rw [e];simp⟩,hb⟩
def bGt(dl:Int)(sk dc:Lqq)(num:Int):Bool × Int :=
 if (aV dl (aB dc)).contains num=false then (false,1) else if 8<(aV dl (aB dc)).length then (false,10) else
 if bO (fun x=>decide (aLj (aB dc) num=x)) (aM (aB sk) 0)<0 then (false,0) else ((iQ ((aV dl (aB dc)).filter fun n => !(n == num))).any (aDi dl sk dc num (aLj (aB dc) num)),0)
theorem bMt{α:Type}{p:α→Bool}{l:List α}(h:0≤bO p l):(bO p l).toNat<l.length:=by
 unfold bO at h ⊢
 cases e:l.findIdx? p with
 | none=>rw [e] at h;simp at h
 | some i =>
  obtain ⟨hi,_⟩:=List.findIdx?_eq_some_iff_getElem.1 e;simpa using hi
theorem bUs(h:cT dl sk dc)(num:Int){base:Nat}:FV Tp 71 [.p (.agg (dQ dl sk dc)),.p (aA num)] base (.tup [.p (blP (bGt dl sk dc num).1),.p (aA (bGt dl sk dc num).2)]) []:=by
 have hd:=kL h;obtain ⟨hu,hl,hs,_⟩:=rZ h;have hol:(aV dl (aB dc)).length≤1000:=by
  unfold aV;rw [eI];exact fM (yK _ _) hd.len
 unfold bGt;cases hc:(aV dl (aB dc)).contains num with
 | false=>exact bUv h hd hol hc
 | true =>
  rw [if_neg (by simp)]
  by_cases h8:8<(aV dl (aB dc)).length
  ·rw [if_pos h8];exact bUw h hd hol hc (by omega)
  ·rw [if_neg h8]
   have hm:num∈aV dl (aB dc):=by simpa using hc
   have Cq:=hm;unfold aV at Cq
   obtain ⟨x,hx,rfl⟩:=dS.1 Cq;have hx:=(wI.1 hx).1;have hr:=eV hd hx;have hsb:aLj (aB dc) (dN x)=vQ (aB dc) x:=by unfold aLj;rw [aTc hd hx]
   obtain ⟨q1,q2⟩:=aQl hd hx;have hk:=vO hd (n:=dN x) (by show _∧_;omega)
   have hab:=lE hd x hx;rw [hsb];obtain ⟨a,b,c,d,e,f,rfl⟩:=A8 (hd.ud x hx);have hf:inR f:=by
    have:=(jB.1 (hd.rng _ hx));unfold inR;simp [dAb] at this hab ⊢;omega
   have hsbj:bFu dl (aB sk) (aB dc) [a,b,c,d,e,f] (vQ (aB dc) [a,b,c,d,e,f]):=fun base=>bGh hd hf (.inl hx) hr.2
   have hcl:(aM (aB sk) 0).length≤1000:=by rw [rV];omega
   by_cases h0:bO (fun x=>decide (vQ (aB dc) [a,b,c,d,e,f]=x)) (aM (aB sk) 0)<0
   ·rw [if_pos h0]
    exact bUx h hd hol hc (by omega) hk q1 q2 hsbj ⟨hu,by omega⟩ hcl h0
   ·rw [if_neg h0]
    have hi:=bMt (p:=fun x=>decide (vQ (aB dc) [a,b,c,d,e,f]=x)) (l:=aM (aB sk) 0) (by omega)
    rw [rV] at hi
    obtain ⟨y0,y1,hy⟩:=at2 hu hi;have hrg:=bBj (dl:=dl) (num:=dN [a,b,c,d,e,f]) hd hu hs hy (by omega) (fM (yK _ _) (by omega))
    cases hb:(iQ ((aV dl (aB dc)).filter fun n => !(n == dN [a,b,c,d,e,f]))).any (aDi dl sk dc (dN [a,b,c,d,e,f]) (vQ (aB dc) [a,b,c,d,e,f])) with
    | false=>exact bUy h hd hol hc (by omega) hk q1 q2 hsbj ⟨hu,by omega⟩ hcl (by omega) (hrg.1 hb)
    | true=>exact bUz h hd hol hc (by omega) hk q1 q2 hsbj ⟨hu,by omega⟩ hcl (by omega) (hrg.2 hb)
end
section
variable {base:Nat}

theorem aQq:((0:Int) == 0)=true:=by first | decide | simp
theorem aQr:((0:Int) != 0)=false:=by first | decide | simp
theorem aIe:((3:Int) != 3)=false:=by first | decide | simp
theorem bUn:((15100:Int) == 15100)=true:=by first | decide | simp
abbrev thD:List PV:=[(aA 1),(aA 0),(aA 0),(aA 1),(aA 300),(aA 0),(aA 2),(aA 7),(aA 10),(aA 0),(aA 0),(aA 1),(aA 3),(aA 9),(aA 40),(aA 0),(aA 0),(aA 2),(aA 4),(aA 5),(aA 50),(aA 0),(aA 0),(aA 3),(aA 5),(aA 6),(aA 60),(aA 0),(aA 100),(aA 1)]
abbrev thS:List PV:=[(aA 1),(aA 15000),(aA 2),(aA 15100),(aA 3),(aA 15200)]
abbrev xD:AV:=(.p (.agg [(aA 30),(.sl 3 thS),(.sl 2 [(aA 1),(aA 0),(aA 0),(aA 1),(aA 300),(aA 0),(aA 2),(aA 7),(aA 10),(aA 0),(aA 0),(aA 1)])]))
abbrev bUo:AV:=(.p (.agg [(aA 30),(.sl 3 thS),(.sl 3 [(aA 1),(aA 0),(aA 0),(aA 1),(aA 300),(aA 0),(aA 2),(aA 7),(aA 10),(aA 0),(aA 0),(aA 1),(aA 3),(aA 9),(aA 40),(aA 0),(aA 0),(aA 2)])]))
abbrev bUp:AV:=(.p (.agg [(aA 30),(.sl 3 thS),(.sl 4 [(aA 1),(aA 0),(aA 0),(aA 1),(aA 300),(aA 0),(aA 2),(aA 7),(aA 10),(aA 0),(aA 0),(aA 1),(aA 3),(aA 9),(aA 40),(aA 0),(aA 0),(aA 2),(aA 4),(aA 5),(aA 50),(aA 0),(aA 0),(aA 3)])]))
abbrev bUq:AV:=(.p (.agg [(aA 30),(.sl 3 thS),(.sl 5 [(aA 1),(aA 0),(aA 0),(aA 1),(aA 300),(aA 0),(aA 2),(aA 7),(aA 10),(aA 0),(aA 0),(aA 1),(aA 3),(aA 9),(aA 40),(aA 0),(aA 0),(aA 2),(aA 4),(aA 5),(aA 50),(aA 0),(aA 0),(aA 3),(aA 5),(aA 6),(aA 60),(aA 0),(aA 100),(aA 1)])]))
theorem bMj{Dw:List PV}(h0:0≤(0:Int)∧(0:Int)≤2∧(2:Int)≤5)(Di:Dw=((thD.drop 0).take (2*(thD.length / 5)))):FV Tp 66 [(pI 2)] base (.p (.agg [(aA 30),(.sl 3 [(aA 1),(aA 15000),(aA 2),(aA 15100),(aA 3),(aA 15200)]),(.sl 2 Dw)])) []:=by
 subst Di;have k1:=fk 1 (aHr (a:=(1:Int)) (b:=(1:Int)) (c:=(300:Int))) rfl;have k2:=fk 1 (gQ (a:=(2:Int)) (b:=(7:Int)) (c:=(1:Int)) (d:=(10:Int)) (e:=(0:Int))) rfl;have k3:=fk 1 (gQ (a:=(3:Int)) (b:=(9:Int)) (c:=(2:Int)) (d:=(40:Int)) (e:=(0:Int))) rfl;have k4:=fk 1 (gQ (a:=(4:Int)) (b:=(5:Int)) (c:=(3:Int)) (d:=(50:Int)) (e:=(0:Int))) rfl;have k5:=fk 1 (gQ (a:=(5:Int)) (b:=(6:Int)) (c:=(1:Int)) (d:=(60:Int)) (e:=(100:Int))) rfl;exact FV.frz (FMM.fi 0 ⟨[],[],[2,1],[]⟩ func66 [k1.o,k2.o,k3.o,k4.o,k5.o] (gc h0 (gc k5 (gc k4 (gc k3 (gc k2 (gc k1 gn))))))) (by kernel_rfl)
theorem bMk{Dw:List PV}(h0:0≤(0:Int)∧(0:Int)≤3∧(3:Int)≤5)(Di:Dw=((thD.drop 0).take (3*(thD.length / 5)))):FV Tp 66 [(pI 3)] base (.p (.agg [(aA 30),(.sl 3 [(aA 1),(aA 15000),(aA 2),(aA 15100),(aA 3),(aA 15200)]),(.sl 3 Dw)])) []:=by
 subst Di;have k1:=fk 1 (aHr (a:=(1:Int)) (b:=(1:Int)) (c:=(300:Int))) rfl;have k2:=fk 1 (gQ (a:=(2:Int)) (b:=(7:Int)) (c:=(1:Int)) (d:=(10:Int)) (e:=(0:Int))) rfl;have k3:=fk 1 (gQ (a:=(3:Int)) (b:=(9:Int)) (c:=(2:Int)) (d:=(40:Int)) (e:=(0:Int))) rfl;have k4:=fk 1 (gQ (a:=(4:Int)) (b:=(5:Int)) (c:=(3:Int)) (d:=(50:Int)) (e:=(0:Int))) rfl;have k5:=fk 1 (gQ (a:=(5:Int)) (b:=(6:Int)) (c:=(1:Int)) (d:=(60:Int)) (e:=(100:Int))) rfl;exact FV.frz (FMM.fi 0 ⟨[],[],[2,1],[]⟩ func66 [k1.o,k2.o,k3.o,k4.o,k5.o] (gc h0 (gc k5 (gc k4 (gc k3 (gc k2 (gc k1 gn))))))) (by kernel_rfl)
theorem bMl{Dw:List PV}(h0:0≤(0:Int)∧(0:Int)≤4∧(4:Int)≤5)(Di:Dw=((thD.drop 0).take (4*(thD.length / 5)))):FV Tp 66 [(pI 4)] base (.p (.agg [(aA 30),(.sl 3 [(aA 1),(aA 15000),(aA 2),(aA 15100),(aA 3),(aA 15200)]),(.sl 4 Dw)])) []:=by
 subst Di;have k1:=fk 1 (aHr (a:=(1:Int)) (b:=(1:Int)) (c:=(300:Int))) rfl;have k2:=fk 1 (gQ (a:=(2:Int)) (b:=(7:Int)) (c:=(1:Int)) (d:=(10:Int)) (e:=(0:Int))) rfl;have k3:=fk 1 (gQ (a:=(3:Int)) (b:=(9:Int)) (c:=(2:Int)) (d:=(40:Int)) (e:=(0:Int))) rfl;have k4:=fk 1 (gQ (a:=(4:Int)) (b:=(5:Int)) (c:=(3:Int)) (d:=(50:Int)) (e:=(0:Int))) rfl;have k5:=fk 1 (gQ (a:=(5:Int)) (b:=(6:Int)) (c:=(1:Int)) (d:=(60:Int)) (e:=(100:Int))) rfl;exact FV.frz (FMM.fi 0 ⟨[],[],[2,1],[]⟩ func66 [k1.o,k2.o,k3.o,k4.o,k5.o] (gc h0 (gc k5 (gc k4 (gc k3 (gc k2 (gc k1 gn))))))) (by kernel_rfl)
theorem bMm{Dw:List PV}(h0:0≤(0:Int)∧(0:Int)≤5∧(5:Int)≤5)(Di:Dw=((thD.drop 0).take (5*(thD.length / 5)))):FV Tp 66 [(pI 5)] base (.p (.agg [(aA 30),(.sl 3 [(aA 1),(aA 15000),(aA 2),(aA 15100),(aA 3),(aA 15200)]),(.sl 5 Dw)])) []:=by
 subst Di;have k1:=fk 1 (aHr (a:=(1:Int)) (b:=(1:Int)) (c:=(300:Int))) rfl;have k2:=fk 1 (gQ (a:=(2:Int)) (b:=(7:Int)) (c:=(1:Int)) (d:=(10:Int)) (e:=(0:Int))) rfl;have k3:=fk 1 (gQ (a:=(3:Int)) (b:=(9:Int)) (c:=(2:Int)) (d:=(40:Int)) (e:=(0:Int))) rfl;have k4:=fk 1 (gQ (a:=(4:Int)) (b:=(5:Int)) (c:=(3:Int)) (d:=(50:Int)) (e:=(0:Int))) rfl;have k5:=fk 1 (gQ (a:=(5:Int)) (b:=(6:Int)) (c:=(1:Int)) (d:=(60:Int)) (e:=(100:Int))) rfl;exact FV.frz (FMM.fi 0 ⟨[],[],[2,1],[]⟩ func66 [k1.o,k2.o,k3.o,k4.o,k5.o] (gc h0 (gc k5 (gc k4 (gc k3 (gc k2 (gc k1 gn))))))) (by kernel_rfl)
theorem vT{base:Nat}:FV Tp 66 [.p (aA 2)] base xD []:=bMj (by decide) rfl
theorem bMn{base:Nat}:FV Tp 66 [.p (aA 3)] base bUo []:=bMk (by decide) rfl
theorem bMo{base:Nat}:FV Tp 66 [.p (aA 4)] base bUp []:=bMl (by decide) rfl
theorem bMp{base:Nat}:FV Tp 66 [.p (aA 5)] base bUq []:=bMm (by decide) rfl
theorem bUr(h28_0:∀ base:Nat,FV Tp 25 [xD] base (.tup [(.own base),(pI 0)]) [(base,(.row 63 3 [(aA 2),(aA 1),(aA 15100),(aA 3),(aA 2),(aA 15200),(aA 1),(aA 3),(aA 15300)]))])(h21_1:∀ base:Nat,FV Tp 16 [xD,(.p (.sl 1 [(aA 2)]))] base (.tup [(.own base),(pI 0)]) [(base,(.row 63 3 [(aA 1),(aA 1),(aA 15000),(aA 2),(aA 2),(aA 15100),(aA 3),(aA 3),(aA 15200)]))])(h71_2:∀ base:Nat,FV Tp 68 [xD,(pI 1)] base (.tup [(.p (.sl 2 [(aA 1),(aA 3)])),(pB false),(pI 0)]) [])(h33_3:∀ base:Nat,FV Tp 69 [xD,(pI 2)] base (.tup [(.p (.sl 1 [(aA 2)])),(pI 0)]) [])(h51_4:∀ base:Nat,FV Tp 70 [(.p (.sl 3 [(aA 2),(aA 1),(aA 15100),(aA 3),(aA 2),(aA 15200),(aA 1),(aA 3),(aA 15300)])),(.p (.sl 3 [(aA 2),(aA 1),(aA 15100),(aA 3),(aA 2),(aA 15200),(aA 1),(aA 3),(aA 15300)]))] base (pB true) [])(h5:dM [(aA 1),(aA 1),(aA 15000)] [(0,3,true),(1,3,true),(2,3,true)]=true∧dM [(aA 1),(aA 1),(aA 15000)] [(0,3,true),(1,3,true),(2,3,true)]=true)(h6:(mM [(aA 1),(aA 1),(aA 15000)] [(aA 1),(aA 1),(aA 15000)] [(0,3,true),(1,3,true),(2,3,true)])=true)(h41_7:∀ base:Nat,FV Tp 38 [(.p (.sl 2 [(aA 1),(aA 3)])),(.p (.sl 2 [(aA 1),(aA 3)]))] base (pB true) [])(h41_8:∀ base:Nat,FV Tp 38 [(.p (.sl 1 [(aA 2)])),(.p (.sl 1 [(aA 2)]))] base (pB true) [])(h19_9:∀ base:Nat,FV Tp 13 [bUo] base (.tup [(.p (.sl 0 [])),(pI 0)]) [])(h19_10:∀ base:Nat,FV Tp 13 [bUp] base (.tup [(.p (.sl 1 [(aA 2)])),(pI 0)]) [])(h61_11:∀ base:Nat,FV Tp 65 [bUq,(pI 1)] base (.tup [(pI 15100),(pB false),(pI 0)]) [])(h58_12:∀ base:Nat,FV Tp 71 [xD,(pI 2)] base (.tup [(pB true),(pI 0)]) []):FV Tp 26 [] base (pB true) []:=FV.fi func26 ([.c xD [],.c (.tup [(.own 0),(pI 0)]) [(0,(.row 63 3 [(aA 2),(aA 1),(aA 15100),(aA 3),(aA 2),(aA 15200),(aA 1),(aA 3),(aA 15300)]))],.c xD [],.c (.tup [(.own 2),(pI 0)]) [(1,.dead),(2,(.row 63 3 [(aA 1),(aA 1),(aA 15000),(aA 2),(aA 2),(aA 15100),(aA 3),(aA 3),(aA 15200)]))],.c xD [],.c (.tup [(.p (.sl 2 [(aA 1),(aA 3)])),(pB false),(pI 0)]) [],.c xD [],.c (.tup [(.p (.sl 1 [(aA 2)])),(pI 0)]) []]++rF 15++[.c (pB true) []]++rF 9++[.x (.agg [(aA 1),(aA 1),(aA 15000)])]++rF 6++[.c (pB true) []]++rF 5++[.c (pB true) [],bF,bF,bF,.c bUo [],.c (.tup [(.p (.sl 0 [])),(pI 0)]) [],.c bUp [],.c (.tup [(.p (.sl 1 [(aA 2)])),(pI 0)]) [],.c bUq [],.c (.tup [(pI 15100),(pB false),(pI 0)]) [],.c xD [],.c (.tup [(pB true),(pI 0)]) []]++rT 16++[.c (pB true) []]++rT 6) (Bn bUn (gt (true=true) rfl (gt (true=true) rfl (gt (true=true) rfl (gc aQq (gt (FC Tp 38 [(.p (.sl 1 [(aA 2)])),(.own 6)] [(6,(.row 3 1 [(aA 2)]))] 7 (pB true) []) (fv (h41_8 _)) (J8 aQq (J8 aQq (gc (fk 6 (h58_12 _) rfl) (gc (fk 6 vT rfl) (gc (fk 6 (h61_11 _) rfl) (gc (fk 6 bMp rfl) (gc (fk 6 (h19_10 _) rfl) (gc (fk 6 bMo rfl) (gc (fk 6 (h19_9 _) rfl) (gc (fk 6 bMn rfl) (gf (gf (gf (gt (FC Tp 38 [(.p (.sl 1 [(aA 2)])),(.own 5)] [(5,(.row 3 1 [(aA 2)]))] 6 (pB true) []) (fv (h41_8 _)) (gf (gf (gf (Bn (aW h6) (gt (FC Tp 38 [(.p (.sl 2 [(aA 1),(aA 3)])),(.own 4)] [(4,(.row 3 2 [(aA 1),(aA 3)]))] 5 (pB true) []) (fv (h41_7 _)) (Aw (aW h6) (gc aIe (gc h5 (Bn aIe (gr (.agg [(aA 1),(aA 1),(aA 15000)]) (gt (0+3≤[(aA 1),(aA 1),(aA 15000),(aA 2),(aA 2),(aA 15100),(aA 3),(aA 3),(aA 15200)].length) (by first | decide | simp) (gc aIe (gt (0≤(0:Int)∧(0:Int)<3) (by first | decide | simp) (Bn aIe (gf (gf (gf (gf (Bn aQr (gt (FC Tp 70 [(.own 0),(.own 3)] [(0,(.row 63 3 [(aA 2),(aA 1),(aA 15100),(aA 3),(aA 2),(aA 15200),(aA 1),(aA 3),(aA 15300)])),(3,(.row 63 3 [(aA 2),(aA 1),(aA 15100),(aA 3),(aA 2),(aA 15200),(aA 1),(aA 3),(aA 15300)]))] 4 (pB true) []) (fv (h51_4 _)) (J8 aQr (Hm aQr (gc (fk 3 (h33_3 _) rfl) (gc (fk 3 vT rfl) (gc (fk 3 (h71_2 _) rfl) (gc (fk 3 vT rfl) (gt (FC Tp 16 [xD,(.own 1)] [(1,(.row 3 1 [(aA 2)]))] 2 (.tup [(.own 2),(pI 0)]) [(1,.dead),(2,(.row 63 3 [(aA 1),(aA 1),(aA 15000),(aA 2),(aA 2),(aA 15100),(aA 3),(aA 3),(aA 15200)]))]) (FV.close (ids:=[1]) (Am:=[xD,(.p (.sl 1 [(aA 2)]))]) (h21_1 _) (by kernel_rfl)) (gc (fk 1 vT rfl) (gc (fk 0 (h28_0 _) rfl) (gc (fk 0 vT rfl) gn))))))))))))))))))))))))))))))))))))))))))))))))))
end
end KV
end Go.Proofs
section
namespace Go.Proofs
namespace KL
def aQp(x:Int):List Int→List Int
 | []=>[x]
 | y::r=>if x≤y then x::y::r else y::aQp x r
def sortI:List Int→List Int
 | []=>[]
 | x::r=>aQp x (sortI r)
theorem xC(x:Int):∀ l,(aQp x l).Perm (x::l)
 | [] => .refl _
 | y::r=>by
  unfold aQp
  split
  ·exact .refl _
  ·exact ((xC x r).cons y).trans (List.Perm.swap x y r)
theorem aCl:∀ l,(sortI l).Perm l
 | [] => .refl _
 | x::r=>(xC x _).trans ((aCl r).cons x)
theorem yE(x:Int):∀ l,l.Pairwise (· ≤ ·)→(aQp x l).Pairwise (· ≤ ·)
 | [],_=>by simp [aQp]
 | y::r,h=>by
  obtain ⟨h1,h2⟩:=List.pairwise_cons.1 h;unfold aQp
  split
  ·rename_i hx
   exact List.pairwise_cons.2 ⟨fun z hz=>by
    rcases List.mem_cons.1 hz with rfl | hz
    ·exact hx
    ·have:=h1 z hz;omega,h⟩
  ·rename_i hx
   refine List.pairwise_cons.2 ⟨fun z hz => ?_,yE x r h2⟩
   rcases List.mem_cons.1 ((xC x r).mem_iff.1 hz) with rfl | hz
   ·omega
   ·exact h1 z hz
theorem vS:∀ l,(sortI l).Pairwise (· ≤ ·)
 | [] => .nil
 | x::r=>yE x _ (vS r)
theorem aFn:∀ (a b:List Int),a.Perm b→a.Pairwise (· ≤ ·)→b.Pairwise (· ≤ ·)→a=b
 | [],b,h,_,_=>(List.nil_perm.1 h).symm
 | x::r,[],h,_,_=>absurd h.length_eq (by simp)
 | x::r,y::t,h,ha,hb=>by
  obtain ⟨h1,h2⟩:=List.pairwise_cons.1 ha;obtain ⟨h3,h4⟩:=List.pairwise_cons.1 hb;have e:x=y:=by
   have m1:x∈y::t:=h.mem_iff.1 (List.mem_cons_self ..);have m2:y∈x::r:=h.mem_iff.2 (List.mem_cons_self ..)
   rcases List.mem_cons.1 m1 with e | m1
   ·exact e
   ·rcases List.mem_cons.1 m2 with e | m2
    ·exact e.symm
    ·have:=h1 y m2;have:=h3 x m1;omega
  subst e;rw [aFn r t (List.Perm.cons_inv h) h2 h4]
theorem mergeSort_eq(l:List Int):l.mergeSort leB=sortI l:=by
 refine aFn _ _ ((List.mergeSort_perm _ _).trans (aCl l).symm) ?_ (vS l);have:=List.pairwise_mergeSort (le:=leB) (fun a b c h1 h2=>by simp only [leB,decide_eq_true_eq] at *;omega) (fun a b=>by simp only [leB,Bool.or_eq_true,decide_eq_true_eq];omega) l
 exact this.imp (fun h=>by simpa [leB] using h)
end KL
namespace KV
open Tryz
abbrev Cr:List (List Int):=[[1,15000],[2,15100],[3,15200]]
abbrev Eb:List (List Int):=[[1,0,0,1,300,0],[2,7,10,0,0,1]]
abbrev Nt:List (List Int):=[[1,0,0,1,300,0],[2,7,10,0,0,1],[3,9,40,0,0,2]]
abbrev Nu:List (List Int):=[[1,0,0,1,300,0],[2,7,10,0,0,1],[3,9,40,0,0,2],[4,5,50,0,0,3]]
abbrev Lq:List (List Int):=[[1,0,0,1,300,0],[2,7,10,0,0,1],[3,9,40,0,0,2],[4,5,50,0,0,3],[5,6,60,0,100,1]]
theorem rE{l:List (List Int)}(h:l.Pairwise fun a b=>a.getD 0 0≤b.getD 0 0):aB l=l:=List.mergeSort_of_pairwise (h.imp fun h=>decide_eq_true h)
theorem aDh:aB Cr=Cr:=rE (by decide)
theorem Fo:aB Eb=Eb:=rE (by decide)
theorem Qg:aB Nt=Nt:=rE (by decide)
theorem Qh:aB Nu=Nu:=rE (by decide)
theorem Qi:aB Lq=Lq:=rE (by decide)
theorem Ig:cT 30 Cr Eb:=⟨by unfold uni;decide,by unfold uni;decide,by decide,by decide,by decide,by decide,by decide,by decide,by decide,by decide,by decide⟩
theorem Qj:cT 30 Cr Nt:=⟨by unfold uni;decide,by unfold uni;decide,by decide,by decide,by decide,by decide,by decide,by decide,by decide,by decide,by decide⟩
theorem Qk:cT 30 Cr Nu:=⟨by unfold uni;decide,by unfold uni;decide,by decide,by decide,by decide,by decide,by decide,by decide,by decide,by decide,by decide⟩
theorem Nv:cT 30 Cr Lq:=⟨by unfold uni;decide,by unfold uni;decide,by decide,by decide,by decide,by decide,by decide,by decide,by decide,by decide,by decide⟩
def bMi(al:List eO)(s:Nat)(c:List bZ):List Int:=Lib.compact (KL.sortI (c.flatMap (chL al s)))
theorem aTg(al:List eO)(s:Nat)(c:List bZ):oY al s c=bMi al s c:=by unfold oY bMi;rw [KL.mergeSort_eq]
def bGp(dl:Int)(sk dc:List (List Int))(f:Int)(i:Nat):Bool:=match (bR dl sk dc)[i]? with
 | some h=>aPu (bMi (bR dl sk dc) i h.1) (h.1.any fun x=>x.2.1) (h.1.any fun x => !x.2.1) f
 | none=>false
theorem bGq(dl:Int)(sk dc:List (List Int))(f:Int):yB dl sk dc f=bGp dl sk dc f:=by
 funext i
 unfold yB bGp
 split
 ·rename_i h e
  first | rw [e] | skip
  simp only [aTg]
 ·rename_i e
  first | rw [e] | rfl
theorem Ug(base:Nat):FV Tryz.prog 25 [.p (.agg (dQ 30 Cr Eb))] base (.tup [.own base,.p (aA 0)]) [(base,.row 63 3 ([[2,1,15100],[3,2,15200],[1,3,15300]].flatten.map aA))]:=by
 have:=aQo Ig (by decide) (base:=base)
 rw [aDh,Fo,show bX 30 [] Eb Cr=[[2,1,15100],[3,2,15200],[1,3,15300]] from by decide +kernel] at this
 exact this
theorem Uh(base:Nat):FV Tryz.prog 16 [.p (.agg (dQ 30 Cr Eb)),.p (aH [2])] base (.tup [.own base,.p (aA 0)]) [(base,.row 63 3 ([[1,1,15000],[2,2,15100],[3,3,15200]].flatten.map aA))]:=by
 have:=bUm Ig (by decide) [2] (by decide) (by rw [Fo];decide +kernel) (base:=base)
 rw [aDh,Fo,show bX 30 [2] Eb Cr=[[1,1,15000],[2,2,15100],[3,3,15200]] from by decide +kernel] at this
 exact this
theorem J1:aV 30 Eb=[2]:=by decide +kernel
theorem Ui(base:Nat):FV Tryz.prog 68 [.p (.agg (dQ 30 Cr Eb)),.p (aA 1)] base (.tup [.p (aH [1,3]),.p (blP false),.p (aA 0)]) []:=by
 have:=bSv Ig (bib:=1) (i:=0) (s0:=1) (s1:=15000) (by rw [aDh];decide +kernel) (by rw [aDh];rfl) (by rw [Fo,J1];decide) (base:=base)
 rw [aDh,Fo,aTg,show bMi (bR 30 Cr Eb) 0 (nW 30 Eb 1 15000 (uA 30 Eb 1)).1=[1,3] from by decide +kernel,show ((nW 30 Eb 1 15000 (uA 30 Eb 1)).1.any fun x=>x.2.1)=false from by decide +kernel] at this
 exact this
theorem Nk(base:Nat):FV Tryz.prog 69 [.p (.agg (dQ 30 Cr Eb)),.p (aA 2)] base (.tup [.p (aH [2]),.p (aA 0)]) []:=by
 have:=bSx Ig (f:=2) (by decide) (by rw [Fo,J1];decide) (base:=base)
 have e:aLe 30 Cr Eb 2=[2]:=by
  unfold aLe;rw [bGq];decide +kernel
 rw [aDh,Fo,e] at this
 exact this
theorem Ql(base:Nat):FV Tryz.prog 13 [.p (.agg (dQ 30 Cr Nt))] base (.tup [.p (aH []),.p (aA 0)]) []:=by
 have:=bGg Qj (base:=base);rw [Qg,show aV 30 Nt=[] from by decide +kernel] at this
 exact this
theorem Qm(base:Nat):FV Tryz.prog 13 [.p (.agg (dQ 30 Cr Nu))] base (.tup [.p (aH [2]),.p (aA 0)]) []:=by
 have:=bGg Qk (base:=base);rw [Qh,show aV 30 Nu=[2] from by decide +kernel] at this
 exact this
theorem Uj(base:Nat):FV Tryz.prog 65 [.p (.agg (dQ 30 Cr Lq)),.p (aA 1)] base (.tup [.p (aA 15100),.p (blP false),.p (aA 0)]) []:=by
 obtain ⟨T',_,hT⟩:=bEs (dl:=30) (sk:=aB Cr) (dc:=aB Lq) (kL Nv) aHn 1 15000 (by decide) (T:=[]) cA.nil
 have:=bSn Nv (bib:=1) (i0:=0) (s1:=1) (s2:=15000) (by rw [aDh];decide +kernel) (by rw [aDh];rfl) hT (base:=base)
 rw [Qi,show fF 30 [] Lq 1 15000=(15100,false) from by decide +kernel] at this
 exact this
theorem Uk(base:Nat):FV Tryz.prog 71 [.p (.agg (dQ 30 Cr Eb)),.p (aA 2)] base (.tup [.p (blP true),.p (aA 0)]) []:=by
 have:=bUs Ig 2 (base:=base);have hB:∀ r6,aDi 30 Cr Eb 2 r6=fun x => !(((fF 30 x Eb ((Cr.getD (bO (fun x=>decide (r6=x)) (aM Cr 0)).toNat []).getD 0 0) ((Cr.getD (bO (fun x=>decide (r6=x)) (aM Cr 0)).toNat []).getD 1 0)).1 == (fF 30 (x++[2]) Eb ((Cr.getD (bO (fun x=>decide (r6=x)) (aM Cr 0)).toNat []).getD 0 0) ((Cr.getD (bO (fun x=>decide (r6=x)) (aM Cr 0)).toNat []).getD 1 0)).1) && ((fF 30 x Eb ((Cr.getD (bO (fun x=>decide (r6=x)) (aM Cr 0)).toNat []).getD 0 0) ((Cr.getD (bO (fun x=>decide (r6=x)) (aM Cr 0)).toNat []).getD 1 0)).2 == (fF 30 (x++[2]) Eb ((Cr.getD (bO (fun x=>decide (r6=x)) (aM Cr 0)).toNat []).getD 0 0) ((Cr.getD (bO (fun x=>decide (r6=x)) (aM Cr 0)).toNat []).getD 1 0)).2)):=fun r6=>by
  funext x
  unfold aDi jI;rw [aDh,Fo]
 have e:bGt 30 Cr Eb 2=(true,0):=by
  unfold bGt;rw [aDh,Fo,hB];decide +kernel
 rw [e] at this
 exact this
theorem bGr{base:Nat}:FV Tryz.prog 26 [] base (.p (blP true)) [] :=
 bUr Ug Uh Ui Nk (fun base=>by
  have:=bSr [[2,1,15100],[3,2,15200],[1,3,15300]] [[2,1,15100],[3,2,15200],[1,3,15300]] (by unfold uni;decide) (by unfold uni;decide) (by decide) (base:=base)
  rw [decide_eq_true rfl] at this
  exact this) ⟨rfl,rfl⟩ (by decide) (fun base=>by
  have:=bFi [1,3] [1,3] (by decide) (base:=base)
  rw [decide_eq_true rfl] at this
  exact this) (fun base=>by
  have:=bFi [2] [2] (by decide) (base:=base)
  rw [decide_eq_true rfl] at this
  exact this) Ql Qm Uj Uk
end KV
end Go.Proofs
end
namespace Go.Proofs
namespace KV
open Tryz
section

theorem bHz{u a b:Int}(hu:1≤u)(ha:0≤a)(h:a≤b):a-a.tmod u≤b-b.tmod u:=by
 rw [Int.tmod_eq_emod_of_nonneg ha,Int.tmod_eq_emod_of_nonneg (by omega)]
 have e1:=Int.emod_add_mul_ediv a u;have e2:=Int.emod_add_mul_ediv b u;have h2:a / u≤b / u:=Int.ediv_le_ediv (by omega) h
 have h3:u*(a / u)≤u*(b / u):=Int.mul_le_mul_of_nonneg_left h2 (by omega)
 omega
theorem aKi{un li b s t:Int}(hu:1≤un)(hb:b≤s)(h:s≤t):dfI un li b s≤dfI un li b t:=by
 have:=bHz (u:=un) (a:=s-b) (b:=t-b) hu (by omega) (by omega)
 unfold dfI
 split <;> split <;> omega
theorem bNq{un li b t:Int}(hu:1≤un)(hb:b≤t)(hl:0≤li):0≤dfI un li b t∧dfI un li b t≤t-b:=by
 have:=yX (n:=t-b) (u:=un) (by omega) hu
 unfold dfI
 split <;> omega
def dW(l:Lqq)(un li:Int):Lqq:=l.map fun x=>[x.getD 0 0,dfI un li (kP l) (x.getD 1 0),0]
theorem bNr{l:Lqq}{un li:Int}(hu:uni 2 l)(hl:l.length<20)(h:∀ x∈l,pM x=true)(h1:1≤un)(hup:l.Pairwise fun a b=>a.getD 1 0≤b.getD 1 0):aDd ((List.range l.length).map fun (i:Nat)=>(i:Int)) (mR l un li) l:=by
 have hb:=aGr l 360000 h (by omega)
 have hlen:(mR l un li).length=l.length:=by unfold mR;simp
 refine ⟨by rw [hlen],hlen.symm,by omega,hu,fun j h0 hj => ?_⟩
 rw [hlen] at hj
 have e1:((j:Int)).toNat=j:=by omega
 have e2:((j:Int)-1).toNat=j-1:=by omega
 have a1:l[j]? = some l[j]:=Aq hj;have a2:l[j-1]? = some l[j-1]:=Aq (by omega)
 have hle:=List.pairwise_iff_getElem.1 hup (j-1) j (by omega) hj (by omega)
 have hbl:=hb.2.2 l[j-1] (gJ _);have hd:=aKi (un:=un) (li:=li) (b:=kP l) h1 hbl hle;unfold spK mR;rw [e1,e2];rw [Bm,Bm,Bm (l:=l),Bm (l:=l),eX,eX,a1,a2];show 0≤orI (gL (dfI un li (kP l) (l[j].getD 1 0)) (dfI un li (kP l) (l[j-1].getD 1 0))) (gL (l[j].getD 1 0) (l[j-1].getD 1 0));unfold orI gL
 split
 ·split <;> first | omega | (split <;> omega)
 ·split <;> first | omega | (split <;> omega)
theorem bNs(l:Lqq)(un li:Int)(hu:uni 2 l)(hl:l.length<20)(h:∀ x∈l,pM x=true)(h1:1≤un∧un≤600)(h2:0≤li∧li≤360000)(hn:(aM l 0).Nodup)(hup:l.Pairwise fun a b=>a.getD 1 0≤b.getD 1 0){base:Nat}:FV Tp 27 [.p (.sl l.length (l.flatten.map aA)),.p (.agg [aA un,aA li])] base (.tup [.p (.sl (dW l un li).length ((dW l un li).flatten.map aA)),.p (aA 0)]) []:=by
 have L0:=aG.times (P:=Tp) (k:=0) (b:=(sub (cd Tryz.f27) bp)) (e := .exit 0) (fun i (p:List Int)=>jT l un li p.length (p.map aA) i) (fun p=>jT l un li p.length (p.map aA) l.length) (fun p i=>p++[(i:Int)]) (fun i p=>p=(List.range i).map fun (i:Nat)=>(i:Int)) (by simp) l.length (a0:=[]) (by simp)
  (fun i p hi hp=>by
   have:p.length=i:=by rw [hp];simp
   exact ⟨by rw [hp,List.range_succ];simp,aVr (p':=p++[(i:Int)]) (by omega) ⟨rfl,by omega⟩ (aN (by omega)) (by simp) (by simp) rfl⟩)
  (fun p _=>aVs (by omega))
 have e:∀ n:Nat,(List.range n).foldl (fun (p:List Int) (i:Nat)=>p++[(i:Int)]) []=(List.range n).map fun (i:Nat)=>(i:Int):=by
  intro n
  induction n with
  | zero=>rfl
  | succ n ih=>rw [List.range_succ,aBa,ih,fL];rfl
 rw [e] at L0
 have hq:=bNr (un:=un) (li:=li) hu hl h h1.1 hup;have L1:=aG.times (P:=Tp) (k:=0) (b:=(sub (cd Tryz.f27) b5)) (e := .exit 2) (fun i (o:Lqq)=>jU l un li ((List.range l.length).map fun (i:Nat)=>(i:Int)) o.length (o.flatten.map aA) i) (fun o=>jU l un li ((List.range l.length).map fun (i:Nat)=>(i:Int)) o.length (o.flatten.map aA) l.length) (fun o i=>o++[[(l.getD i []).getD 0 0,dfI un li (kP l) ((l.getD i []).getD 1 0),0]]) (fun i o=>o=(List.range i).map fun i=>[(l.getD i []).getD 0 0,dfI un li (kP l) ((l.getD i []).getD 1 0),0]) (by simp) l.length (a0:=[]) (by simp)
  (fun i o hi ho=>by
   have hol:o.length=i:=by rw [ho];simp
   obtain ⟨y0,y1,hy⟩:=at2 hu hi;have hg:l.getD i []=[y0,y1]:=by rw [Bm,hy];rfl
   have hd:(mR l un li)[i]? = some (dfI un li (kP l) y1):=by unfold mR;rw [eX,hy];rfl
   refine ⟨by rw [ho,List.range_succ];simp,?_⟩
   rw [hg];exact aVt (o':=o++[[y0,dfI un li (kP l) y1,0]]) (Bo:=(i:Int)) (by simp;omega) (aNt hq (by unfold mR;simpa using hi)) (by rw [aKe];exact hy) (by omega) hu (by rw [aKe];exact hd) ⟨rfl,by omega⟩ (aN (by omega)) (by simp) (by simp) rfl)
  (fun o _=>aVu (by simp))
 have e2:∀ n:Nat,(List.range n).foldl (fun (o:Lqq) (i:Nat)=>o++[[(l.getD i []).getD 0 0,dfI un li (kP l) ((l.getD i []).getD 1 0),0]]) []=(List.range n).map fun i=>[(l.getD i []).getD 0 0,dfI un li (kP l) ((l.getD i []).getD 1 0),0]:=by
  intro n
  induction n with
  | zero=>rfl
  | succ n ih=>rw [List.range_succ,aBa,ih,fL];rfl
 have e3:(List.range l.length).map (fun i=>[(l.getD i []).getD 0 0,dfI un li (kP l) ((l.getD i []).getD 1 0),0])=dW l un li:=by
  unfold dW;refine List.ext_getElem? fun i => ?_
  rw [eX,eX]
  by_cases hi:i<l.length
  ·have hg:l.getD i []=l[i]:=by rw [Bm,Aq hi];rfl
   rw [aGn hi,Aq hi,Option.map_some,Option.map_some,hg]
  ·rw [List.getElem?_eq_none (by simpa using hi),List.getElem?_eq_none (by omega)];rfl
 rw [e2,e3] at L1
 exact bOb hu (by omega) h h1 h2 hn L0 hq L1
def eA(u:Int)(A1:Lqq)(A2:Lqq)(i:Nat)(rn:Nat)(rc:List PV):St:=⟨fr 112 [(1,(.p (.v (.int .u8 u)))),(7,(.p (aA 0))),(8,(.own 1)),(24,(.own 0)),(25,(.p (aA ((bX (30:Int) [] (aB A2) (aB A1)).length:Int)))),(26,(.p (aA (i:Int))))],[some (.row 63 ((bX (30:Int) [] (aB A2) (aB A1)).length) ((bX (30:Int) [] (aB A2) (aB A1)).flatten.map aA)),some (.row 65 rn rc)]⟩
def iG(u:Int)(Ar:Lqq)(k:Nat):St:=⟨fr 112 [(8,(.p (.sl Ar.length (Ar.flatten.map aA)))),(11,(.p (.sl ((dW Ar ((1:Int)+(u.tmod (60:Int))) (360000:Int)).length) ((dW Ar ((1:Int)+(u.tmod (60:Int))) (360000:Int)).flatten.map aA)))),(65,(.p (.sl ((dW Ar ((1:Int)+(u.tmod (60:Int))) (360000:Int)).length) ((dW Ar ((1:Int)+(u.tmod (60:Int))) (360000:Int)).flatten.map aA)))),(66,(.p (aA ((dW Ar ((1:Int)+(u.tmod (60:Int))) (360000:Int)).length:Int)))),(67,(.p (aA (k:Int))))],[]⟩
theorem bNt{l1:List Int}{u:Int}{A1 A2:Lqq}{m2 t3:Int}{Kb:Nat}{Ar:Lqq}{O0:Nat}(h0:0≤(0:Int)∧(0:Int)≤900)(h1:1≤(8:Int)∧(8:Int)≤30)(h2:0≤(16:Int)∧(16:Int)≤40)(h3:aXm (8:Int) (16:Int) l1 (0:Int) (17:Int)=(A1,A2,m2,t3))(h4:cT (30:Int) A1 A2)(h5:A1.length<20)(Kc:aG Tp 0 (sub (cd Tryz.f4) bl) (eA u A1 A2 0 0 []) (.exit 0) (eA u A1 A2 Kb Ar.length (Ar.flatten.map aA)))(h7:inR u)(h8:inR ((1:Int)+(u.tmod (60:Int))))(h9:uni 2 Ar)(A5:Ar.length<20)(B3:∀ x∈Ar,pM x=true)(Co:1≤((1:Int)+(u.tmod (60:Int)))∧((1:Int)+(u.tmod (60:Int)))≤600)(Dn:0≤(360000:Int)∧(360000:Int)≤360000)(Ef:(aM Ar 0).Nodup)(Hg:Ar.Pairwise fun a b=>a.getD 1 0≤b.getD 1 0)(Gc:((dW Ar ((1:Int)+(u.tmod (60:Int))) (360000:Int)).length:Int)=(Ar.length:Int))(O1:aG Tp 0 (sub (cd Tryz.f4) ax) (iG u Ar 0) (.exit 2) (iG u Ar O0))(Kd:∀ {base:Nat},FV Tp 26 [] base (.p (blP true)) []){base:Nat}:FV Tp 4 [(.p (.sl l1.length (l1.map cG))),(.p (.v (.int .u8 u)))] base (.p (blP true)) []:=by
 exact FV.fin func4 rfl (o:=[.c (.ptr 0 0) [(0,(.box 96 [(.p (.sl l1.length (l1.map cG))),(.p (aA 0)),(.p (.v (.int .u32 (17:Int))))]))],.c (.p (.agg [(aA 30),(.sl A1.length (A1.flatten.map aA)),(.sl A2.length (A2.flatten.map aA))])) [(0,(.box 96 [(.p (.sl l1.length (l1.map cG))),(.p (aA m2)),(.p (.v (.int .u32 t3)))]))],.c (.tup [(.own 2),(.p (aA 0))]) [(2,(.row 63 ((bX (30:Int) [] (aB A2) (aB A1)).length) ((bX (30:Int) [] (aB A2) (aB A1)).flatten.map aA)))],.b false,.k 6 ⟨(rng [(0,1),(2,5),(9,2),(14,10),(27,19)]),[2,3],[],[(8,65)]⟩ (.exit 0) (eA u A1 A2 Kb Ar.length (Ar.flatten.map aA)),.g 1 ⟨[],[0],[1],[]⟩,.c (.tup [(.p (.sl ((dW Ar ((1:Int)+(u.tmod (60:Int))) (360000:Int)).length) ((dW Ar ((1:Int)+(u.tmod (60:Int))) (360000:Int)).flatten.map aA))),(.p (aA 0))]) [],.b false,.b false,.b false,.b false,.b false,.b false,.b false,.k 4 ⟨(rng [(0,8),(9,2),(12,53),(68,43)]),[],[],[]⟩ (.exit 2) (iG u Ar O0),.c (.p (blP true)) []]) (l:=[FC Tp 26 [] [] 0 (.p (blP true)) [],aC Tp 0 (.loop (sub (cd Tryz.f4) ax)) (iG u Ar 0) (.exit 2) (iG u Ar O0),(((dW Ar ((1:Int)+(u.tmod (60:Int))) (360000:Int)).length:Int) != (Ar.length:Int))=false,((0:Int) != (0:Int))=false,((0:Int) != (0:Int))=false,((0:Int) != (0:Int))=false,((0:Int) != (0:Int))=false,((0:Int) != (0:Int))=false,((0:Int) != (0:Int))=false,FC Tp 27 [(.p (.sl Ar.length (Ar.flatten.map aA))),(.p (.agg [(aA ((1:Int)+(u.tmod (60:Int)))),(aA 360000)]))] [] 1 (.tup [(.p (.sl ((dW Ar ((1:Int)+(u.tmod (60:Int))) (360000:Int)).length) ((dW Ar ((1:Int)+(u.tmod (60:Int))) (360000:Int)).flatten.map aA))),(.p (aA 0))]) [],inR ((1:Int)+(u.tmod (60:Int))),(60:Int)≠0,inR u,aC Tp 0 (.loop (sub (cd Tryz.f4) bl)) (eA u A1 A2 0 0 []) (.exit 0) (eA u A1 A2 Kb Ar.length (Ar.flatten.map aA)),((0:Int) != (0:Int))=false,FC Tp 25 [(.p (.agg [(aA 30),(.sl A1.length (A1.flatten.map aA)),(.sl A2.length (A2.flatten.map aA))]))] [] 2 (.tup [(.own 2),(.p (aA 0))]) [(2,(.row 63 ((bX (30:Int) [] (aB A2) (aB A1)).length) ((bX (30:Int) [] (aB A2) (aB A1)).flatten.map aA)))],FC Tp 7 [(.ptr 0 0),(.p (aA 8)),(.p (aA 16))] [(0,(.box 96 [(.p (.sl l1.length (l1.map cG))),(.p (aA 0)),(.p (.v (.int .u32 (17:Int))))]))] 1 (.p (.agg [(aA 30),(.sl A1.length (A1.flatten.map aA)),(.sl A2.length (A2.flatten.map aA))])) [(0,(.box 96 [(.p (.sl l1.length (l1.map cG))),(.p (aA m2)),(.p (.v (.int .u32 t3)))]))],FC Tp 8 [(.p (.sl l1.length (l1.map cG)))] [] 0 (.ptr 0 0) [(0,(.box 96 [(.p (.sl l1.length (l1.map cG))),(.p (aA 0)),(.p (.v (.int .u32 (17:Int))))]))]]) (by kernel_rfl) (gc (FV.fc Kd (by kernel_rfl)) (gc O1.code (gc (eY Gc) (gc (by first | decide | simp) (gc (by first | decide | simp) (gc (by first | decide | simp) (gc (by first | decide | simp) (gc (by first | decide | simp) (gc (by first | decide | simp) (gc (FV.fc (bNs Ar ((1:Int)+(u.tmod (60:Int))) (360000:Int) h9 A5 B3 Co Dn Ef Hg) rfl) (gc h8 (gc (by first | decide | simp) (gc h7 (gc Kc.code (gc (by first | decide | simp) (gc (FV.fc (aQo h4 h5) rfl) (gc (FMM.fc (ids:=[0]) (bEq (8:Int) (16:Int) l1 (0:Int) (17:Int) h0 h1 h2 h3) (by kernel_rfl)) (gc (FMM.fc (ids:=[]) (ofO l1) (by kernel_rfl)) gn))))))))))))))))))
theorem bNu{l1:List Int}{u:Int}{A1 A2:Lqq}{m2 t3:Int}{Kb:Nat}{Ar:Lqq}(h0:0≤(0:Int)∧(0:Int)≤900)(h1:1≤(8:Int)∧(8:Int)≤30)(h2:0≤(16:Int)∧(16:Int)≤40)(h3:aXm (8:Int) (16:Int) l1 (0:Int) (17:Int)=(A1,A2,m2,t3))(h4:cT (30:Int) A1 A2)(h5:A1.length<20)(Kc:aG Tp 0 (sub (cd Tryz.f4) bl) (eA u A1 A2 0 0 []) .ret (cQ (eA u A1 A2 Kb Ar.length (Ar.flatten.map aA)) [(4,(.p (blP true)))])){base:Nat}:FV Tp 4 [(.p (.sl l1.length (l1.map cG))),(.p (.v (.int .u8 u)))] base (.p (blP true)) []:=by
 exact FV.fin func4 rfl (o:=[.c (.ptr 0 0) [(0,(.box 96 [(.p (.sl l1.length (l1.map cG))),(.p (aA 0)),(.p (.v (.int .u32 (17:Int))))]))],.c (.p (.agg [(aA 30),(.sl A1.length (A1.flatten.map aA)),(.sl A2.length (A2.flatten.map aA))])) [(0,(.box 96 [(.p (.sl l1.length (l1.map cG))),(.p (aA m2)),(.p (.v (.int .u32 t3)))]))],.c (.tup [(.own 2),(.p (aA 0))]) [(2,(.row 63 ((bX (30:Int) [] (aB A2) (aB A1)).length) ((bX (30:Int) [] (aB A2) (aB A1)).flatten.map aA)))],.b false,.k 6 ⟨(rng [(0,1),(2,5),(9,2),(14,10),(27,19)]),[2,3],[],[(8,65)]⟩ .ret (cQ (eA u A1 A2 Kb Ar.length (Ar.flatten.map aA)) [(4,(.p (blP true)))])]) (l:=[aC Tp 0 (.loop (sub (cd Tryz.f4) bl)) (eA u A1 A2 0 0 []) .ret (cQ (eA u A1 A2 Kb Ar.length (Ar.flatten.map aA)) [(4,(.p (blP true)))]),((0:Int) != (0:Int))=false,FC Tp 25 [(.p (.agg [(aA 30),(.sl A1.length (A1.flatten.map aA)),(.sl A2.length (A2.flatten.map aA))]))] [] 2 (.tup [(.own 2),(.p (aA 0))]) [(2,(.row 63 ((bX (30:Int) [] (aB A2) (aB A1)).length) ((bX (30:Int) [] (aB A2) (aB A1)).flatten.map aA)))],FC Tp 7 [(.ptr 0 0),(.p (aA 8)),(.p (aA 16))] [(0,(.box 96 [(.p (.sl l1.length (l1.map cG))),(.p (aA 0)),(.p (.v (.int .u32 (17:Int))))]))] 1 (.p (.agg [(aA 30),(.sl A1.length (A1.flatten.map aA)),(.sl A2.length (A2.flatten.map aA))])) [(0,(.box 96 [(.p (.sl l1.length (l1.map cG))),(.p (aA m2)),(.p (.v (.int .u32 t3)))]))],FC Tp 8 [(.p (.sl l1.length (l1.map cG)))] [] 0 (.ptr 0 0) [(0,(.box 96 [(.p (.sl l1.length (l1.map cG))),(.p (aA 0)),(.p (.v (.int .u32 (17:Int))))]))]]) (by kernel_rfl) (gc Kc.code (gc (by first | decide | simp) (gc (FV.fc (aQo h4 h5) rfl) (gc (FMM.fc (ids:=[0]) (bEq (8:Int) (16:Int) l1 (0:Int) (17:Int) h0 h1 h2 h3) (by kernel_rfl)) (gc (FMM.fc (ids:=[]) (ofO l1) (by kernel_rfl)) gn)))))
theorem aVi{u:Int}{A1 A2:Lqq}{i:Nat}{r:Lqq}{Aa Ab Ac:Int}(h0:(i:Int)<((bX (30:Int) [] (aB A2) (aB A1)).length:Int))(h1:(bX (30:Int) [] (aB A2) (aB A1))[i]? = some [Aa,Ab,Ac])(h2:uni 3 (bX (30:Int) [] (aB A2) (aB A1)))(h3:(360000:Int)<Ac)(h4:∀ {base:Nat},FV Tp 26 [] base (.p (blP true)) []):aC Tp 0 (sub (cd Tryz.f4) bl) (eA u A1 A2 i r.length (r.flatten.map aA)) .ret (cQ (eA u A1 A2 i r.length (r.flatten.map aA)) [(4,(.p (blP true)))]):=by
 exact aC.fin (g:=⟨(rng [(0,1),(2,2),(5,2),(9,2),(14,10),(27,19)]),[0,1],[],[]⟩) (o:=[.b true,.x (.agg [(aA Aa),(aA Ab),(aA Ac)]),.b true,.c (.p (blP true)) []]) (l:=[FC Tp 26 [] [] 3 (.p (blP true)) [],(decide (Ac > (360000:Int)))=true,some (.agg ((((bX (30:Int) [] (aB A2) (aB A1)).flatten.map aA).drop (i*3)).take 3):PV)=some (.agg [(aA Aa),(aA Ab),(aA Ac)]),(i*3)+3≤((bX (30:Int) [] (aB A2) (aB A1)).flatten.map aA).length,0≤(i:Int)∧(i:Int)<((bX (30:Int) [] (aB A2) (aB A1)).length:Int),(decide ((i:Int)<((bX (30:Int) [] (aB A2) (aB A1)).length:Int)))=true]) (by kernel_rfl) (gc (FV.fc h4 (by kernel_rfl)) (gc (bU h3) (gc (eG (i:=i) h2 h1) (gc (gG (i:=i) h2 h1) (gc (cF (i:=(i:Int)) (B4 _) h1) (gc (bU h0) gn))))))
theorem aVj{u:Int}{A1 A2:Lqq}{i:Nat}{r:Lqq}{Aa Ab Ac:Int}{i':Nat}{r':Lqq}(h0:(i:Int)<((bX (30:Int) [] (aB A2) (aB A1)).length:Int))(h1:(bX (30:Int) [] (aB A2) (aB A1))[i]? = some [Aa,Ab,Ac])(h2:uni 3 (bX (30:Int) [] (aB A2) (aB A1)))(h3:Ac≤(360000:Int))(h4:Ab≠(-1:Int))(h5:[(aA Aa),(aA Ac)].length=1*2∧r.length+1≤1000000)(h6:inR (((i+1):Nat):Int))(Ak:i'=(i+1))(O2:r'.length=(r.length+1))(O3:r'.flatten.map aA=((r.flatten.map aA)++[(aA Aa),(aA Ac)])):aC Tp 0 (sub (cd Tryz.f4) bl) (eA u A1 A2 i r.length (r.flatten.map aA)) .normal (eA u A1 A2 i' r'.length (r'.flatten.map aA)):=by
 subst Ak;have raw:aC Tp 0 (sub (cd Tryz.f4) bl) (eA u A1 A2 i r.length (r.flatten.map aA)) .normal (eA u A1 A2 (i+1) (r.length+1) ((r.flatten.map aA)++[(aA Aa),(aA Ac)])):=aC.fin (g:=⟨(rng [(0,1),(2,5),(9,2),(14,10),(27,19)]),[0,4],[],[]⟩) (o:=[.b true,.x (.agg [(aA Aa),(aA Ab),(aA Ac)]),.b false,.b true]) (l:=[inR (((i+1):Nat):Int),[(aA Aa),(aA Ac)].length=1*2∧r.length+1≤1000000,[(aA Aa),(aA Ac)].length=2,(Ab != (-1:Int))=true,(decide (Ac > (360000:Int)))=false,some (.agg ((((bX (30:Int) [] (aB A2) (aB A1)).flatten.map aA).drop (i*3)).take 3):PV)=some (.agg [(aA Aa),(aA Ab),(aA Ac)]),(i*3)+3≤((bX (30:Int) [] (aB A2) (aB A1)).flatten.map aA).length,0≤(i:Int)∧(i:Int)<((bX (30:Int) [] (aB A2) (aB A1)).length:Int),(decide ((i:Int)<((bX (30:Int) [] (aB A2) (aB A1)).length:Int)))=true]) (by kernel_rfl) (gc h6 (gc h5 (gc (by first | decide | simp) (gc (qL h4) (gc (aS h3) (gc (eG (i:=i) h2 h1) (gc (gG (i:=i) h2 h1) (gc (cF (i:=(i:Int)) (B4 _) h1) (gc (bU h0) gn)))))))))
 exact raw.cast (by rw [O2,O3])
theorem aVk{u:Int}{A1 A2:Lqq}{i:Nat}{r:Lqq}{Aa Ab Ac:Int}{i':Nat}(h0:(i:Int)<((bX (30:Int) [] (aB A2) (aB A1)).length:Int))(h1:(bX (30:Int) [] (aB A2) (aB A1))[i]? = some [Aa,Ab,Ac])(h2:uni 3 (bX (30:Int) [] (aB A2) (aB A1)))(h3:Ac≤(360000:Int))(h4:Ab=(-1:Int))(h5:inR (((i+1):Nat):Int))(Ak:i'=(i+1)):aC Tp 0 (sub (cd Tryz.f4) bl) (eA u A1 A2 i r.length (r.flatten.map aA)) .normal (eA u A1 A2 i' r.length (r.flatten.map aA)):=by
 subst Ak;exact aC.fin (g:=⟨(rng [(0,1),(2,5),(9,2),(14,10),(27,19)]),[0,1],[],[]⟩) (o:=[.b true,.x (.agg [(aA Aa),(aA Ab),(aA Ac)]),.b false,.b false]) (l:=[inR (((i+1):Nat):Int),(Ab != (-1:Int))=false,(decide (Ac > (360000:Int)))=false,some (.agg ((((bX (30:Int) [] (aB A2) (aB A1)).flatten.map aA).drop (i*3)).take 3):PV)=some (.agg [(aA Aa),(aA Ab),(aA Ac)]),(i*3)+3≤((bX (30:Int) [] (aB A2) (aB A1)).flatten.map aA).length,0≤(i:Int)∧(i:Int)<((bX (30:Int) [] (aB A2) (aB A1)).length:Int),(decide ((i:Int)<((bX (30:Int) [] (aB A2) (aB A1)).length:Int)))=true]) (by kernel_rfl) (gc h5 (gc (eY h4) (gc (aS h3) (gc (eG (i:=i) h2 h1) (gc (gG (i:=i) h2 h1) (gc (cF (i:=(i:Int)) (B4 _) h1) (gc (bU h0) gn)))))))
theorem aVl{u:Int}{A1 A2:Lqq}{i:Nat}{r:Lqq}(h0:((bX (30:Int) [] (aB A2) (aB A1)).length:Int)≤(i:Int)):aC Tp 0 (sub (cd Tryz.f4) bl) (eA u A1 A2 i r.length (r.flatten.map aA)) (.exit 0) (eA u A1 A2 i r.length (r.flatten.map aA)):=by
 exact aC.fin (g:=⟨(rng [(0,1),(2,5),(9,2),(14,10),(27,19)]),[0,1],[],[]⟩) (o:=[.b false]) (l:=[(decide ((i:Int)<((bX (30:Int) [] (aB A2) (aB A1)).length:Int)))=false]) (by kernel_rfl) (gc (aS h0) gn)
theorem aVm{u:Int}{Ar:Lqq}{k:Nat}{A3 Aj A6 A7 A9 Bf Br O4 O5 Gk:Int}{k':Nat}(h0:(k:Int)<((dW Ar ((1:Int)+(u.tmod (60:Int))) (360000:Int)).length:Int))(h1:(dW Ar ((1:Int)+(u.tmod (60:Int))) (360000:Int))[k]? = some [A3,Aj,A6])(h2:uni 3 (dW Ar ((1:Int)+(u.tmod (60:Int))) (360000:Int)))(h3:Ar[k]? = some [A7,A9])(h4:uni 2 Ar)(h5:A3=A7)(h6:(0:Int)<(k:Int))(h7:inR ((k:Int)-(1:Int)))(h8:(dW Ar ((1:Int)+(u.tmod (60:Int))) (360000:Int))[((k:Int)-(1:Int)).toNat]? = some [Bf,Br,O4])(h9:0≤((k:Int)-(1:Int)))(A5:Br≤Aj)(B3:Ar[0]? = some [O5,Gk])(Co:inR (A9-Gk))(Dn:Aj≤(A9-Gk))(Ef:inR (((k+1):Nat):Int))(O6:k'=(k+1)):aC Tp 0 (sub (cd Tryz.f4) ax) (iG u Ar k) .normal (iG u Ar k'):=by
 subst O6
 exact aC.fin (g:=⟨(rng [(0,8),(9,2),(12,53),(68,43)]),[],[],[]⟩) (o:=[.b true,.x (.agg [(aA A3),(aA Aj),(aA A6)]),.x (aA A7),.b false,.b false,.b false,.b true,.b true,.b true,.b true,.b true,.b true,.b true,.b true,.x (aA Br),.b true,.b false,.b true,.b false,.b false,.b false,.b false,.b false,.b false,.b false,.b false,.x (aA A9),.b false,.b false,.b false,.b false,.x (aA Gk),.b false,.b false,.b false,.b false]) (l:=[inR (((k+1):Nat):Int),(decide (Aj > (A9-Gk)))=false,(decide (Aj<Br))=false,(decide (Aj<Br))=false,inR (A9-Gk),(decide (Aj<Br))=false,(Ar.flatten.map aA)[1]? = some (aA Gk),(decide (Aj<Br))=false,(decide (Aj<Br))=false,0≤(0:Int)∧(0:Int)<(Ar.length:Int)∧0<(Ar.flatten.map aA).length,(decide (Aj<Br))=false,(decide (Aj<Br))=false,(Ar.flatten.map aA)[((k*2)+1)]? = some (aA A9),(decide (Aj<Br))=false,(decide (Aj<Br))=false,0≤(k:Int)∧(k:Int)<(Ar.length:Int)∧(k*2)<(Ar.flatten.map aA).length,(decide (Aj<Br))=false,(decide (Aj<Br))=false,(decide (Aj<Br))=false,(decide (Aj<Br))=false,(decide (Aj<Br))=false,(A3 != A7)=false,(decide ((k:Int) > (0:Int)))=true,(A3 != A7)=false,(decide ((k:Int) > (0:Int)))=true,((dW Ar ((1:Int)+(u.tmod (60:Int))) (360000:Int)).flatten.map aA)[((((k:Int)-(1:Int)).toNat*3)+1)]? = some (aA Br),(decide ((k:Int) > (0:Int)))=true,(decide ((k:Int) > (0:Int)))=true,0≤((k:Int)-(1:Int))∧((k:Int)-(1:Int))<((dW Ar ((1:Int)+(u.tmod (60:Int))) (360000:Int)).length:Int)∧(((k:Int)-(1:Int)).toNat*3)<((dW Ar ((1:Int)+(u.tmod (60:Int))) (360000:Int)).flatten.map aA).length,(decide ((k:Int) > (0:Int)))=true,inR ((k:Int)-(1:Int)),(decide ((k:Int) > (0:Int)))=true,(decide ((k:Int) > (0:Int)))=true,(decide ((k:Int) > (0:Int)))=true,(decide ((k:Int) > (0:Int)))=true,(decide ((k:Int) > (0:Int)))=true,(A3 != A7)=false,(A3 != A7)=false,(A3 != A7)=false,(Ar.flatten.map aA)[(k*2)]? = some (aA A7),0≤(k:Int)∧(k:Int)<(Ar.length:Int)∧(k*2)<(Ar.flatten.map aA).length,some (.agg ((((dW Ar ((1:Int)+(u.tmod (60:Int))) (360000:Int)).flatten.map aA).drop (k*3)).take 3):PV)=some (.agg [(aA A3),(aA Aj),(aA A6)]),(k*3)+3≤((dW Ar ((1:Int)+(u.tmod (60:Int))) (360000:Int)).flatten.map aA).length,0≤(k:Int)∧(k:Int)<((dW Ar ((1:Int)+(u.tmod (60:Int))) (360000:Int)).length:Int)∧(k*3)<((dW Ar ((1:Int)+(u.tmod (60:Int))) (360000:Int)).flatten.map aA).length,(decide ((k:Int)<((dW Ar ((1:Int)+(u.tmod (60:Int))) (360000:Int)).length:Int)))=true]) (by kernel_rfl) (gc Ef (gc (aS Dn) (gc (aS A5) (gc (aS A5) (gc Co (gc (aS A5) (gc (cZ (i:=0) (f:=1) h4 B3 rfl) (gc (aS A5) (gc (aS A5) (gc (jJ (k:=2) (i:=(0:Int)) (by decide) h4 (by first | decide | simp) B3) (gc (aS A5) (gc (aS A5) (gc (cZ (i:=k) (f:=1) h4 h3 rfl) (gc (aS A5) (gc (aS A5) (gc (jJ (k:=2) (i:=(k:Int)) (by decide) h4 (B4 _) h3) (gc (aS A5) (gc (aS A5) (gc (aS A5) (gc (aS A5) (gc (aS A5) (gc (eY h5) (gc (bU h6) (gc (eY h5) (gc (bU h6) (gc (cZ (i:=((k:Int)-(1:Int)).toNat) (f:=1) h2 h8 rfl) (gc (bU h6) (gc (bU h6) (gc (jJ (k:=3) (i:=((k:Int)-(1:Int))) (by decide) h2 h9 h8) (gc (bU h6) (gc h7 (gc (bU h6) (gc (bU h6) (gc (bU h6) (gc (bU h6) (gc (bU h6) (gc (eY h5) (gc (eY h5) (gc (eY h5) (gc (cZ (i:=k) (f:=0) h4 h3 rfl) (gc (jJ (k:=2) (i:=(k:Int)) (by decide) h4 (B4 _) h3) (gc (eG (i:=k) h2 h1) (gc (gG (i:=k) h2 h1) (gc (jJ (k:=3) (i:=(k:Int)) (by decide) h2 (B4 _) h1) (gc (bU h0) gn)))))))))))))))))))))))))))))))))))))))))))))
theorem aVn{u:Int}{Ar:Lqq}{k:Nat}{A3 Aj A6 A7 A9 Bf Br:Int}{k':Nat}(h0:(k:Int)<((dW Ar ((1:Int)+(u.tmod (60:Int))) (360000:Int)).length:Int))(h1:(dW Ar ((1:Int)+(u.tmod (60:Int))) (360000:Int))[k]? = some [A3,Aj,A6])(h2:uni 3 (dW Ar ((1:Int)+(u.tmod (60:Int))) (360000:Int)))(h3:Ar[k]? = some [A7,A9])(h4:uni 2 Ar)(h5:A3=A7)(h6:(k:Int)≤(0:Int))(h7:Ar[0]? = some [Bf,Br])(h8:inR (A9-Br))(h9:Aj≤(A9-Br))(A5:inR (((k+1):Nat):Int))(O6:k'=(k+1)):aC Tp 0 (sub (cd Tryz.f4) ax) (iG u Ar k) .normal (iG u Ar k'):=by
 subst O6
 exact aC.fin (g:=⟨(rng [(0,8),(9,2),(12,53),(68,43)]),[],[],[]⟩) (o:=[.b true,.x (.agg [(aA A3),(aA Aj),(aA A6)]),.x (aA A7),.b false,.b false,.b false,.b false,.b false,.b false,.b false,.b false,.b false,.b false,.b false,.b false,.b false,.b false,.b false,.x (aA A9),.x (aA Br),.b false]) (l:=[inR (((k+1):Nat):Int),(decide (Aj > (A9-Br)))=false,inR (A9-Br),(Ar.flatten.map aA)[1]? = some (aA Br),0≤(0:Int)∧(0:Int)<(Ar.length:Int)∧0<(Ar.flatten.map aA).length,(Ar.flatten.map aA)[((k*2)+1)]? = some (aA A9),0≤(k:Int)∧(k:Int)<(Ar.length:Int)∧(k*2)<(Ar.flatten.map aA).length,(A3 != A7)=false,(decide ((k:Int) > (0:Int)))=false,(A3 != A7)=false,(decide ((k:Int) > (0:Int)))=false,(decide ((k:Int) > (0:Int)))=false,(decide ((k:Int) > (0:Int)))=false,(decide ((k:Int) > (0:Int)))=false,(decide ((k:Int) > (0:Int)))=false,(decide ((k:Int) > (0:Int)))=false,(decide ((k:Int) > (0:Int)))=false,(decide ((k:Int) > (0:Int)))=false,(decide ((k:Int) > (0:Int)))=false,(A3 != A7)=false,(A3 != A7)=false,(A3 != A7)=false,(Ar.flatten.map aA)[(k*2)]? = some (aA A7),0≤(k:Int)∧(k:Int)<(Ar.length:Int)∧(k*2)<(Ar.flatten.map aA).length,some (.agg ((((dW Ar ((1:Int)+(u.tmod (60:Int))) (360000:Int)).flatten.map aA).drop (k*3)).take 3):PV)=some (.agg [(aA A3),(aA Aj),(aA A6)]),(k*3)+3≤((dW Ar ((1:Int)+(u.tmod (60:Int))) (360000:Int)).flatten.map aA).length,0≤(k:Int)∧(k:Int)<((dW Ar ((1:Int)+(u.tmod (60:Int))) (360000:Int)).length:Int)∧(k*3)<((dW Ar ((1:Int)+(u.tmod (60:Int))) (360000:Int)).flatten.map aA).length,(decide ((k:Int)<((dW Ar ((1:Int)+(u.tmod (60:Int))) (360000:Int)).length:Int)))=true]) (by kernel_rfl) (gc A5 (gc (aS h9) (gc h8 (gc (cZ (i:=0) (f:=1) h4 h7 rfl) (gc (jJ (k:=2) (i:=(0:Int)) (by decide) h4 (by first | decide | simp) h7) (gc (cZ (i:=k) (f:=1) h4 h3 rfl) (gc (jJ (k:=2) (i:=(k:Int)) (by decide) h4 (B4 _) h3) (gc (eY h5) (gc (aS h6) (gc (eY h5) (gc (aS h6) (gc (aS h6) (gc (aS h6) (gc (aS h6) (gc (aS h6) (gc (aS h6) (gc (aS h6) (gc (aS h6) (gc (aS h6) (gc (eY h5) (gc (eY h5) (gc (eY h5) (gc (cZ (i:=k) (f:=0) h4 h3 rfl) (gc (jJ (k:=2) (i:=(k:Int)) (by decide) h4 (B4 _) h3) (gc (eG (i:=k) h2 h1) (gc (gG (i:=k) h2 h1) (gc (jJ (k:=3) (i:=(k:Int)) (by decide) h2 (B4 _) h1) (gc (bU h0) gn))))))))))))))))))))))))))))
theorem aVo{u:Int}{Ar:Lqq}{k:Nat}(h0:((dW Ar ((1:Int)+(u.tmod (60:Int))) (360000:Int)).length:Int)≤(k:Int)):aC Tp 0 (sub (cd Tryz.f4) ax) (iG u Ar k) (.exit 2) (iG u Ar k):=by
 exact aC.fin (g:=⟨(rng [(0,8),(9,2),(12,53),(68,43)]),[],[],[]⟩) (o:=[.b false]) (l:=[(decide ((k:Int)<((dW Ar ((1:Int)+(u.tmod (60:Int))) (360000:Int)).length:Int)))=false]) (by kernel_rfl) (gc (aS h0) gn)
end
section

theorem bGy{α:Type}{Q:List α→Prop}(h0:Q [])(hs:∀ l x,Q l→Q (l++[x]))(l:List α):Q l:=by
 have key:∀ r:List α,Q r.reverse:=fun r=>by
  induction r with
  | nil=>exact h0
  | cons a r ih=>rw [List.reverse_cons];exact hs _ _ ih
 have:=key l.reverse
 rwa [List.reverse_reverse] at this
def lV(L:Lqq)(t:Int):Nat:=(L.filter fun x=>decide (x.getD 2 0<t)).length
theorem aFo(L:Lqq)(x:List Int)(t:Int):lV (L++[x]) t=lV L t+if x.getD 2 0<t then 1 else 0:=by
 unfold lV;rw [sC,lT]
 congr 1
 by_cases h:x.getD 2 0<t
 ·rw [if_pos h,List.filter_cons,if_pos (decide_eq_true h)];rfl
 ·rw [if_neg h,List.filter_cons,if_neg (by rw [decide_eq_false h];simp)];rfl
theorem bGz(L:Lqq):L.Pairwise (fun a b=>a.getD 2 0≤b.getD 2 0)→iJ L=L.map fun x=>[x.getD 0 0,(lV L (x.getD 2 0):Int)+1,x.getD 2 0]:=by
 refine bGy (Q:=fun L=>L.Pairwise (fun a b=>a.getD 2 0≤b.getD 2 0)→iJ L=L.map fun x=>[x.getD 0 0,(lV L (x.getD 2 0):Int)+1,x.getD 2 0]) (fun _=>rfl) (fun l x ih hp => ?_) L
 obtain ⟨h1,_,h3⟩:=List.pairwise_append.1 hp;have h4:∀ a∈l,a.getD 2 0≤x.getD 2 0:=fun a ha=>h3 a ha x (by simp)
 have e:iJ (l++[x])=iJ l++[[x.getD 0 0,plN (iJ l) (x.getD 2 0),x.getD 2 0]]:=by
  unfold iJ;rw [aBa];rfl
 rw [e,ih h1,fL]
 congr 1
 ·refine yL fun y hy => ?_
  rw [aFo,if_neg (by have:=h4 y hy;omega)];rfl
 ·have hx:lV (l++[x]) (x.getD 2 0)=lV l (x.getD 2 0):=by rw [aFo,if_neg (by omega)];rfl
  show [[x.getD 0 0,plN _ (x.getD 2 0),x.getD 2 0]]=[[x.getD 0 0,(lV (l++[x]) (x.getD 2 0):Int)+1,x.getD 2 0]];rw [hx]
  congr 3
  rcases List.eq_nil_or_concat l with rfl | ⟨m,y,rfl⟩
  ·rfl
  ·rw [List.concat_eq_append] at *
   unfold plN;rw [fL,gY,List.map_nil,List.getLast?_concat];show (if y.getD 2 0=x.getD 2 0 then (lV (m++[y]) (y.getD 2 0):Int)+1 else _)=_
   by_cases hc:y.getD 2 0=x.getD 2 0
   ·rw [if_pos hc,hc]
   ·rw [if_neg hc]
    have h5:=h4 y (by simp)
    have h6:lV (m++[y]) (x.getD 2 0)=(m++[y]).length:=by
     unfold lV;rw [List.filter_eq_self.2];intro a ha;refine decide_eq_true ?_
     rcases iE.1 ha with ha | ha
     ·have:=(List.pairwise_append.1 h1).2.2 a ha y (by simp)
      omega
     ·obtain rfl:a=y:=by simpa using ha
      omega
    rw [h6];simp
section
variable {dl:Int} {oc:List Int} {sk dc:Lqq}
def bVx(a b:List Int):Prop:=(b.getD 1 0 = -1→a.getD 1 0 = -1→a.getD 0 0<b.getD 0 0)∧(b.getD 1 0 ≠ -1→a.getD 1 0 ≠ -1∧a.getD 2 0≤b.getD 2 0∧(a.getD 2 0=b.getD 2 0→a.getD 0 0<b.getD 0 0))
def inL(t:Int)(y:List Int):Bool:=decide (y.getD 1 0 ≠ -1∧y.getD 2 0<t)
theorem bHa(hs:sk.Pairwise fun a b=>a.getD 0 0<b.getD 0 0) :
  (bX dl oc dc sk).Pairwise bVx ∧
  (∀ y∈bX dl oc dc sk,y.getD 1 0 ≠ -1→y.getD 1 0=1+(((bX dl oc dc sk).filter (inL (y.getD 2 0))).length:Int)) ∧
  (∀ y∈bX dl oc dc sk,∃ s∈sk,s.getD 0 0=y.getD 0 0∧fF dl oc dc (sB s) (sT s)=(y.getD 2 0,decide (y.getD 1 0 = -1))):=by
 have P5:(iB dl oc dc sk).Pairwise fun a b=>a.getD 0 0<b.getD 0 0:=by
  unfold iB;rw [List.pairwise_map];exact (hs.sublist List.filter_sublist)
 have hO:(fQ dl oc dc sk).Pairwise fun a b=>a.getD 0 0<b.getD 0 0:=by
  unfold fQ;rw [List.pairwise_map];exact (hs.sublist List.filter_sublist)
 have s1:=aGu (f:=fun x:List Int=>x.getD 2 0) (fun x y=>bDg 2 x y) (iB dl oc dc sk)
 have s2:=aGv (f:=fun x:List Int=>x.getD 2 0) (g:=fun x:List Int=>x.getD 0 0) (fun x y=>bDg 2 x y) (iB dl oc dc sk) P5
 have hpl:=bGz _ s1;have hmI:∀ x,x∈isort (ltK 2) (iB dl oc dc sk)→x∈iB dl oc dc sk:=fun x hx=>(wM _ _ x).1 hx
 have e:bX dl oc dc sk=((isort (ltK 2) (iB dl oc dc sk)).map fun x=>[x.getD 0 0,(lV (isort (ltK 2) (iB dl oc dc sk)) (x.getD 2 0):Int)+1,x.getD 2 0])++fQ dl oc dc sk:=by
  unfold bX;rw [hpl]
 generalize isort (ltK 2) (iB dl oc dc sk)=I at s1 s2 hmI e
 have o1:∀ y∈fQ dl oc dc sk,y.getD 1 0 = -1:=fun y hy=>by
  unfold fQ at hy
  obtain ⟨s,_,rfl⟩:=dS.1 hy;rfl
 refine ⟨?_,?_,?_⟩
 ·rw [e]
  refine List.pairwise_append.2 ⟨?_,?_,?_⟩
  ·rw [List.pairwise_map]
   refine s2.imp fun {a b} h => ?_
   refine ⟨fun h1=>absurd h1 ?_,fun _=>⟨?_,?_,?_⟩⟩
   ·show (lV I (b.getD 2 0):Int)+1 ≠ -1
    omega
   ·show (lV I (a.getD 2 0):Int)+1 ≠ -1
    omega
   ·show a.getD 2 0≤b.getD 2 0
    omega
   ·show a.getD 2 0=b.getD 2 0→a.getD 0 0<b.getD 0 0
    omega
  ·refine hO.imp_of_mem fun {a b} ha hb h=>⟨fun _ _=>h,fun h1=>absurd (o1 b hb) h1⟩
  ·intro a ha b hb
   obtain ⟨x,_,rfl⟩:=dS.1 ha;refine ⟨fun _ h1=>absurd h1 ?_,fun h1=>absurd (o1 b hb) h1⟩
   show (lV I (x.getD 2 0):Int)+1 ≠ -1;omega
 ·have hc:∀ t,((bX dl oc dc sk).filter (inL t)).length=lV I t:=fun t=>by
   rw [e,sC,lT];have z:(fQ dl oc dc sk).filter (inL t)=[]:=by
    rw [List.filter_eq_nil_iff];intro y hy;unfold inL;rw [o1 y hy];simp
   rw [z,List.filter_map,eI];unfold lV;rw [List.length_nil,Nat.add_zero]
   congr 1
   refine List.filter_congr fun x _ => ?_
   show decide ((lV I (x.getD 2 0):Int)+1 ≠ -1∧x.getD 2 0<t)=decide (x.getD 2 0<t)
   by_cases hx:x.getD 2 0<t
   ·rw [decide_eq_true hx,decide_eq_true ⟨by omega,hx⟩]
   ·rw [decide_eq_false hx,decide_eq_false fun h=>hx h.2]
  intro y hy h1;rw [hc];rw [e] at hy
  rcases iE.1 hy with hy | hy
  ·obtain ⟨x,_,rfl⟩:=dS.1 hy
   show (lV I (x.getD 2 0):Int)+1=1+(lV I (x.getD 2 0):Int);omega
  ·exact absurd (o1 y hy) h1
 ·intro y hy
  rw [e] at hy
  rcases iE.1 hy with hy | hy
  ·obtain ⟨x,hx,rfl⟩:=dS.1 hy
   have Rj:=hmI x hx;unfold iB at Rj
   obtain ⟨s,B1,rfl⟩:=dS.1 Rj;obtain ⟨m1,m2⟩:=wI.1 B1;refine ⟨s,m1,rfl,?_⟩;have m3:(fF dl oc dc (sB s) (sT s)).2=false:=by simpa using m2
   have m4:(decide ((lV I (fF dl oc dc (sB s) (sT s)).1:Int)+1 = -1))=false:=decide_eq_false (by omega)
   show fF dl oc dc (sB s) (sT s)=((fF dl oc dc (sB s) (sT s)).1,decide ((lV I (fF dl oc dc (sB s) (sT s)).1:Int)+1 = -1));rw [m4];exact Prod.ext rfl m3
  ·unfold fQ at hy
   obtain ⟨s,B1,rfl⟩:=dS.1 hy;obtain ⟨m1,m2⟩:=wI.1 B1;refine ⟨s,m1,rfl,?_⟩;show fF dl oc dc (sB s) (sT s)=(0,true);unfold fF at m2 ⊢
   split at m2
   ·rename_i h;rw [if_pos h]
   ·cases m2
end
end
section

end
section
end
section

end
section

end
section
theorem aIh{dl:Int}{oc:List Int}{D:Lqq}{b:Int}(hd:bV D):∀ (l:Lqq) (o:Bool) (t:Int),(∀ x∈l,x∈D)→(l.foldl (aHi dl oc D b) (o,t)).2≤t+43200000*(l.length:Int)
 | [],o,t,_=>by simp
 | x::l,o,t,h=>by
  have hm:=aSp (dl:=dl) (oc:=oc) hd (h x (jQ ..));have hl:=fun y hy=>h y (Cj _ hy)
  rw [tN,tK];unfold aHi;dsimp only
  by_cases hh:aYc dl oc D b x=true
  ·rw [if_pos hh]
   have ih:=aIh (dl:=dl) (oc:=oc) (b:=b) hd l (o || dK x == 3) (byI (dK x) t (pF dl oc D x)) hl
   unfold aHi at ih
   have:byI (dK x) t (pF dl oc D x)≤t+43200000:=by unfold byI;repeat' split <;> omega
   omega
  ·rw [if_neg hh]
   have ih:=aIh (dl:=dl) (oc:=oc) (b:=b) hd l o t hl;unfold aHi at ih
   omega
theorem bMv{dl:Int}{oc:List Int}{D:Lqq}{b t:Int}(hd:bV D)(ht:t≤360000):0≤(fF dl oc D b t).1∧(fF dl oc D b t).1≤100000000000:=by
 have h:=aIh (dl:=dl) (oc:=oc) (b:=b) hd D (t == -1) t fun _ h=>h
 have hl:=hd.len;have h2:(aYd dl oc D b t).2≤t+43200000*(D.length:Int):=h;unfold fF
 split
 ·exact ⟨by simp,by simp⟩
 ·show 0≤max 0 (aYd dl oc D b t).2∧max 0 (aYd dl oc D b t).2≤100000000000
  omega
end
section
def oP(R:Lqq):Lqq:=(R.filter fun y=>y.getD 1 0 != -1).map fun y=>[y.getD 0 0,y.getD 2 0]
theorem aVg{R:Lqq}{i:Nat}{y:List Int}(h:R[i]? = some y):oP (R.take (i+1))=oP (R.take i)++(if y.getD 1 0 != -1 then [[y.getD 0 0,y.getD 2 0]] else []):=by
 unfold oP;rw [List.take_add_one,h,sC,fL]
 congr 1
 show (List.filter _ [y]).map _=_;rw [List.filter_cons,List.filter_nil]
 split <;> rfl
theorem gdR{l:Lqq}{i:Nat}{x:List Int}(h:l[i]? = some x):l.getD i []=x:=by rw [Bm,h];rfl
theorem geR{l:Lqq}{i:Nat}{x:List Int}(h:l[i]? = some x)(hi:i<l.length):l[i]=x:=(Bc.1 h).2
theorem aKh(R:Lqq):(oP R).length≤R.length:=by unfold oP;rw [eI];exact yK _ _
theorem bDe{t:Int}:∀ (l:Lqq) (b:Int),t≤b→(∀ x∈l,t≤x.getD 1 0)→t≤l.foldl (fun b x=>if x.getD 1 0<b then x.getD 1 0 else b) b
 | [],b,h,_=>h
 | x::l,b,h,h2=>by
  rw [tN];exact bDe l _ (by have:=h2 x jQ;split <;> omega) fun y hy=>h2 y (Cj _ hy)
section
variable {dc sk:Lqq} {u:Int}
theorem aVh(hr:cT 30 sk dc)(hs:(aB sk).Pairwise fun a b=>a.getD 0 0<b.getD 0 0)(hb:∀ y∈bX 30 [] (aB dc) (aB sk),y.getD 2 0≤360000) :
  uni 2 (oP (bX 30 [] (aB dc) (aB sk)))∧(∀ x∈oP (bX 30 [] (aB dc) (aB sk)),pM x=true)∧(aM (oP (bX 30 [] (aB dc) (aB sk))) 0).Nodup∧(oP (bX 30 [] (aB dc) (aB sk))).Pairwise fun a b=>a.getD 1 0≤b.getD 1 0:=by
 obtain ⟨q1,_,q3⟩:=bHa (dl:=30) (oc:=[]) (dc:=aB dc) hs;have hd:=kL hr;have hn:(aM (aB sk) 0).Nodup:=by
  unfold aM;rw [List.Nodup,List.pairwise_map];exact hs.imp fun h=>by omega
 have sb:∀ s∈aB sk,(1≤s.getD 0 0∧s.getD 0 0≤999)∧s.getD 1 0≤360000:=fun s h=>by
  have:=zC.1 (hr.hsk s ((eW sk).mem_iff.1 h));exact ⟨this.1,this.2.2⟩
 refine ⟨fun x hx => ?_,fun x hx => ?_,?_,?_⟩
 ·unfold oP at hx
  obtain ⟨y,_,rfl⟩:=dS.1 hx;rfl
 ·unfold oP at hx
  obtain ⟨y,hy,rfl⟩:=dS.1 hx;obtain ⟨hy,_⟩:=wI.1 hy;obtain ⟨s,Gj,e1,e2⟩:=q3 y hy;have h1:=sb s Gj;have h2:=bMv (dl:=30) (oc:=[]) (D:=aB dc) (b:=sB s) (t:=sT s) hd h1.2;rw [e2] at h2
  show (within (y.getD 0 0) 1 999 && within (y.getD 2 0) 0 360000)=true;rw [Bl,bB,bB,← e1];exact ⟨h1.1,h2.1,hb y hy⟩
 ·unfold aM oP
  rw [qK,List.Nodup,List.pairwise_map];refine List.Pairwise.imp_of_mem ?_ ((q1.sublist List.filter_sublist));intro a b ha Al hl e;obtain ⟨ha,a1⟩:=wI.1 ha;obtain ⟨Al,b1⟩:=wI.1 Al;have b1:b.getD 1 0 ≠ -1:=by simpa using b1
  have a1:a.getD 1 0 ≠ -1:=by simpa using a1
  obtain ⟨_,l2,l3⟩:=hl.2 b1;obtain ⟨s,Gj,e1,e2⟩:=q3 a ha;obtain ⟨s',Jh,e3,e4⟩:=q3 b Al;have e:a.getD 0 0=b.getD 0 0:=e;have:s=s':=aSf hn Gj Jh (by omega)
  subst this;rw [e2] at e4
  have:=congrArg Prod.fst e4;have:=l3 this;omega
 ·unfold oP
  rw [List.pairwise_map];refine List.Pairwise.imp_of_mem ?_ ((q1.sublist List.filter_sublist));intro a b ha Al hl;obtain ⟨Al,b1⟩:=wI.1 Al;have b1:b.getD 1 0 ≠ -1:=by simpa using b1
  exact (hl.2 b1).2.1
theorem bNo{r:Lqq}(h0:0≤u∧u≤255)(hu:uni 2 r)(hl:r.length<20)(hb:∀ x∈r,pM x=true)(hp:r.Pairwise fun a b=>a.getD 1 0≤b.getD 1 0) :
  aG Tp 0 (sub (cd Tryz.f4) ax) (iG u r 0) (.exit 2) (iG u r (dW r (1+u.tmod 60) 360000).length):=by
 have hun:1≤1+u.tmod 60:=by have:=(yX (n:=u) (u:=60) h0.1 (by omega)).1;omega
 have hsl:(dW r (1+u.tmod 60) 360000).length=r.length:=by unfold dW;simp
 have Qw:uni 3 (dW r (1+u.tmod 60) 360000):=fun x hx=>by
  unfold dW at hx
  obtain ⟨y,_,rfl⟩:=dS.1 hx;rfl
 have hbs:=aGr r 360000 hb (by omega)
 have tb:∀ x∈r,0≤x.getD 1 0∧x.getD 1 0≤360000:=fun x hx=>by
  have:=hb x hx;unfold pM at this
  rw [Bl,bB,bB] at this
  exact this.2
 have at':∀ (k:Nat) (y0 y1:Int),r[k]? = some [y0,y1]→(dW r (1+u.tmod 60) 360000)[k]? = some [y0,dfI (1+u.tmod 60) 360000 (kP r) y1,0]:=fun k y0 y1 h=>by unfold dW;rw [eX,h];rfl
 exact aG.times (P:=Tp) (k:=0) (b:=sub (cd Tryz.f4) ax) (e := .exit 2) (fun k (_:Unit)=>iG u r k) (fun _=>iG u r (dW r (1+u.tmod 60) 360000).length) (fun a _=>a) (fun _ _=>True) (by simp) (dW r (1+u.tmod 60) 360000).length (a0:=()) trivial
  (fun k _ hk _=>⟨trivial,by
   rw [hsl] at hk
   obtain ⟨y0,y1,hy⟩:=at2 hu hk;obtain ⟨z0,z1,hz⟩:=at2 hu (i:=0) (by omega)
   have hym:=Bi hy;have hzm:=Bi hz;have ty:0≤y1∧y1≤360000:=tb _ hym;have tz:0≤z1∧z1≤360000:=tb _ hzm;have R7:kP r≤y1:=hbs.2.2 _ hym;have Lb:z1≤kP r:=bDe r 360000 tz.2 fun x hx=>by
    obtain ⟨i,hi⟩:=List.mem_iff_getElem?.1 hx
    rcases Nat.eq_zero_or_pos i with rfl | Gy
    ·rw [hz] at hi;cases hi;exact aNr _
    ·have hil:=bA hi
     have:=List.pairwise_iff_getElem.1 hp 0 i (by omega) hil Gy
     rw [geR hi hil,geR hz (by omega)] at this
     exact this
   have hd:=bNq (un:=1+u.tmod 60) (li:=360000) hun R7 (by omega)
   have J5:(k:Int)<((dW r (1+u.tmod 60) 360000).length:Int):=by omega
   have hn:inR (((k+1):Nat):Int):=aN (by omega)
   by_cases h:k=0
   ·exact aVn J5 (at' k y0 y1 hy) Qw hy hu rfl (by omega) hz (by show _∧_;omega) (by omega) hn rfl
   ·have e:(((k:Int)-(1:Int))).toNat=k-1:=by omega
    obtain ⟨x0,x1,hx⟩:=at2 hu (i:=k-1) (by omega)
    have Oz:kP r≤x1:=hbs.2.2 _ (Bi hx);have hxy:x1≤y1:=by
     have:=List.pairwise_iff_getElem.1 hp (k-1) k (by omega) hk (by omega)
     rw [geR hx (by omega),geR hy hk] at this
     exact this
    exact aVm J5 (at' k y0 y1 hy) Qw hy hu rfl (by omega) (by show _∧_;omega) (by rw [e];exact at' _ _ _ hx) (by omega) (aKi hun Oz hxy) hz (by show _∧_;omega) (by omega) hn rfl⟩)
  (fun _ _=>aVo (by omega))
end
theorem bNp(haw:∀ {base:Nat},FV Tp 26 [] base (.p (blP true)) [])(l1:List Int)(u:Int)(h0:0≤u∧u≤255){base:Nat}:FV Tp 4 [.p (.sl l1.length (l1.map cG)),.p (.v (.int .u8 u))] base (.p (blP true)) []:=by
 obtain ⟨sk,dc,m2,t3,e3⟩:∃ sk dc m t,aXm 8 16 l1 0 17=(sk,dc,m,t):=⟨_,_,_,_,rfl⟩;have hsp:=aLb (ns:=8) (nd:=16) (l:=l1) (nx:=0) (st:=17) (by omega) (by omega) (by omega)
 rw [e3] at hsp
 obtain ⟨hr,Nz,_,_,hup,_⟩:=hsp;have hr:cT 30 sk dc:=hr;have Nz:(sk.length:Int)≤8:=Nz;have hup:sk.Pairwise fun a b=>a.getD 0 0<b.getD 0 0:=hup
 have hs:(aB sk).Pairwise fun a b=>a.getD 0 0<b.getD 0 0:=by
  have h1:=oR sk;have h2:=(rZ hr).2.2.2;unfold aM at h2
  rw [List.Nodup,List.pairwise_map] at h2
  exact (h1.and h2).imp fun ⟨a,b⟩=>by omega
 have hRl:(bX 30 [] (aB dc) (aB sk)).length=sk.length:=by rw [bGn,fV]
 have hun:=yX (n:=u) (u:=60) h0.1 (by omega)
 have R8:u.tmod 60<60:=by rw [Int.tmod_eq_emod_of_nonneg h0.1];omega
 rcases aG.exF (P:=Tp) (k:=0) (b:=sub (cd Tryz.f4) bl) (e1 := .ret) (e2 := .exit 0) (fun i (_:Unit)=>eA u sk dc i (oP ((bX 30 [] (aB dc) (aB sk)).take i)).length ((oP ((bX 30 [] (aB dc) (aB sk)).take i)).flatten.map aA))
   (fun i _=>cQ (eA u sk dc i (oP ((bX 30 [] (aB dc) (aB sk)).take i)).length ((oP ((bX 30 [] (aB dc) (aB sk)).take i)).flatten.map aA)) [(4,.p (blP true))])
   (fun _=>eA u sk dc (bX 30 [] (aB dc) (aB sk)).length (oP ((bX 30 [] (aB dc) (aB sk)).take (bX 30 [] (aB dc) (aB sk)).length)).length ((oP ((bX 30 [] (aB dc) (aB sk)).take (bX 30 [] (aB dc) (aB sk)).length)).flatten.map aA))
   (fun _=>True) (by simp) (by simp) (fun i=>decide (360000<((bX 30 [] (aB dc) (aB sk)).getD i []).getD 2 0)) (bX 30 [] (aB dc) (aB sk)).length
   (fun i _ hi _ hp=>⟨(),trivial,by
    have hy:(bX 30 [] (aB dc) (aB sk))[i]? = some (bX 30 [] (aB dc) (aB sk))[i]:=Aq hi;generalize (bX 30 [] (aB dc) (aB sk))[i]=y at hy
    obtain ⟨y0,y1,y2,rfl⟩:=Eh (rD y (Bi hy));rw [gdR hy] at hp
    have hp:¬ 360000<y2:=of_decide_eq_false hp;have hpl:=aKh ((bX 30 [] (aB dc) (aB sk)).take i);rw [mP] at hpl
    have hn:inR (((i+1):Nat):Int):=aN (by omega)
    have es:=aVg hy
    by_cases h1:y1 = -1
    ·rw [if_neg (by simp [h1]),List.append_nil] at es
     rw [es];exact aVk (by omega) hy rD (by omega) h1 hn rfl
    ·rw [if_pos (by simp [h1])] at es
     exact aVj (by omega) hy rD (by omega) h1 ⟨rfl,by omega⟩ hn rfl (by rw [es,lT];rfl) (by rw [es];simp)⟩)
   (fun i _ hi _ hp=>⟨(),trivial,by
    have hy:(bX 30 [] (aB dc) (aB sk))[i]? = some (bX 30 [] (aB dc) (aB sk))[i]:=Aq hi;generalize (bX 30 [] (aB dc) (aB sk))[i]=y at hy
    obtain ⟨y0,y1,y2,rfl⟩:=Eh (rD y (Bi hy));rw [gdR hy] at hp
    have hp:360000<y2:=of_decide_eq_true hp;exact aVi (by omega) hy rD hp haw⟩)
   (fun _ _=>aVl (by omega)) (acc:=()) trivial with ⟨i,_,hi,hp,_,_,hL⟩ | ⟨hj,_,_,hL⟩
 ·exact bNu (by omega) (by omega) (by omega) e3 hr (by omega) hL
 ·rw [List.take_length] at hL
  have hb:∀ y∈bX 30 [] (aB dc) (aB sk),y.getD 2 0≤360000:=fun y hy=>by
   obtain ⟨i,hi⟩:=List.mem_iff_getElem?.1 hy;have:=hj i (bA hi);rw [gdR hi] at this
   have:¬ 360000<y.getD 2 0:=of_decide_eq_false this;omega
  obtain ⟨f1,f2,f3,f4⟩:=aVh hr hs hb;have hpl:=aKh (bX 30 [] (aB dc) (aB sk));exact bNt (by omega) (by omega) (by omega) e3 hr (by omega) hL (by show _∧_;omega) (by show _∧_;omega) f1 (by omega) f2 (by omega) (by omega) f3 f4 (by unfold dW;simp) (bNo h0 f1 (by omega) f2 f4) haw
end
end KV
end Go.Proofs
