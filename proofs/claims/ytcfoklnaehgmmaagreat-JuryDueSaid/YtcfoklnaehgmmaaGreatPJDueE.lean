/- Parts of the proof of JDue: laws of walks, contracts of functions, plain models. No condition. -/
import Derived.Test.YtcfoklnaehgmmaaGreatPJDueD
set_option linter.unusedVariables false
set_option linter.unusedSimpArgs false
set_option maxRecDepth 100000
namespace Go.Proofs
namespace KV
open Tryz
abbrev kVL (a b c d e f:Nat):List AV:=[.fn 100 [] [.ptr a 0,.ptr b 0,.ptr c 0,.ptr d 0],.fn 102 [] [.ptr e 0],.fn 103 [] [.ptr d 0,.ptr f 0],.fn 106 [] [.ptr d 0],.fn 104 [] [.ptr e 0]]
section
variable {Ef:Bool}{r6 y0 y1 y2 y3 y4 y5 num n102 Aa Ab:Int}{T104:Lqb}{x:List Int}{base:Nat}
variable {dl:Int}{sk dc:Lqq}

noncomputable abbrev aSb:Code:=pS (cd Tryz.f71) 9 [0,1,0,1,0,0]
noncomputable abbrev bIe:Code:=pS (cd Tryz.f71) 9 [0,1,0]
noncomputable abbrev aSc:Code:=pS (cd Tryz.f71) 9 [0,1,0,1]
theorem aCv:((0:Int) != 0)=false:=by first | decide | simp
def jB(dl:Int)(sk dc:Lqq)(r:Int)(x:List Int):Int × Bool:=totM dl x (aB dc) (((aB sk).getD (bI (fun x=>decide (r=x)) (aL (aB sk) 0)).toNat []).getD 0 0) (((aB sk).getD (bI (fun x=>decide (r=x)) (aL (aB sk) 0)).toNat []).getD 1 0)
def oT(dl:Int)(sk dc:Lqq)(num r6:Int):St:=⟨fr 102 [(3,(.rp [(aA num)] 0)),(4,(.ptr 0 0)),(5,(.ptr 1 0)),(6,(.rp [(PV.rp (aR dl (aB sk) (aB dc)) 0)] 0)),(9,(.rp [(aA r6)] 0)),(10,(.rp [(aA (bI (fun x=>decide (r6=x)) (aL (aB sk) 0)))] 0)),(53,(.fn 181 [] [(.rp [(aG ((aU dl (aB dc)).filter fun n => !(n == num)))] 0)]))],[some (.box 4 [(pB false)]),some (.box 36 [(pI 0)])]⟩
def aCw(dl:Int)(sk dc:Lqq)(num r6:Int):St:=⟨fr 102 [(3,(.rp [(aA num)] 0)),(4,(.ptr 0 0)),(5,(.ptr 1 0)),(6,(.rp [(PV.rp (aR dl (aB sk) (aB dc)) 0)] 0)),(9,(.rp [(aA r6)] 0)),(10,(.rp [(aA (bI (fun x=>decide (r6=x)) (aL (aB sk) 0)))] 0)),(53,(.fn 181 [] [(.rp [(aG ((aU dl (aB dc)).filter fun n => !(n == num)))] 0)]))],[some (.box 4 [(pB false)]),some (.box 36 [(pI 0)])]⟩
def aSd(dl:Int)(sk dc:Lqq)(num r6:Int):St:=⟨fr 102 [(3,(.rp [(aA num)] 0)),(4,(.ptr 0 0)),(5,(.ptr 1 0)),(6,(.rp [(PV.rp (aR dl (aB sk) (aB dc)) 0)] 0)),(9,(.rp [(aA r6)] 0)),(10,(.rp [(aA (bI (fun x=>decide (r6=x)) (aL (aB sk) 0)))] 0)),(53,(.fn 181 [] [(.rp [(aG ((aU dl (aB dc)).filter fun n => !(n == num)))] 0)]))],[some (.box 4 [(.kb true)]),some (.box 36 [(pI 0)])]⟩
section
variable(h0:cF dl sk dc)(h1:bS (aB dc))(h2:(aU dl (aB dc)).length≤1000)
include h0 h1 h2
theorem bWw(h3:((aU dl (aB dc)).contains num)=false):FV Tp 71 [(.p (.agg (dX dl sk dc))),(pI num)] base (.tup [(pB false),(pI 1)]) []:=have k1:=fk 4 (jR dl sk dc h0) rfl;have k2:=fk 3 (qV (dl:=dl) (sk:=(aB sk)) (dc:=(aB dc)) h1) rfl;FV.fi func71 [k1.o,bF,.g 1 ⟨[],[0,2,3],[4,1],[]⟩,.x (PV.rp (aR dl (aB sk) (aB dc)) 0),k2.o,.x (aA num),.c (pB ((aU dl (aB dc)).contains num)) [],bT] (gc (bZ h3) (gt (FC Tp 22 [(.own 3),(pI num)] [(3,(.row 3 ((aU dl (aB dc)).length) ((aU dl (aB dc)).map aA)))] 4 (pB ((aU dl (aB dc)).contains num)) []) (fv (lE (aU dl (aB dc)) num h2)) (gr (aA num) (gc k2 (gr (PV.rp (aR dl (aB sk) (aB dc)) 0) (gc aCv (gc k1 gn)))))))
theorem bWx(h3:((aU dl (aB dc)).contains num)=true)(h4:(8:Int)<((aU dl (aB dc)).length:Int)):FV Tp 71 [(.p (.agg (dX dl sk dc))),(pI num)] base (.tup [(pB false),(pI 10)]) []:=have k1:=fk 4 (jR dl sk dc h0) rfl;have k2:=fk 3 (qV (dl:=dl) (sk:=(aB sk)) (dc:=(aB dc)) h1) rfl;FV.fi func71 [k1.o,bF,.g 1 ⟨[],[0,2,3],[4,1],[]⟩,.x (PV.rp (aR dl (aB sk) (aB dc)) 0),k2.o,.x (aA num),.c (pB ((aU dl (aB dc)).contains num)) [],bF,bT] (gc (eV h4) (gc (aV h3) (gt (FC Tp 22 [(.own 3),(pI num)] [(3,(.row 3 ((aU dl (aB dc)).length) ((aU dl (aB dc)).map aA)))] 4 (pB ((aU dl (aB dc)).contains num)) []) (fv (lE (aU dl (aB dc)) num h2)) (gr (aA num) (gc k2 (gr (PV.rp (aR dl (aB sk) (aB dc)) 0) (gc aCv (gc k1 gn))))))))
end
section
variable(h0:cF dl sk dc)(h1:bS (aB dc))(h2:(aU dl (aB dc)).length≤1000)(h3:((aU dl (aB dc)).contains num)=true)(h4:((aU dl (aB dc)).length:Int)≤8)(h5:bV .i64 (atF (aB dc).reverse) (.int .i64 num))(h6:(cV (atF (aB dc).reverse) (.int .i64 num))=true)(h7:eL (atF (aB dc).reverse) (.int .i64 num)=some (dcE y0 y1 y2 y3 y4 y5))(h8:bFo dl (aB sk) (aB dc) [y0,y1,y2,y3,y4,y5] r6)(h9:uni 2 (aB sk)∧(aB sk).length≤1000)(B0:(aL (aB sk) 0).length≤1000)
include h0 h1 h2 h3 h4 h5 h6 h7 h8 h9 B0
theorem bWy(Cg:(bI (fun x=>decide (r6=x)) (aL (aB sk) 0))<0):FV Tp 71 [(.p (.agg (dX dl sk dc))),(pI num)] base (.tup [(pB false),(pI 0)]) []:=have k1:=fk 4 (jR dl sk dc h0) rfl;have k2:=fk 3 (qV (dl:=dl) (sk:=(aB sk)) (dc:=(aB dc)) h1) rfl;have k3:=fk 13 (mM dl (aB sk) (aB dc) h9) rfl;FV.fi func71 [k1.o,bF,.g 1 ⟨[],[0,2,3],[4,1],[]⟩,.x (PV.rp (aR dl (aB sk) (aB dc)) 0),k2.o,.x (aA num),.c (pB ((aU dl (aB dc)).contains num)) [],bF,bF,.x (PV.rp (aR dl (aB sk) (aB dc)) 0),.x (PV.rp (aR dl (aB sk) (aB dc)) 0),.x (.mp (atF (aB dc).reverse)),.x (aA num),bT,.x (dcE y0 y1 y2 y3 y4 y5),.c (pI r6) [],.x (PV.rp (aR dl (aB sk) (aB dc)) 0),.x (.agg (dX dl (aB sk) (aB dc))),k3.o,.c (pI (bI (fun x=>decide (r6=x)) (aL (aB sk) 0))) [],.g 2 ⟨[],[0,1,2,3,13],[12,29],[]⟩,.x (aA (bI (fun x=>decide (r6=x)) (aL (aB sk) 0))),bT] (gc (eV Cg) (gr (aA (bI (fun x=>decide (r6=x)) (aL (aB sk) 0))) (gt (FC Tp 20 [(.own 13),(pI r6)] [(13,(.row 3 ((aL (aB sk) 0).length) ((aL (aB sk) 0).map aA)))] 21 (pI (bI (fun x=>decide (r6=x)) (aL (aB sk) 0))) []) (fv (aBp (aL (aB sk) 0) r6 B0)) (gc k3 (gr (.agg (dX dl (aB sk) (aB dc))) (gt (0+3≤(aR dl (aB sk) (aB dc)).length) (by first | decide | simp) (gr (PV.rp (aR dl (aB sk) (aB dc)) 0) (gc (fk 4 (h8 _) rfl) (gc h7 (gc h6 (gc h5 (gr (aA num) (gr (.mp (atF (aB dc).reverse)) (gr (PV.rp (aR dl (aB sk) (aB dc)) 0) (gr (PV.rp (aR dl (aB sk) (aB dc)) 0) (gc (bA h4) (gc (aV h3) (gt (FC Tp 22 [(.own 3),(pI num)] [(3,(.row 3 ((aU dl (aB dc)).length) ((aU dl (aB dc)).map aA)))] 4 (pB ((aU dl (aB dc)).contains num)) []) (fv (lE (aU dl (aB dc)) num h2)) (gr (aA num) (gc k2 (gr (PV.rp (aR dl (aB sk) (aB dc)) 0) (gc aCv (gc k1 gn)))))))))))))))))))))))
theorem bWz(Cg:(0:Int)≤(bI (fun x=>decide (r6=x)) (aL (aB sk) 0)))(Hv:aC Tp 0 bIe (aCw dl sk dc num r6) .normal (oT dl sk dc num r6)):FV Tp 71 [(.p (.agg (dX dl sk dc))),(pI num)] base (.tup [(pB false),(pI 0)]) []:=have k1:=fk 4 (jR dl sk dc h0) rfl;have k2:=fk 3 (qV (dl:=dl) (sk:=(aB sk)) (dc:=(aB dc)) h1) rfl;have k3:=fk 13 (mM dl (aB sk) (aB dc) h9) rfl;have k4:=fk 5 (aPw (q:=((aU dl (aB dc)).filter fun n => !(n == num)))) rfl;FV.fi func71 [k1.o,bF,.g 1 ⟨[],[0,2,3],[4,1],[]⟩,.x (PV.rp (aR dl (aB sk) (aB dc)) 0),k2.o,.x (aA num),.c (pB ((aU dl (aB dc)).contains num)) [],bF,bF,.x (PV.rp (aR dl (aB sk) (aB dc)) 0),.x (PV.rp (aR dl (aB sk) (aB dc)) 0),.x (.mp (atF (aB dc).reverse)),.x (aA num),bT,.x (dcE y0 y1 y2 y3 y4 y5),.c (pI r6) [],.x (PV.rp (aR dl (aB sk) (aB dc)) 0),.x (.agg (dX dl (aB sk) (aB dc))),k3.o,.c (pI (bI (fun x=>decide (r6=x)) (aL (aB sk) 0))) [],.g 2 ⟨[],[0,1,2,3,13],[12,29],[]⟩,.x (aA (bI (fun x=>decide (r6=x)) (aL (aB sk) 0))),bF,.c (.p (aG ((aU dl (aB dc)).filter fun n => !(n == num)))) [(3,.dead)],k4.o,Hv.k 1 (gI bl [1,2])] (gc Hv (gc k4 (gt (FC Tp 137 [(.own 3),(.fn 138 [] [(.rp [(aA num)] 0)])] [(3,(.row 3 ((aU dl (aB dc)).length) ((aU dl (aB dc)).map aA)))] 5 (.p (aG ((aU dl (aB dc)).filter fun n => !(n == num)))) [(3,.dead)]) (FMM.fc (ids:=[3]) (bFm (l:=(aU dl (aB dc))) (m:=num) h2 (fun _ _=>rfl)) (by kernel_rfl)) (gc (bA Cg) (gr (aA (bI (fun x=>decide (r6=x)) (aL (aB sk) 0))) (gt (FC Tp 20 [(.own 13),(pI r6)] [(13,(.row 3 ((aL (aB sk) 0).length) ((aL (aB sk) 0).map aA)))] 21 (pI (bI (fun x=>decide (r6=x)) (aL (aB sk) 0))) []) (fv (aBp (aL (aB sk) 0) r6 B0)) (gc k3 (gr (.agg (dX dl (aB sk) (aB dc))) (gt (0+3≤(aR dl (aB sk) (aB dc)).length) (by first | decide | simp) (gr (PV.rp (aR dl (aB sk) (aB dc)) 0) (gc (fk 4 (h8 _) rfl) (gc h7 (gc h6 (gc h5 (gr (aA num) (gr (.mp (atF (aB dc).reverse)) (gr (PV.rp (aR dl (aB sk) (aB dc)) 0) (gr (PV.rp (aR dl (aB sk) (aB dc)) 0) (gc (bA h4) (gc (aV h3) (gt (FC Tp 22 [(.own 3),(pI num)] [(3,(.row 3 ((aU dl (aB dc)).length) ((aU dl (aB dc)).map aA)))] 4 (pB ((aU dl (aB dc)).contains num)) []) (fv (lE (aU dl (aB dc)) num h2)) (gr (aA num) (gc k2 (gr (PV.rp (aR dl (aB sk) (aB dc)) 0) (gc aCv (gc k1 gn))))))))))))))))))))))))))
theorem bXa(Cg:(0:Int)≤(bI (fun x=>decide (r6=x)) (aL (aB sk) 0)))(Hv:aC Tp 0 bIe (aCw dl sk dc num r6) .ret (aSd dl sk dc num r6)):FV Tp 71 [(.p (.agg (dX dl sk dc))),(pI num)] base (.tup [(pB true),(pI 0)]) []:=have k1:=fk 4 (jR dl sk dc h0) rfl;have k2:=fk 3 (qV (dl:=dl) (sk:=(aB sk)) (dc:=(aB dc)) h1) rfl;have k3:=fk 13 (mM dl (aB sk) (aB dc) h9) rfl;have k4:=fk 5 (aPw (q:=((aU dl (aB dc)).filter fun n => !(n == num)))) rfl;FV.fi func71 [k1.o,bF,.g 1 ⟨[],[0,2,3],[4,1],[]⟩,.x (PV.rp (aR dl (aB sk) (aB dc)) 0),k2.o,.x (aA num),.c (pB ((aU dl (aB dc)).contains num)) [],bF,bF,.x (PV.rp (aR dl (aB sk) (aB dc)) 0),.x (PV.rp (aR dl (aB sk) (aB dc)) 0),.x (.mp (atF (aB dc).reverse)),.x (aA num),bT,.x (dcE y0 y1 y2 y3 y4 y5),.c (pI r6) [],.x (PV.rp (aR dl (aB sk) (aB dc)) 0),.x (.agg (dX dl (aB sk) (aB dc))),k3.o,.c (pI (bI (fun x=>decide (r6=x)) (aL (aB sk) 0))) [],.g 2 ⟨[],[0,1,2,3,13],[12,29],[]⟩,.x (aA (bI (fun x=>decide (r6=x)) (aL (aB sk) 0))),bF,.c (.p (aG ((aU dl (aB dc)).filter fun n => !(n == num)))) [(3,.dead)],k4.o,Hv.k 1 (gI bl [1,2])] (gc Hv (gc k4 (gt (FC Tp 137 [(.own 3),(.fn 138 [] [(.rp [(aA num)] 0)])] [(3,(.row 3 ((aU dl (aB dc)).length) ((aU dl (aB dc)).map aA)))] 5 (.p (aG ((aU dl (aB dc)).filter fun n => !(n == num)))) [(3,.dead)]) (FMM.fc (ids:=[3]) (bFm (l:=(aU dl (aB dc))) (m:=num) h2 (fun _ _=>rfl)) (by kernel_rfl)) (gc (bA Cg) (gr (aA (bI (fun x=>decide (r6=x)) (aL (aB sk) 0))) (gt (FC Tp 20 [(.own 13),(pI r6)] [(13,(.row 3 ((aL (aB sk) 0).length) ((aL (aB sk) 0).map aA)))] 21 (pI (bI (fun x=>decide (r6=x)) (aL (aB sk) 0))) []) (fv (aBp (aL (aB sk) 0) r6 B0)) (gc k3 (gr (.agg (dX dl (aB sk) (aB dc))) (gt (0+3≤(aR dl (aB sk) (aB dc)).length) (by first | decide | simp) (gr (PV.rp (aR dl (aB sk) (aB dc)) 0) (gc (fk 4 (h8 _) rfl) (gc h7 (gc h6 (gc h5 (gr (aA num) (gr (.mp (atF (aB dc).reverse)) (gr (PV.rp (aR dl (aB sk) (aB dc)) 0) (gr (PV.rp (aR dl (aB sk) (aB dc)) 0) (gc (bA h4) (gc (aV h3) (gt (FC Tp 22 [(.own 3),(pI num)] [(3,(.row 3 ((aU dl (aB dc)).length) ((aU dl (aB dc)).map aA)))] 4 (pB ((aU dl (aB dc)).contains num)) []) (fv (lE (aU dl (aB dc)) num h2)) (gr (aA num) (gc k2 (gr (PV.rp (aR dl (aB sk) (aB dc)) 0) (gc aCv (gc k1 gn))))))))))))))))))))))))))
end
def rI(dl:Int)(sk dc:Lqq)(num r6:Int)(x:List Int):St:=⟨fr 102 [(3,(.rp [(aA num)] 0)),(4,(.ptr 0 0)),(5,(.ptr 1 0)),(6,(.rp [(PV.rp (aR dl (aB sk) (aB dc)) 0)] 0)),(9,(.rp [(aA r6)] 0)),(10,(.rp [(aA (bI (fun x=>decide (r6=x)) (aL (aB sk) 0)))] 0)),(11,(.own 2)),(53,(.fn 181 [] [(.rp [(aG ((aU dl (aB dc)).filter fun n => !(n == num)))] 0)])),(54,(.own 2))],[some (.box 4 [(pB false)]),some (.box 36 [(pI 0)]),some (.row 3 x.length (x.map aA))]⟩
def aIx(dl:Int)(sk dc:Lqq)(num r6:Int):St:=⟨fr 102 [],[some (.box 4 [(.kb true)]),some (.box 36 [(pI 0)]),some .dead]⟩
section
variable(hl0:aC Tp 3 aSb (rI dl sk dc num r6 x) .normal (cC (rI dl sk dc num r6 x) [(12,(pI ((jB dl sk dc r6 x).1))),(13,(pB ((jB dl sk dc r6 x).2)))]))(h1:(aB sk)[(bI (fun x=>decide (r6=x)) (aL (aB sk) 0)).toNat]? = some [Aa,Ab])(h2:0≤(bI (fun x=>decide (r6=x)) (aL (aB sk) 0)))(h3:uni 2 (aB sk))(h4:[(aA num)].length=1*1∧x.length+1≤1000000)(h5:aDo dl (aB sk) (aB dc) (.sl (x.length+1) ((x.map aA)++[(aA num)])) [Aa,Ab] n102 Ef ([]:Lqb) T104)(h6:dL [(aA r6),(aA 0),(aA ((jB dl sk dc r6 x).1))] [(0,3,true),(1,3,true),(2,3,true)]=true∧dL [(aA r6),(aA 0),(aA n102)] [(0,3,true),(1,3,true),(2,3,true)]=true)
include hl0 h1 h2 h3 h4 h5 h6
theorem bCs(h7:(mB [(aA r6),(aA 0),(aA ((jB dl sk dc r6 x).1))] [(aA r6),(aA 0),(aA n102)] [(0,3,true),(1,3,true),(2,3,true)])=false):aC Tp 3 aSc (rfO (oT dl sk dc num r6) 54 11 x) .ret (aIx dl sk dc num r6):=have k1:=mq c8 13 h5;aC.fi (gZ [0,102]) [hl0.k 2 (gZ ar),.x (PV.rp (aR dl (aB sk) (aB dc)) 0),.x (PV.rp (aR dl (aB sk) (aB dc)) 0),.x (.sl ((aB sk).length) ((aB sk).flatten.map aA)),.x (aA (bI (fun x=>decide (r6=x)) (aL (aB sk) 0))),.x (.agg [(aA Aa),(aA Ab)]),.x (PV.rp (aR dl (aB sk) (aB dc)) 0),.x (aA num),.c (.agg (kVL 9 10 5 7 11 6)) [(4,.dead),(5,(Eg dl (aB sk) (aB dc))),(6,(.box 31 [(.p (.sl (x.length+1) ((x.map aA)++[(aA num)])))])),(7,(.box 119 (kVL 9 10 5 7 11 6))),(8,(.mp (aK ([]:Lqb)) 0)),(9,(.box 183 [(.mp 8)])),(10,(Eh dl (aB sk) (aB dc))),(11,(.box 185 [(.fn 99 [] [(.ptr 5 0),(.ptr 7 0)])]))],k1.o,.x (aA r6),.x (aA r6),bT,bT,bT,bT] (A3 (bZ h7) (gc h6 (gr (aA r6) (gr (aA r6) (gc k1 (gt (FC Tp 54 [(.rp (aR dl (aB sk) (aB dc)) 0),(.own 4)] [(4,(.row 3 (x.length+1) ((x.map aA)++[(aA num)])))] 5 (.agg (kVL 9 10 5 7 11 6)) [(4,.dead),(5,(Eg dl (aB sk) (aB dc))),(6,(.box 31 [(.p (.sl (x.length+1) ((x.map aA)++[(aA num)])))])),(7,(.box 119 (kVL 9 10 5 7 11 6))),(8,(.mp (aK ([]:Lqb)) 0)),(9,(.box 183 [(.mp 8)])),(10,(Eh dl (aB sk) (aB dc))),(11,(.box 185 [(.fn 99 [] [(.ptr 5 0),(.ptr 7 0)])]))]) (FC.close1 (Am:=[(.rp (aR dl (aB sk) (aB dc)) 0),(.p (.sl (x.length+1) ((x.map aA)++[(aA num)])))]) (FMM.fcN (k:=7) rfl (ids:=[]) (oP (dl:=dl) (sk:=(aB sk)) (dc:=(aB dc)) (on:=(x.length+1)) (ol:=((x.map aA)++[(aA num)]))) (by kernel_rfl)) (by kernel_rfl)) (gc h4 (gr (aA num) (gr (PV.rp (aR dl (aB sk) (aB dc)) 0) (gfz h3 h2 h1 (gr (aA (bI (fun x=>decide (r6=x)) (aL (aB sk) 0))) (gr (.sl ((aB sk).length) ((aB sk).flatten.map aA)) (gr (PV.rp (aR dl (aB sk) (aB dc)) 0) (gr (PV.rp (aR dl (aB sk) (aB dc)) 0) (gc hl0 gn)))))))))))))))
theorem bCt(h7:(mB [(aA r6),(aA 0),(aA ((jB dl sk dc r6 x).1))] [(aA r6),(aA 0),(aA n102)] [(0,3,true),(1,3,true),(2,3,true)])=true)(h8:(((jB dl sk dc r6 x).2) == Ef)=false):aC Tp 3 aSc (rfO (oT dl sk dc num r6) 54 11 x) .ret (aIx dl sk dc num r6):=have k1:=mq c8 13 h5;aC.fi (gZ [0,102]) [hl0.k 2 (gZ ar),.x (PV.rp (aR dl (aB sk) (aB dc)) 0),.x (PV.rp (aR dl (aB sk) (aB dc)) 0),.x (.sl ((aB sk).length) ((aB sk).flatten.map aA)),.x (aA (bI (fun x=>decide (r6=x)) (aL (aB sk) 0))),.x (.agg [(aA Aa),(aA Ab)]),.x (PV.rp (aR dl (aB sk) (aB dc)) 0),.x (aA num),.c (.agg (kVL 9 10 5 7 11 6)) [(4,.dead),(5,(Eg dl (aB sk) (aB dc))),(6,(.box 31 [(.p (.sl (x.length+1) ((x.map aA)++[(aA num)])))])),(7,(.box 119 (kVL 9 10 5 7 11 6))),(8,(.mp (aK ([]:Lqb)) 0)),(9,(.box 183 [(.mp 8)])),(10,(Eh dl (aB sk) (aB dc))),(11,(.box 185 [(.fn 99 [] [(.ptr 5 0),(.ptr 7 0)])]))],k1.o,.x (aA r6),.x (aA r6),bF,bF,bF,bF,bT] (gc (bZ h8) (A3 (aV h7) (gc h6 (gr (aA r6) (gr (aA r6) (gc k1 (gt (FC Tp 54 [(.rp (aR dl (aB sk) (aB dc)) 0),(.own 4)] [(4,(.row 3 (x.length+1) ((x.map aA)++[(aA num)])))] 5 (.agg (kVL 9 10 5 7 11 6)) [(4,.dead),(5,(Eg dl (aB sk) (aB dc))),(6,(.box 31 [(.p (.sl (x.length+1) ((x.map aA)++[(aA num)])))])),(7,(.box 119 (kVL 9 10 5 7 11 6))),(8,(.mp (aK ([]:Lqb)) 0)),(9,(.box 183 [(.mp 8)])),(10,(Eh dl (aB sk) (aB dc))),(11,(.box 185 [(.fn 99 [] [(.ptr 5 0),(.ptr 7 0)])]))]) (FC.close1 (Am:=[(.rp (aR dl (aB sk) (aB dc)) 0),(.p (.sl (x.length+1) ((x.map aA)++[(aA num)])))]) (FMM.fcN (k:=7) rfl (ids:=[]) (oP (dl:=dl) (sk:=(aB sk)) (dc:=(aB dc)) (on:=(x.length+1)) (ol:=((x.map aA)++[(aA num)]))) (by kernel_rfl)) (by kernel_rfl)) (gc h4 (gr (aA num) (gr (PV.rp (aR dl (aB sk) (aB dc)) 0) (gfz h3 h2 h1 (gr (aA (bI (fun x=>decide (r6=x)) (aL (aB sk) 0))) (gr (.sl ((aB sk).length) ((aB sk).flatten.map aA)) (gr (PV.rp (aR dl (aB sk) (aB dc)) 0) (gr (PV.rp (aR dl (aB sk) (aB dc)) 0) (gc hl0 gn))))))))))))))))
end
def aSe(dl:Int)(sk dc:Lqq)(num r6:Int):St:=⟨fr 102 [(3,(.rp [(aA num)] 0)),(4,(.ptr 0 0)),(5,(.ptr 1 0)),(6,(.rp [(PV.rp (aR dl (aB sk) (aB dc)) 0)] 0)),(9,(.rp [(aA r6)] 0)),(10,(.rp [(aA (bI (fun x=>decide (r6=x)) (aL (aB sk) 0)))] 0)),(53,(.fn 181 [] [(.rp [(aG ((aU dl (aB dc)).filter fun n => !(n == num)))] 0)]))],[some (.box 4 [(pB false)]),some (.box 36 [(pI 0)]),some .dead]⟩
theorem bCu(hl0:aC Tp 3 aSb (rI dl sk dc num r6 x) .normal (cC (rI dl sk dc num r6 x) [(12,(pI ((jB dl sk dc r6 x).1))),(13,(pB ((jB dl sk dc r6 x).2)))]))(h1:(aB sk)[(bI (fun x=>decide (r6=x)) (aL (aB sk) 0)).toNat]? = some [Aa,Ab])(h2:0≤(bI (fun x=>decide (r6=x)) (aL (aB sk) 0)))(h3:uni 2 (aB sk))(h4:[(aA num)].length=1*1∧x.length+1≤1000000)(h5:aDo dl (aB sk) (aB dc) (.sl (x.length+1) ((x.map aA)++[(aA num)])) [Aa,Ab] n102 Ef ([]:Lqb) T104)(h6:dL [(aA r6),(aA 0),(aA ((jB dl sk dc r6 x).1))] [(0,3,true),(1,3,true),(2,3,true)]=true∧dL [(aA r6),(aA 0),(aA n102)] [(0,3,true),(1,3,true),(2,3,true)]=true)(h7:(mB [(aA r6),(aA 0),(aA ((jB dl sk dc r6 x).1))] [(aA r6),(aA 0),(aA n102)] [(0,3,true),(1,3,true),(2,3,true)])=true)(h8:(((jB dl sk dc r6 x).2) == Ef)=true):aC Tp 3 aSc (rfO (oT dl sk dc num r6) 54 11 x) .normal (aSe dl sk dc num r6):=have k1:=mq c8 13 h5;aC.fi (gZ bl) ([hl0.k 2 (gZ ar),.x (PV.rp (aR dl (aB sk) (aB dc)) 0),.x (PV.rp (aR dl (aB sk) (aB dc)) 0),.x (.sl ((aB sk).length) ((aB sk).flatten.map aA)),.x (aA (bI (fun x=>decide (r6=x)) (aL (aB sk) 0))),.x (.agg [(aA Aa),(aA Ab)]),.x (PV.rp (aR dl (aB sk) (aB dc)) 0),.x (aA num),.c (.agg (kVL 9 10 5 7 11 6)) [(4,.dead),(5,(Eg dl (aB sk) (aB dc))),(6,(.box 31 [(.p (.sl (x.length+1) ((x.map aA)++[(aA num)])))])),(7,(.box 119 (kVL 9 10 5 7 11 6))),(8,(.mp (aK ([]:Lqb)) 0)),(9,(.box 183 [(.mp 8)])),(10,(Eh dl (aB sk) (aB dc))),(11,(.box 185 [(.fn 99 [] [(.ptr 5 0),(.ptr 7 0)])]))],k1.o,.x (aA r6),.x (aA r6)]++rF 5) (gc (aV h8) (A3 (aV h7) (gc h6 (gr (aA r6) (gr (aA r6) (gc k1 (gt (FC Tp 54 [(.rp (aR dl (aB sk) (aB dc)) 0),(.own 4)] [(4,(.row 3 (x.length+1) ((x.map aA)++[(aA num)])))] 5 (.agg (kVL 9 10 5 7 11 6)) [(4,.dead),(5,(Eg dl (aB sk) (aB dc))),(6,(.box 31 [(.p (.sl (x.length+1) ((x.map aA)++[(aA num)])))])),(7,(.box 119 (kVL 9 10 5 7 11 6))),(8,(.mp (aK ([]:Lqb)) 0)),(9,(.box 183 [(.mp 8)])),(10,(Eh dl (aB sk) (aB dc))),(11,(.box 185 [(.fn 99 [] [(.ptr 5 0),(.ptr 7 0)])]))]) (FC.close1 (Am:=[(.rp (aR dl (aB sk) (aB dc)) 0),(.p (.sl (x.length+1) ((x.map aA)++[(aA num)])))]) (FMM.fcN (k:=7) rfl (ids:=[]) (oP (dl:=dl) (sk:=(aB sk)) (dc:=(aB dc)) (on:=(x.length+1)) (ol:=((x.map aA)++[(aA num)]))) (by kernel_rfl)) (by kernel_rfl)) (gc h4 (gr (aA num) (gr (PV.rp (aR dl (aB sk) (aB dc)) 0) (gfz h3 h2 h1 (gr (aA (bI (fun x=>decide (r6=x)) (aL (aB sk) 0))) (gr (.sl ((aB sk).length) ((aB sk).flatten.map aA)) (gr (PV.rp (aR dl (aB sk) (aB dc)) 0) (gr (PV.rp (aR dl (aB sk) (aB dc)) 0) (gc hl0 gn))))))))))))))))
end
section
variable {F:Fence} {n:Nat} {P:Program}
theorem aSa{o:Oper}{a:Act}{next D3:Act→World→Prop}{Q Q':Exit→Act→World→Prop}{r:Result Next}(h:o.uponIn F n P a next Q r)
  (hn:∀ v d w',next (({ a with defers:=d }:Act).put o.dst v) w'→D3 (({ a with defers:=d }:Act).put o.dst v) w') (hQ:∀ e a' w',e ≠ .normal→Q e a' w'→Q' e a' w') (hL:LetsOut Q→LetsOut Q'):o.uponIn F n P a D3 Q' r:=by
 have D5:∀ v w',next (a.put o.dst v) w'→D3 (a.put o.dst v) w':=fun v w'=>hn v a.defers w'
 cases r with
 | halt x w' =>
  cases x <;> first | exact hQ _ _ _ (by simp) h | exact h
 | ok nx w' =>
  cases nx with
  | value v=>exact D5 _ _ h
  | skip=>exact D5 _ _ h
  | defer d=>exact hn _ _ _ h
  | enter f us =>
   refine ⟨h.1,h.2.mono ?_⟩;intro e Fp he;cases e with
   | returned v=>exact D5 _ _ he
   | panicked c=>exact hQ _ _ _ (by simp) he
   | outgrown=>exact hL he
  | row r us=>exact ⟨h.1,h.2.mono fun v Fp he=>D5 _ _ he⟩
  | round l f tmps Vq bd =>
   refine ⟨h.1,h.2.mono ?_⟩;intro e Fp he;cases e with
   | returned v=>exact D5 _ _ he
   | panicked c=>exact hQ _ _ _ (by simp) he
   | outgrown=>exact hL he
  | _=>exact h
def Kps(ops:Array Oper)(a0 a:Act):Prop:=∀ i,(∀ o∈ops.toList,o.dst≠some i)→a.tmps.getD i undef=a0.tmps.getD i undef
theorem bCr{ops:Array Oper}{Q Q':Exit→Act→World→Prop}{i:Nat}{K K':Act→World→Prop}{a0 a:Act}{w:World}(h:wpOpIn F n P ops Q i K a w)(ha:Kps ops a0 a)(hK:∀ a' w',Kps ops a0 a'→K a' w'→K' a' w')
  (hQ:∀ e a' w',e ≠ .normal→Q e a' w'→Q' e a' w') (hL:LetsOut Q→LetsOut Q'):wpOpIn F n P ops Q' i K' a w:=by
 unfold wpOpIn at h ⊢
 split
 ·rename_i hi
  simp only [hi] at h
  exact hK _ _ ha h
 ·rename_i o hi
  simp only [hi] at h
  have hm:o∈ops.toList:=by
   obtain ⟨hl,he⟩:=kP.1 hi;rw [← he];exact Array.mem_toList_iff.2 (Array.getElem_mem hl)
  have hput:∀ v (d:List Deferred),Kps ops a0 (({ a with defers:=d }:Act).put o.dst v):=fun v d i hd=>by
   rw [nP (a:={ a with defers:=d }) (hd o hm)]
   exact ha i hd
  split at h
  ·rename_i hw
   rw [if_pos hw];exact ⟨h.1,aSa h.2 (fun v d w' hn=>hK _ _ (hput v d) hn) hQ hL⟩
  ·rename_i hw
   rw [if_neg hw];exact ⟨h.1,hK _ _ (hput undef a.defers) h.2⟩
theorem aCu{md:Region.Mode}{ops:Array Oper}{Q:Exit→Act→World→Prop}{a0:Act}:∀ (fuel:Nat) (listed:Array Bool) (a:Act) (w:World),wpAnyIn F n P md ops Q fuel listed a w→Kps ops a0 a →
  wpAnyIn F n P md ops (fun e a' w'=>Q e a' w'∧(e = .normal→Kps ops a0 a')) fuel listed a w
 | 0,listed,a,w,h,ha=>⟨h.1,h.2,fun _=>ha⟩
 | fuel+1,listed,a,w,h,ha=>by
  refine ⟨fun h0=>⟨h.1 h0,fun _=>ha⟩,fun j hj => ?_⟩
  exact bCr (h.2 j hj) ha (fun a' w' hk h'=>aCu fuel _ a' w' h' hk) (fun e a' w' hne hq=>⟨hq,fun he=>absurd he hne⟩) (fun ⟨a',w',hq⟩=>⟨a',w',hq,fun he=>by cases he⟩)
end
section
section
variable {F:Fence} {n:Nat} {P:Program}
def bkD(ds:List Deferred)(a:Act):Act:={ a with defers:=a.defers++ds }
theorem aIw(ds:List Deferred)(a:Act)(d:Option Nat)(v:Value):(bkD ds a).put d v=bkD ds (a.put d v):=by cases d <;> rfl
theorem aCt(ds:List Deferred)(a:Act):(bkD ds a).eval=a.eval:=by funext x;cases x <;> rfl
theorem bCp(ds:List Deferred){o:Oper}{a:Act}{next D3:Act→World→Prop}{Q Q':Exit→Act→World→Prop}{r:Result Next}(h:o.uponIn F n P a next Q r)
  (hn:∀ a' w',next a' w'→D3 (bkD ds a') w') (hQ:∀ e a' w',Q e a' w'→Q' e (bkD ds a') w') (hL:LetsOut Q→LetsOut Q'):o.uponIn F n P (bkD ds a) D3 Q' r:=by
 have hv:∀ v w',next (a.put o.dst v) w'→D3 ((bkD ds a).put o.dst v) w':=fun v w' h=>by rw [aIw];exact hn _ _ h
 cases r with
 | halt x w' =>
  cases x <;> first | exact hQ _ _ _ h | exact h
 | ok nx w' =>
  cases nx with
  | value v=>exact hv _ _ h
  | skip=>exact hv _ _ h
  | defer d =>
   have:=hn _ _ h;rw [← aIw] at this
   exact this
  | enter f us =>
   refine ⟨h.1,h.2.mono ?_⟩;intro e Fp he;cases e with
   | returned v=>exact hv _ _ he
   | panicked c=>exact hQ _ _ _ he
   | outgrown=>exact hL he
  | row r us=>exact ⟨h.1,h.2.mono fun v Fp he=>hv _ _ he⟩
  | round l f tmps Vq bd =>
   refine ⟨h.1,h.2.mono ?_⟩;intro e Fp he;cases e with
   | returned v=>exact hv _ _ he
   | panicked c=>exact hQ _ _ _ he
   | outgrown=>exact hL he
  | _=>exact h
theorem bOr(ds:List Deferred){ops:Array Oper}{Q Q':Exit→Act→World→Prop}{i:Nat}{K K':Act→World→Prop}{a:Act}{w:World}(h:wpOpIn F n P ops Q i K a w)(hK:∀ a' w',K a' w'→K' (bkD ds a') w')
  (hQ:∀ e a' w',Q e a' w'→Q' e (bkD ds a') w') (hL:LetsOut Q→LetsOut Q'):wpOpIn F n P ops Q' i K' (bkD ds a) w:=by
 unfold wpOpIn at h ⊢
 split
 ·rename_i hi
  simp only [hi] at h
  exact hK _ _ h
 ·rename_i o hi
  simp only [hi] at h
  have e1:(bkD ds a).tmps=a.tmps:=rfl;rw [e1]
  split at h
  ·rename_i hw
   rw [if_pos hw];refine ⟨by rw [aCt];exact h.1,?_⟩
   rw [aCt];exact bCp ds h.2 hK hQ hL
  ·rename_i hw
   rw [if_neg hw];exact ⟨by rw [aCt];exact h.1,by rw [aIw];exact hK _ _ h.2⟩
theorem aMj(ds:List Deferred){md:Region.Mode}{ops:Array Oper}{Q Q':Exit→Act→World→Prop}(hQ:∀ e a' w',Q e a' w'→Q' e (bkD ds a') w')(hL:LetsOut Q→LetsOut Q'):∀ (fuel:Nat) (listed:Array Bool) (a:Act) (w:World),wpAnyIn F n P md ops Q fuel listed a w→wpAnyIn F n P md ops Q' fuel listed (bkD ds a) w
 | 0,listed,a,w,h=>⟨h.1,hQ _ _ _ h.2⟩
 | fuel+1,listed,a,w,h=>⟨fun h0=>hQ _ _ _ (h.1 h0),fun j hj=>bOr ds (h.2 j hj) (fun a' w' h'=>aMj ds hQ hL fuel _ a' w' h') hQ hL⟩
end
variable {P:Program} {T:TT} {E:Env}
theorem bCq(ds:List Deferred)(hT:∀ t i,T t=some i→bU P t=some i)(hE:kI P E)(hm:P.follows .mixedOrders=true){id:Nat}{ops:Array Oper}{st Ag:St}{s s':AS}(h:aJd P T E ops true st s=some (Ag,s'))(g:aW s')
  (C0:Cx) (M0:Mem) (w0:World) (a:Act) (w:World) (hs:Sim P C0 M0 w0 st a w) (ro:Option Nat) (n:Nat):(Code.region id ops true).wpIn (Fen ro) n P (fun e' a' w'=>e'=Ex.normal.toExit∧∃ a2,a'=bkD ds a2∧Sim P C0 M0 w0 Ag a2 w'∧Kps ops a a2) (bkD ds a) w:=by
 obtain ⟨_,s1,h1,k1⟩:=aD h;obtain ⟨e1,rfl⟩:=aE h1;obtain ⟨r,s2,h2,k2⟩:=aD k1;obtain ⟨_,s3,h3,k3⟩:=aD k2;obtain ⟨e3,rfl⟩:=aE h3;obtain ⟨rfl,rfl⟩:=aH k3;obtain ⟨hB,_⟩:=bD e1;obtain ⟨hA,_⟩:=bD e3;obtain ⟨os,hfts,hlex⟩:=pG ops.toList _ (fts:=r.1) (fin:=r.2) h2 g
 replace hB:=vY hB
 unfold Region.lexB at hB
 rw [Bg] at hB
 have hlen:os.length=ops.toList.length:=by
  have:∀ {l:List Oper} {id:Nat} {st:St} {os:List uE} {fin:St},aJe P T E ops.toList id l st os fin→os.length=l.length:=by
   intro l
   induction l with
   | nil=>intro id st os fin h;cases h;rfl
   | cons o l ih=>intro id st os fin h;cases h with | cons _ _ _ _ q os _ h hr=>simp [ih hr]
  exact this hlex
 have key:nD P T E ops.toList st.m.length (fun k=>os.getD k (.any,[],none)) r.2 ops.toList.length (Array.replicate ops.size false) st:=by
  refine nD.lex ops.toList 0 _ st os (fun j=>by simp) (fun j q hj=>by simp [Bj,hj]) (fun j hj=>absurd hj (aOi _)) (fun j oj hj hl => ?_) (fun i j _ hij hj => ?_) (by simpa using hB.2) (by simpa [ido] using hlex)
  ·exfalso
   rcases Nat.lt_or_ge j ops.size with h' | h'
   ·simp [h'] at hl
   ·simp [Nat.not_lt.2 h'] at hl
  have Dm:j<os.length:=by
   rw [hlen];obtain ⟨o,ho⟩:=Option.isSome_iff_exists.1 hj;exact (A2.1 ho).1
  have:=lK r.1 0 hA i j (zO os[i]) (zO os[j]) hij (by rw [hfts,B6,Ap (by omega)];rfl) (by rw [hfts,B6,Ap Dm];rfl)
  rw [fE,fE] at this
  simp only [Bj,Ap Dm,Ap (show i<os.length by omega),Option.getD_some,Array.toArray_toList]
  exact this
 refine wpIn_region_any hm ?_;have:=nD.sound hT hE (C0:=C0) (M0:=M0) (w0:=w0) (ro:=ro) (n:=n) (Q:=fun e' a' w'=>e'=Ex.normal.toExit∧Sim P C0 M0 w0 r.2 a' w') (fun a' w' h'=>⟨rfl,h'⟩) _ _ _ a _ key (hs.drawn (w.drawn+1))
 have h2:=aCu (a0:=a) _ _ _ _ (by simpa using this) (fun _ _=>rfl)
 exact aMj ds (fun e a' w' h=>⟨h.1.1,a',rfl,h.1.2,h.2 h.1.1⟩) (fun ⟨a',w',h⟩=>by cases h.1.1) _ _ _ _ h2

end
section
def rH(P:Program)(k:Nat)(c:Code)(st:St)(e:Ex)(Ag:St):Prop:=∀ (C0:Cx) (M0:Mem) (w0:World) (a:Act) (w:World),M0.length≤k→Sim P C0 M0 w0 st a w→∀ (ds:List Deferred) (ro:Option Nat) (n:Nat),c.wpIn (Fen ro) n P (fun e' a' w'=>e'=e.toExit∧∃ a2,a'=bkD ds a2∧Sim P C0 M0 w0 Ag a2 w'∧(∀ i,wrR c i=false→a2.tmps.getD i undef=a.tmps.getD i undef)) (bkD ds a) w
noncomputable def bId(c:Code)(st:St):Ask (Ex × St):=match c with
 | .region _ ops true=>do
  let Ag ← aJd Tp tT EO ops true st
  pure (.normal,Ag)
 | _=>fail
theorem rH.fin{k:Nat}{c:Code}{st Ag:St}{e:Ex}{g:Gh}{o:List OI}{l:List Prop}(h:yP k g (bId c st (asg o))=some (e,Ag,l,[]))(gd:aW (out l)):rH Tp k c st e Ag:=by
 unfold yP at h
 split at h
 ·rename_i e1 st1 s hr
  split at h
  ·rename_i st2 hg
   simp only [Option.some.injEq,Prod.mk.injEq] at h
   obtain ⟨rfl,rfl,rfl,hs⟩:=h;unfold bId at hr
   split at hr
   ·rename_i id ops
    obtain ⟨R6,s1,h1,k1⟩:=aD hr;obtain ⟨he,rfl⟩:=aH k1;cases he;intro C0 M0 w0 a w hk hsm ds ro n;refine wpIn_mono (bCq ds aEz aEy mixed h1 (fun p hp=>gd p hp) C0 M0 w0 a w hsm ro n) ?_
    rintro e' a' w' ⟨rfl,a2,rfl,h',hkp⟩;exact ⟨rfl,a2,rfl,dU hk hg h',fun i hi=>hkp i fun o ho e=>by
     unfold wrR at hi
     have:=List.any_eq_false.1 hi o ho;rw [e] at this
     exact this (Nat.beq_refl i)⟩
   ·cases hr
  ·cases h
 ·cases h
theorem rH.fi{k:Nat}{c:Code}{st Ag:St}{e:Ex}(g:Gh)(o:List OI){l:List Prop}(gd:aW (out l))(h:yP k g (bId c st (asg o))=some (e,Ag,l,[]):=by kernel_rfl):rH Tp k c st e Ag:=rH.fin h gd
end
section

theorem bWv{dl:Int}{sk dc:Lqq}{num r6:Int}{x:List Int}{y0 y1 n2:Int}{b3:Bool}{T4:Lqb}(h0:(aB sk)[(bI (fun x=>decide (r6=x)) (aL (aB sk) 0)).toNat]? = some [y0,y1])(h1:0≤(bI (fun x=>decide (r6=x)) (aL (aB sk) 0)))(h2:uni 2 (aB sk))(h3:aDo dl (aB sk) (aB dc) (aG x) [y0,y1] n2 b3 ([]:Lqb) T4):rH Tp 0 (sub (cd Tryz.f71) [1,1,1,1,1,1,1,1,1,0,1,0,1,0,0]) ⟨fr 102 [(3,(.rp [(aA num)] 0)),(6,(.rp [(PV.rp (aR dl (aB sk) (aB dc)) 0)] 0)),(9,(.rp [(aA r6)] 0)),(10,(.rp [(aA (bI (fun x=>decide (r6=x)) (aL (aB sk) 0)))] 0)),(11,(.p (aG x)))],[]⟩ .normal ⟨fr 102 [(3,(.rp [(aA num)] 0)),(6,(.rp [(PV.rp (aR dl (aB sk) (aB dc)) 0)] 0)),(9,(.rp [(aA r6)] 0)),(10,(.rp [(aA (bI (fun x=>decide (r6=x)) (aL (aB sk) 0)))] 0)),(11,(.p (aG x))),(12,(pI n2)),(13,(pB b3))],[]⟩:=have k1:=mN [] 0 (oP (dl:=dl) (sk:=(aB sk)) (dc:=(aB dc)) (on:=x.length) (ol:=(x.map aA)));have k2:=mq ck 8 h3;rH.fi (gZ [0,3,4,2,7,2,14,88]) [.x (PV.rp (aR dl (aB sk) (aB dc)) 0),.x (PV.rp (aR dl (aB sk) (aB dc)) 0),.x (.sl ((aB sk).length) ((aB sk).flatten.map aA)),.x (aA (bI (fun x=>decide (r6=x)) (aL (aB sk) 0))),.x (.agg [(aA y0),(aA y1)]),.x (PV.rp (aR dl (aB sk) (aB dc)) 0),k1.o,k2.o] (gc k2 (gc k1 (gr (PV.rp (aR dl (aB sk) (aB dc)) 0) (gfz h2 h1 h0 (gr (aA (bI (fun x=>decide (r6=x)) (aL (aB sk) 0))) (gr (.sl ((aB sk).length) ((aB sk).flatten.map aA)) (gr (PV.rp (aR dl (aB sk) (aB dc)) 0) (gr (PV.rp (aR dl (aB sk) (aB dc)) 0) gn))))))))
end
end KV
end Go.Proofs
section
namespace Go.Proofs
open Go.RowKit
namespace KV
open Tryz
theorem bIb{P:Program}{C:Cx}{st:St}{a:Act}{w:World}(hS:dO C st.m w st.t a.tmps)(hM:aO P C st.m w)(hp:eQ st.m=true)(hn:aNd st.m) :
  Sim P (cxF fun _=>False) [] { w with heap := #[] } st { a with defers:=[] } w :=
 ⟨C,hS,hM,⟨rfl,rfl,rfl,Nat.zero_le _,fun b hb=>absurd hb (aOi _),fun _ _ h=>by simp at h,fun _ _ h=>by simp at h,fun _ _ h=>by simp at h,fun _ _ b _ _ _ => .inl (Nat.zero_le _),fun _ h=>h.elim,fun b _ => .inr (.inl (Nat.zero_le _))⟩,.nil rfl hn⟩
theorem bCo{P:Program}{C:Cx}{M:Mem}{W W':World}(hM:aO P C M W)(hg:W.grownBy W' none):aO P C M W'∧Fr C M W C M W':=by
 have hsame:∀ b,b<W.heap.size→W'.heap[b]? = W.heap[b]? := fun b hb=>hg.block b hb (fun e=>by cases e)
 have hL:Le C C M M W W':=⟨fun _ o h=>⟨o,h⟩,fun _ _ _ _ _ cs h=>⟨cs,h⟩,fun _ o h o' h' hl=>by rw [h] at h';cases h';exact ⟨hl,rfl,rfl⟩,fun _ h=>h,fun b hb=>hsame b (hM.Fs b hb)⟩
 refine ⟨⟨fun i ty n cs hm => ?_,fun i ty cs hm => ?_,fun i es cl hm => ?_,hM.inj,hM.nF,fun b hb=>B5 (hM.Fs b hb) hg.size,fun i o b ho hl hb=>B5 (hM.lt i o b ho hl hb) hg.size⟩,
  ⟨hg.os,hg.tape,hg.output,hg.size,fun b hb _=>hsame b hb,fun i o h=>⟨⟨o,h⟩,rfl,rfl⟩,fun _ _ _ _ _ cs h=>⟨cs,h⟩,fun _ o h o' h' hl=>by rw [h] at h';cases h';exact hl,fun i o b ho hl hb => .inr ⟨i,o,ho,hl,hb⟩,fun _ h=>h,fun _ h => .inl h⟩⟩
 ·rcases hM.row _ _ _ _ hm with h4 | ⟨b,arr,inf,q0,q1,q2,q3,q4,q5,q6,q7,q8⟩
  ·exact .inl h4
  ·exact .inr ⟨b,arr,inf,q0,(hsame b (kP.1 q1).1).trans q1,q2,q3,q4,q5,q6,fun j hj=>(q7 j hj).mono hL.F hL.fz,q8⟩
 ·obtain ⟨b,arr,q0,q1,q2,q3,q4⟩:=hM.box _ _ _ hm
  exact ⟨b,arr,q0,(hsame b (kP.1 q1).1).trans q1,q2,fun j hj=>(q3 j hj).mono hL,q4⟩
 ·obtain ⟨b,arr,q0,q1,q2,q3⟩:=hM.mp _ _ _ hm
  refine ⟨b,arr,q0,(hsame b (kP.1 q1).1).trans q1,q2,fun j hj => ?_⟩
  obtain ⟨en,r1,r2,r3,r4⟩:=q3 j hj;exact ⟨en,r1,r2,r3,r4.mono hL.F hL.fz⟩
def bIc(t:List AV)(i:Nat):Bool:=match t[i]? with
 | some .any=>true
 | _=>false
theorem aUt{C:Cx}{M:Mem}{w:World}{v u:Value}(h:Rep C M w (.p (.v v)) u):u=v:=by
 cases h with
 | p _ _ h=>cases h;rfl
theorem bWu{P:Program}{k:Nat}{c:Code}{tA tB:List AV}{S:St}{g:Gh}{i1 i2:Nat}{v1 v2:Value}(hk:rH P 0 c ⟨tA,[]⟩ .normal ⟨tB,[]⟩)(hg:gh 0 g S=some ⟨tA,[]⟩)(hn:eQ S.m=true)
  (h1:tB[i1]? = some (.p (.v v1))) (h2:tB[i2]? = some (.p (.v v2))) (hne:i1≠i2) (hl:tB.length=S.t.length) (hall:((List.range S.t.length).all fun i => !wrR c i || Nat.beq i i1 || Nat.beq i i2 || bIc S.t i)=true) :
  aC P k c S .normal (cC S [(i1,.p (.v v1)),(i2,.p (.v v2))]):=by
 intro C0 M0 w0 a w hk0 hs ro _ n;obtain ⟨C,hS,hM,hF,hD⟩:=hs;obtain ⟨C1,Hm,Bd,_,_⟩:=dU (cP 0) hg (bIb hS hM hn (dM hn).2);have Gd:Sim P (C1.with []) [] w ⟨tA,[]⟩ { a with defers:=[] } w:=⟨C1,Hm,Bd,(Fr.refl _ _ _).based [],.nil rfl (dM (m:=[]) rfl).2⟩
 have:=hk (C1.with []) [] w _ w (cP 0) Gd a.defers ro n
 refine wpIn_mono this ?_;rintro e' a' w' ⟨rfl,a2,rfl,⟨C2,M7,Gw,E0,⟨l2,d1,d2,d3⟩,_⟩,hkp⟩;have Gx:w.grownBy w' none:=aLg E0;obtain ⟨Fx,Gq⟩:=bCo hM Gx;have H0:=hS.le (hM.le Gq);refine ⟨rfl,C,⟨?_,fun i hi => ?_⟩,Fx,hF.trans Gq,?_⟩
 ·have e0:=M7.size
  show a2.tmps.size=((S.t.set i1 _).set i2 _).length;rw [nJ,nJ];exact e0.trans hl
 ·have B2:i<S.t.length:=by
   have:i<((S.t.set i1 (.p (.v v1))).set i2 (.p (.v v2))).length:=hi
   rwa [nJ,nJ] at this
  have key:∀ x,((S.t.set i1 (.p (.v v1))).set i2 (.p (.v v2)))[i]? = some x→Rep C S.m w' x (a2.tmps.getD i undef):=by
   intro x hx
   by_cases e2:i2=i
   ·subst e2
    rw [bIy (by rw [nJ];exact B2)] at hx
    cases hx;rw [aUt (M7.at h2)]
    exact .p _ _ (.v _)
   rw [bIz e2] at hx
   by_cases e1:i1=i
   ·subst e1
    rw [bIy B2] at hx
    cases hx;rw [aUt (M7.at h1)]
    exact .p _ _ (.v _)
   rw [bIz e1] at hx
   have hc:=fD.1 hall i (vA.2 B2);cases hw:wrR c i with
   | false =>
    rw [hkp i hw];exact H0.at hx
   | true =>
    have n1:Nat.beq i i1=false:=by
     cases h:Nat.beq i i1 with
     | false=>rfl
     | true=>exact absurd (Nat.eq_of_beq_eq_true h).symm e1
    have n2:Nat.beq i i2=false:=by
     cases h:Nat.beq i i2 with
     | false=>rfl
     | true=>exact absurd (Nat.eq_of_beq_eq_true h).symm e2
    rw [hw,n1,n2] at hc
    have hc:bIc S.t i=true:=hc;unfold bIc at hc
    rw [hx] at hc
    cases x <;> first | exact .any _ | cases hc
  exact key _ (Ap hi)
 ·obtain ⟨⟨l,e1,e2,e3⟩,hR⟩:=hD.fr hM .refl Gq
  obtain ⟨⟨l',Ih,_,Kh⟩,_⟩:=hD;have hll:l=l':=by
   have:=e1.symm.trans Ih;exact (List.map_inj_right (fun x y h=>by simpa [mark] using h)).1 this
  refine ⟨⟨l2++l,?_,?_,?_⟩,hR⟩
  ·show a2.defers++a.defers=_
   rw [d1,e1,eE]
  ·refine List.nodup_append.2 ⟨d2,e2,fun x hx y hy hxy => ?_⟩
   have:=(d3 x hx).2.1;have:=(kP.1 (Kh y (hll ▸ hy)).1).1;subst hxy;omega
  ·intro D Ki
   rcases eU.1 Ki with h | h
   ·exact ⟨(d3 D h).1,fL hF.size (d3 D h).2.1,fun hf=>by
     have:=hM.Fs D hf;have:=(d3 D h).2.1;omega⟩
   ·exact e3 D h
end KV
end Go.Proofs
end
namespace Go.Proofs
namespace KV
open Tryz
section
variable {dl:Int}{sk dc:Lqq}
theorem bOn(l:List Int)(v:Int)(hl:l.length≤1000000){base:Nat}:FV Tp 20 [.p (aG l),.p (aA v)] base (pI (bI (fun x=>decide (v=x)) l)) []:=by
 rcases aF.find (P:=Tp) (k:=0) (b:=(sub (cd Tryz.f20) cw)) (fun i=>gH l v i) (fun i _=>cC (gH l v i) [(4,.p (aA (i:Int)))]) (gH l v l.length) .ret (.exit 0) (by simp) (by simp) (fun x=>decide (v=x)) l
  (fun i x hx hp=>aFf (by have:=aX hx;omega) hx (by simpa using hp) (aM (by have:=aX hx;omega)) rfl)
  (fun i x hx hp=>aFe (by have:=aX hx;omega) hx (by simpa using hp))
  (aFg (l:=l) (i:=l.length) (by omega)) with ⟨i,x,h1,h2,h3,h4⟩ | ⟨h1,h2,h3⟩
 ·rw [eZ h2];exact bEt h4
 ·rw [fA h1];exact bEs h3
theorem bOo(l:List Int)(v:Int)(hl:l.length≤1000000){base:Nat}:FV Tp 22 [.p (aG l),.p (aA v)] base (pB (l.contains v)) []:=by
 rw [← vC];have k1:=fk 0 (bOn l v hl) rfl;exact FV.fi func22 [k1.o] (gc k1 gn)
theorem bOp{l:List Int}(hl:l.length≤1000000)(n:Int):sG (aG l) n (l.contains n):=fun base=>bOo l n hl
def aDt(dl:Int)(sk dc:Lqq)(num r6:Int)(x:List Int):Bool := !(((jB dl sk dc r6 x).1 == (jB dl sk dc r6 (x++[num])).1) && ((jB dl sk dc r6 x).2 == (jB dl sk dc r6 (x++[num])).2))
theorem bXz(r t t':Int):mB [aA r,aA 0,aA t] [aA r,aA 0,aA t'] [(0,3,true),(1,3,true),(2,3,true)]=(t == t'):=by
 rw [Bool.eq_iff_iff];simp [mB,aDe]
theorem aUs{r6 y0 y1:Int}(h:(aB sk)[(bI (fun x=>decide (r6=x)) (aL (aB sk) 0)).toNat]? = some [y0,y1])(x:List Int):jB dl sk dc r6 x=totM dl x (aB dc) y0 y1:=by
 have e:(aB sk).getD (bI (fun x=>decide (r6=x)) (aL (aB sk) 0)).toNat []=[y0,y1]:=by
  rw [Bj,h];rfl
 unfold jB;rw [e];rfl
theorem bHz{dl:Int}{sk dc:Lqq}{num r6:Int}{x:List Int}(hd:bS (aB dc))(hu:uni 2 (aB sk))(hs:∀ s∈aB sk,-1≤s.getD 1 0∧s.getD 1 0≤360000)(hx:x.length≤1000){y0 y1:Int}(h0:(aB sk)[(bI (fun x=>decide (r6=x)) (aL (aB sk) 0)).toNat]? = some [y0,y1])(h1:0≤(bI (fun x=>decide (r6=x)) (aL (aB sk) 0))) :
  aC Tp 3 (sub (cd Tryz.f71) [1,1,1,1,1,1,1,1,1,0,1,0,1,0,0]) (rI dl sk dc num r6 x) .normal (cC (rI dl sk dc num r6 x) [(12,(pI ((jB dl sk dc r6 x).1))),(13,(pB ((jB dl sk dc r6 x).2)))]):=by
 obtain ⟨T',_,hT⟩:=bGf (sk:=aB sk) hd (fun n=>aCa hx n) y0 y1 (hs _ (Bf h0)) (T:=[]) bY.nil
 rw [aUs h0];exact bWu (bWv (num:=num) h0 h1 hu hT) (g:=⟨(rng [(0,3),(4,2),(7,2),(12,90)]),[],[2],[]⟩) (by kernel_rfl) rfl (by rfl) (by rfl) (by decide) (by rfl) (by kernel_rfl)
theorem bCm{dl:Int}{sk dc:Lqq}{num r6:Int}{x:List Int}(hd:bS (aB dc))(hu:uni 2 (aB sk))(hs:∀ s∈aB sk,-1≤s.getD 1 0∧s.getD 1 0≤360000)(hx:x.length≤1000){y0 y1:Int}(h0:(aB sk)[(bI (fun x=>decide (r6=x)) (aL (aB sk) 0)).toNat]? = some [y0,y1])(h1:0≤(bI (fun x=>decide (r6=x)) (aL (aB sk) 0))) :
  (aDt dl sk dc num r6 x=false→aC Tp 3 (sub (cd Tryz.f71) [1,1,1,1,1,1,1,1,1,0,1,0,1]) (rfO (oT dl sk dc num r6) 54 11 x) .normal (aSe dl sk dc num r6)) ∧
  (aDt dl sk dc num r6 x=true→aC Tp 3 (sub (cd Tryz.f71) [1,1,1,1,1,1,1,1,1,0,1,0,1]) (rfO (oT dl sk dc num r6) 54 11 x) .ret (aIx dl sk dc num r6)):=by
 have hn:=bHz (dl:=dl) (num:=num) hd hu hs hx h0 h1;obtain ⟨T',_,hT⟩:=bGf (dl:=dl) (sk:=aB sk) hd (fun n=>bOp (l:=x++[num]) (by rw [fK];show x.length+1≤_;omega) n) y0 y1 (hs _ (Bf h0)) (T:=[]) bY.nil
 rw [← aUs h0] at hT
 have hov:aG (x++[num]) = .sl (x.length+1) (x.map aA++[aA num]):=by
  show PV.sl (x++[num]).length ((x++[num]).map aA)=_;rw [fK,eE];rfl
 rw [hov] at hT
 have hq:=bXz r6 (jB dl sk dc r6 x).1 (jB dl sk dc r6 (x++[num])).1;unfold aDt;cases ha:((jB dl sk dc r6 x).1 == (jB dl sk dc r6 (x++[num])).1) with
 | false =>
  refine ⟨fun h=>(by cases h),fun _ => ?_⟩
  rw [ha] at hq
  exact bCs hn h0 h1 hu ⟨rfl,by omega⟩ hT ⟨rfl,rfl⟩ hq
 | true =>
  rw [ha] at hq
  cases hb:((jB dl sk dc r6 x).2 == (jB dl sk dc r6 (x++[num])).2) with
  | false =>
   refine ⟨fun h=>(by cases h),fun _ => ?_⟩
   exact bCt hn h0 h1 hu ⟨rfl,by omega⟩ hT ⟨rfl,rfl⟩ hq hb
  | true =>
   refine ⟨fun _ => ?_,fun h=>(by cases h)⟩
   exact bCu hn h0 h1 hu ⟨rfl,by omega⟩ hT ⟨rfl,rfl⟩ hq hb
theorem bCn{num r6:Int}(hd:bS (aB dc))(hu:uni 2 (aB sk))(hs:∀ s∈aB sk,-1≤s.getD 1 0∧s.getD 1 0≤360000){y0 y1:Int}(h0:(aB sk)[(bI (fun x=>decide (r6=x)) (aL (aB sk) 0)).toNat]? = some [y0,y1])(h1:0≤(bI (fun x=>decide (r6=x)) (aL (aB sk) 0)))(ho:((aU dl (aB dc)).filter fun n => !(n == num)).length≤60) :
  ((iK ((aU dl (aB dc)).filter fun n => !(n == num))).any (aDt dl sk dc num r6)=false→aC Tp 0 (sub (cd Tryz.f71) [1,1,1,1,1,1,1,1,1,0,1,0]) (aCw dl sk dc num r6) .normal (oT dl sk dc num r6)) ∧
  ((iK ((aU dl (aB dc)).filter fun n => !(n == num))).any (aDt dl sk dc num r6)=true→aC Tp 0 (sub (cd Tryz.f71) [1,1,1,1,1,1,1,1,1,0,1,0]) (aCw dl sk dc num r6) .ret (aSd dl sk dc num r6)):=by
 have main:=aFl (P:=Tp) (k:=0) (kb:=3) (kk:=2) (g0:=⟨[],[],[],[]⟩) (g1:=⟨[],[],[],[]⟩) (gR:=⟨[],[],[],[]⟩) (aCw dl sk dc num r6) (fun _=>oT dl sk dc num r6) (fun _ _=>aSe dl sk dc num r6) (fun _ _=>aIx dl sk dc num r6) (oT dl sk dc num r6).t (aSd dl sk dc num r6).m (fun _=>aDt dl sk dc num r6)
  (cc := sub (cd Tryz.f71) [1, 1, 1, 1, 1, 1, 1, 1, 1, 0, 1, 0]) (gi := 53) (p1 := 54) (d := 11) (id := 14) (ty := 31) (pos := "outcome.go:200") (body := sub (cd Tryz.f71) [1, 1, 1, 1, 1, 1, 1, 1, 1, 0, 1, 0, 1]) (by kernel_rfl)
  rfl (fun _=>rfl) (g := .fn 181 [] [.rp [aG ((aU dl (aB dc)).filter fun n => !(n == num))] 0]) (by rfl) (aFj _ ho) (fun args w=>rfl) (fun _=>rfl) (fun _=>rfl) (fun _ _=>rfl) (fun _ _=>rfl) rfl rfl (fun _=>by show 2<3;omega) (by kernel_rfl) (fun x=>rfl) (by show 2≤2;omega) rfl (by kernel_rfl) (fun pre l=>by kernel_rfl) (fun _ _ _=>by kernel_rfl) (fun pre l _ hx=>bCm hd hu hs hx h0 h1)
 refine ⟨fun h=>main.1 fun pre l hp => ?_,fun h=>main.2 ?_⟩
 ·have:=List.any_eq_false.1 h l (hp.subset (by simp))
  simpa using this
 ·obtain ⟨l,hl,hb⟩:=List.any_eq_true.1 h
  obtain ⟨s,t,e⟩:=List.append_of_mem hl;exact ⟨s,l,⟨t,by rw [e];simp⟩,hb⟩
def bIa(dl:Int)(sk dc:Lqq)(num:Int):Bool × Int :=
 if (aU dl (aB dc)).contains num=false then (false,1) else if 8<(aU dl (aB dc)).length then (false,10) else
 if bI (fun x=>decide (aLe (aB dc) num=x)) (aL (aB sk) 0)<0 then (false,0) else ((iK ((aU dl (aB dc)).filter fun n => !(n == num))).any (aDt dl sk dc num (aLe (aB dc) num)),0)
theorem bOq{α:Type}{p:α→Bool}{l:List α}(h:0≤bI p l):(bI p l).toNat<l.length:=by
 unfold bI at h ⊢
 cases e:l.findIdx? p with
 | none=>rw [e] at h;simp at h
 | some i =>
  obtain ⟨hi,_⟩:=List.findIdx?_eq_some_iff_getElem.1 e;simpa using hi
theorem bWt(h:cF dl sk dc)(num:Int){base:Nat}:FV Tp 71 [.p (.agg (dX dl sk dc)),.p (aA num)] base (.tup [.p (blP (bIa dl sk dc num).1),.p (aA (bIa dl sk dc num).2)]) []:=by
 have hd:=lF h;obtain ⟨hu,hl,hs,_⟩:=vF h;have hol:(aU dl (aB dc)).length≤1000:=by
  unfold aU;rw [A8];exact fL (aBa _ _) hd.len
 unfold bIa;cases hc:(aU dl (aB dc)).contains num with
 | false=>exact bWw h hd hol hc
 | true =>
  rw [if_neg (by simp)]
  by_cases h8:8<(aU dl (aB dc)).length
  ·rw [if_pos h8];exact bWx h hd hol hc (by omega)
  ·rw [if_neg h8]
   have hm:num∈aU dl (aB dc):=by simpa using hc
   have Cm:=hm;unfold aU at Cm
   obtain ⟨x,hx,rfl⟩:=dH.1 Cm;have hx:=(aBd.1 hx).1;have hr:=eR hd hx;have hsb:aLe (aB dc) (dN x)=vJ (aB dc) x:=by unfold aLe;rw [aUa hd hx]
   obtain ⟨q1,q2⟩:=aQj hd hx;have hk:=vH hd (n:=dN x) (by show _∧_;omega)
   have hab:=kX hd x hx;rw [hsb];obtain ⟨a,b,c,d,e,f,rfl⟩:=Az (hd.ud x hx);have hf:inR f:=by
    have:=(gY.1 (hd.rng _ hx));unfold inR;simp [dAb] at this hab ⊢;omega
   have hsbj:bFo dl (aB sk) (aB dc) [a,b,c,d,e,f] (vJ (aB dc) [a,b,c,d,e,f]):=fun base=>bGd hd hf (.inl hx) hr.2
   have hcl:(aL (aB sk) 0).length≤1000:=by rw [lW];omega
   by_cases h0:bI (fun x=>decide (vJ (aB dc) [a,b,c,d,e,f]=x)) (aL (aB sk) 0)<0
   ·rw [if_pos h0]
    exact bWy h hd hol hc (by omega) hk q1 q2 hsbj ⟨hu,by omega⟩ hcl h0
   ·rw [if_neg h0]
    have hi:=bOq (p:=fun x=>decide (vJ (aB dc) [a,b,c,d,e,f]=x)) (l:=aL (aB sk) 0) (by omega)
    rw [lW] at hi
    obtain ⟨y0,y1,hy⟩:=at2 hu hi;have hrg:=bCn (dl:=dl) (num:=dN [a,b,c,d,e,f]) hd hu hs hy (by omega) (fL (aBa _ _) (by omega))
    cases hb:(iK ((aU dl (aB dc)).filter fun n => !(n == dN [a,b,c,d,e,f]))).any (aDt dl sk dc (dN [a,b,c,d,e,f]) (vJ (aB dc) [a,b,c,d,e,f])) with
    | false=>exact bWz h hd hol hc (by omega) hk q1 q2 hsbj ⟨hu,by omega⟩ hcl (by omega) (hrg.1 hb)
    | true=>exact bXa h hd hol hc (by omega) hk q1 q2 hsbj ⟨hu,by omega⟩ hcl (by omega) (hrg.2 hb)
end
section
variable {base:Nat}

theorem aRy:((0:Int) == 0)=true:=by first | decide | simp
theorem aRz:((0:Int) != 0)=false:=by first | decide | simp
theorem aIv:((3:Int) != 3)=false:=by first | decide | simp
theorem bWo:((15100:Int) == 15100)=true:=by first | decide | simp
abbrev thD:List PV:=[(aA 1),(aA 0),(aA 0),(aA 1),(aA 300),(aA 0),(aA 2),(aA 7),(aA 10),(aA 0),(aA 0),(aA 1),(aA 3),(aA 9),(aA 40),(aA 0),(aA 0),(aA 2),(aA 4),(aA 5),(aA 50),(aA 0),(aA 0),(aA 3),(aA 5),(aA 6),(aA 60),(aA 0),(aA 100),(aA 1)]
abbrev thS:List PV:=[(aA 1),(aA 15000),(aA 2),(aA 15100),(aA 3),(aA 15200)]
abbrev xF:AV:=(.p (.agg [(aA 30),(.sl 3 thS),(.sl 2 [(aA 1),(aA 0),(aA 0),(aA 1),(aA 300),(aA 0),(aA 2),(aA 7),(aA 10),(aA 0),(aA 0),(aA 1)])]))
abbrev bWp:AV:=(.p (.agg [(aA 30),(.sl 3 thS),(.sl 3 [(aA 1),(aA 0),(aA 0),(aA 1),(aA 300),(aA 0),(aA 2),(aA 7),(aA 10),(aA 0),(aA 0),(aA 1),(aA 3),(aA 9),(aA 40),(aA 0),(aA 0),(aA 2)])]))
abbrev bWq:AV:=(.p (.agg [(aA 30),(.sl 3 thS),(.sl 4 [(aA 1),(aA 0),(aA 0),(aA 1),(aA 300),(aA 0),(aA 2),(aA 7),(aA 10),(aA 0),(aA 0),(aA 1),(aA 3),(aA 9),(aA 40),(aA 0),(aA 0),(aA 2),(aA 4),(aA 5),(aA 50),(aA 0),(aA 0),(aA 3)])]))
abbrev bWr:AV:=(.p (.agg [(aA 30),(.sl 3 thS),(.sl 5 [(aA 1),(aA 0),(aA 0),(aA 1),(aA 300),(aA 0),(aA 2),(aA 7),(aA 10),(aA 0),(aA 0),(aA 1),(aA 3),(aA 9),(aA 40),(aA 0),(aA 0),(aA 2),(aA 4),(aA 5),(aA 50),(aA 0),(aA 0),(aA 3),(aA 5),(aA 6),(aA 60),(aA 0),(aA 100),(aA 1)])]))
theorem bOg{Dk:List PV}(h0:0≤(0:Int)∧(0:Int)≤2∧(2:Int)≤5)(Cu:Dk=((thD.drop 0).take (2*(thD.length / 5)))):FV Tp 66 [(pI 2)] base (.p (.agg [(aA 30),(.sl 3 [(aA 1),(aA 15000),(aA 2),(aA 15100),(aA 3),(aA 15200)]),(.sl 2 Dk)])) []:=by
 subst Cu;have k1:=fk 1 (aHp (a:=(1:Int)) (b:=(1:Int)) (c:=(300:Int))) rfl;have k2:=fk 1 (gK (a:=(2:Int)) (b:=(7:Int)) (c:=(1:Int)) (d:=(10:Int)) (e:=(0:Int))) rfl;have k3:=fk 1 (gK (a:=(3:Int)) (b:=(9:Int)) (c:=(2:Int)) (d:=(40:Int)) (e:=(0:Int))) rfl;have k4:=fk 1 (gK (a:=(4:Int)) (b:=(5:Int)) (c:=(3:Int)) (d:=(50:Int)) (e:=(0:Int))) rfl;have k5:=fk 1 (gK (a:=(5:Int)) (b:=(6:Int)) (c:=(1:Int)) (d:=(60:Int)) (e:=(100:Int))) rfl;exact FV.frz (FMM.fi 0 ⟨[],[],[2,1],[]⟩ func66 [k1.o,k2.o,k3.o,k4.o,k5.o] (gc h0 (gc k5 (gc k4 (gc k3 (gc k2 (gc k1 gn))))))) (by kernel_rfl)
theorem bOh{Dk:List PV}(h0:0≤(0:Int)∧(0:Int)≤3∧(3:Int)≤5)(Cu:Dk=((thD.drop 0).take (3*(thD.length / 5)))):FV Tp 66 [(pI 3)] base (.p (.agg [(aA 30),(.sl 3 [(aA 1),(aA 15000),(aA 2),(aA 15100),(aA 3),(aA 15200)]),(.sl 3 Dk)])) []:=by
 subst Cu;have k1:=fk 1 (aHp (a:=(1:Int)) (b:=(1:Int)) (c:=(300:Int))) rfl;have k2:=fk 1 (gK (a:=(2:Int)) (b:=(7:Int)) (c:=(1:Int)) (d:=(10:Int)) (e:=(0:Int))) rfl;have k3:=fk 1 (gK (a:=(3:Int)) (b:=(9:Int)) (c:=(2:Int)) (d:=(40:Int)) (e:=(0:Int))) rfl;have k4:=fk 1 (gK (a:=(4:Int)) (b:=(5:Int)) (c:=(3:Int)) (d:=(50:Int)) (e:=(0:Int))) rfl;have k5:=fk 1 (gK (a:=(5:Int)) (b:=(6:Int)) (c:=(1:Int)) (d:=(60:Int)) (e:=(100:Int))) rfl;exact FV.frz (FMM.fi 0 ⟨[],[],[2,1],[]⟩ func66 [k1.o,k2.o,k3.o,k4.o,k5.o] (gc h0 (gc k5 (gc k4 (gc k3 (gc k2 (gc k1 gn))))))) (by kernel_rfl)
theorem bOi{Dk:List PV}(h0:0≤(0:Int)∧(0:Int)≤4∧(4:Int)≤5)(Cu:Dk=((thD.drop 0).take (4*(thD.length / 5)))):FV Tp 66 [(pI 4)] base (.p (.agg [(aA 30),(.sl 3 [(aA 1),(aA 15000),(aA 2),(aA 15100),(aA 3),(aA 15200)]),(.sl 4 Dk)])) []:=by
 subst Cu;have k1:=fk 1 (aHp (a:=(1:Int)) (b:=(1:Int)) (c:=(300:Int))) rfl;have k2:=fk 1 (gK (a:=(2:Int)) (b:=(7:Int)) (c:=(1:Int)) (d:=(10:Int)) (e:=(0:Int))) rfl;have k3:=fk 1 (gK (a:=(3:Int)) (b:=(9:Int)) (c:=(2:Int)) (d:=(40:Int)) (e:=(0:Int))) rfl;have k4:=fk 1 (gK (a:=(4:Int)) (b:=(5:Int)) (c:=(3:Int)) (d:=(50:Int)) (e:=(0:Int))) rfl;have k5:=fk 1 (gK (a:=(5:Int)) (b:=(6:Int)) (c:=(1:Int)) (d:=(60:Int)) (e:=(100:Int))) rfl;exact FV.frz (FMM.fi 0 ⟨[],[],[2,1],[]⟩ func66 [k1.o,k2.o,k3.o,k4.o,k5.o] (gc h0 (gc k5 (gc k4 (gc k3 (gc k2 (gc k1 gn))))))) (by kernel_rfl)
theorem bOj{Dk:List PV}(h0:0≤(0:Int)∧(0:Int)≤5∧(5:Int)≤5)(Cu:Dk=((thD.drop 0).take (5*(thD.length / 5)))):FV Tp 66 [(pI 5)] base (.p (.agg [(aA 30),(.sl 3 [(aA 1),(aA 15000),(aA 2),(aA 15100),(aA 3),(aA 15200)]),(.sl 5 Dk)])) []:=by
 subst Cu;have k1:=fk 1 (aHp (a:=(1:Int)) (b:=(1:Int)) (c:=(300:Int))) rfl;have k2:=fk 1 (gK (a:=(2:Int)) (b:=(7:Int)) (c:=(1:Int)) (d:=(10:Int)) (e:=(0:Int))) rfl;have k3:=fk 1 (gK (a:=(3:Int)) (b:=(9:Int)) (c:=(2:Int)) (d:=(40:Int)) (e:=(0:Int))) rfl;have k4:=fk 1 (gK (a:=(4:Int)) (b:=(5:Int)) (c:=(3:Int)) (d:=(50:Int)) (e:=(0:Int))) rfl;have k5:=fk 1 (gK (a:=(5:Int)) (b:=(6:Int)) (c:=(1:Int)) (d:=(60:Int)) (e:=(100:Int))) rfl;exact FV.frz (FMM.fi 0 ⟨[],[],[2,1],[]⟩ func66 [k1.o,k2.o,k3.o,k4.o,k5.o] (gc h0 (gc k5 (gc k4 (gc k3 (gc k2 (gc k1 gn))))))) (by kernel_rfl)
theorem vT{base:Nat}:FV Tp 66 [.p (aA 2)] base xF []:=bOg (by decide) rfl
theorem bOk{base:Nat}:FV Tp 66 [.p (aA 3)] base bWp []:=bOh (by decide) rfl
theorem bOl{base:Nat}:FV Tp 66 [.p (aA 4)] base bWq []:=bOi (by decide) rfl
theorem bOm{base:Nat}:FV Tp 66 [.p (aA 5)] base bWr []:=bOj (by decide) rfl
theorem bWs(h28_0:∀ base:Nat,FV Tp 25 [xF] base (.tup [(.own base),(pI 0)]) [(base,(.row 63 3 [(aA 2),(aA 1),(aA 15100),(aA 3),(aA 2),(aA 15200),(aA 1),(aA 3),(aA 15300)]))])(h21_1:∀ base:Nat,FV Tp 16 [xF,(.p (.sl 1 [(aA 2)]))] base (.tup [(.own base),(pI 0)]) [(base,(.row 63 3 [(aA 1),(aA 1),(aA 15000),(aA 2),(aA 2),(aA 15100),(aA 3),(aA 3),(aA 15200)]))])(h71_2:∀ base:Nat,FV Tp 68 [xF,(pI 1)] base (.tup [(.p (.sl 2 [(aA 1),(aA 3)])),(pB false),(pI 0)]) [])(h33_3:∀ base:Nat,FV Tp 69 [xF,(pI 2)] base (.tup [(.p (.sl 1 [(aA 2)])),(pI 0)]) [])(h51_4:∀ base:Nat,FV Tp 70 [(.p (.sl 3 [(aA 2),(aA 1),(aA 15100),(aA 3),(aA 2),(aA 15200),(aA 1),(aA 3),(aA 15300)])),(.p (.sl 3 [(aA 2),(aA 1),(aA 15100),(aA 3),(aA 2),(aA 15200),(aA 1),(aA 3),(aA 15300)]))] base (pB true) [])(h5:dL [(aA 1),(aA 1),(aA 15000)] [(0,3,true),(1,3,true),(2,3,true)]=true∧dL [(aA 1),(aA 1),(aA 15000)] [(0,3,true),(1,3,true),(2,3,true)]=true)(h6:(mB [(aA 1),(aA 1),(aA 15000)] [(aA 1),(aA 1),(aA 15000)] [(0,3,true),(1,3,true),(2,3,true)])=true)(h41_7:∀ base:Nat,FV Tp 38 [(.p (.sl 2 [(aA 1),(aA 3)])),(.p (.sl 2 [(aA 1),(aA 3)]))] base (pB true) [])(h41_8:∀ base:Nat,FV Tp 38 [(.p (.sl 1 [(aA 2)])),(.p (.sl 1 [(aA 2)]))] base (pB true) [])(h19_9:∀ base:Nat,FV Tp 13 [bWp] base (.tup [(.p (.sl 0 [])),(pI 0)]) [])(h19_10:∀ base:Nat,FV Tp 13 [bWq] base (.tup [(.p (.sl 1 [(aA 2)])),(pI 0)]) [])(h61_11:∀ base:Nat,FV Tp 65 [bWr,(pI 1)] base (.tup [(pI 15100),(pB false),(pI 0)]) [])(h58_12:∀ base:Nat,FV Tp 71 [xF,(pI 2)] base (.tup [(pB true),(pI 0)]) []):FV Tp 26 [] base (pB true) []:=FV.fi func26 ([.c xF [],.c (.tup [(.own 0),(pI 0)]) [(0,(.row 63 3 [(aA 2),(aA 1),(aA 15100),(aA 3),(aA 2),(aA 15200),(aA 1),(aA 3),(aA 15300)]))],.c xF [],.c (.tup [(.own 2),(pI 0)]) [(1,.dead),(2,(.row 63 3 [(aA 1),(aA 1),(aA 15000),(aA 2),(aA 2),(aA 15100),(aA 3),(aA 3),(aA 15200)]))],.c xF [],.c (.tup [(.p (.sl 2 [(aA 1),(aA 3)])),(pB false),(pI 0)]) [],.c xF [],.c (.tup [(.p (.sl 1 [(aA 2)])),(pI 0)]) []]++rF 15++[.c (pB true) []]++rF 9++[.x (.agg [(aA 1),(aA 1),(aA 15000)])]++rF 6++[.c (pB true) []]++rF 5++[.c (pB true) [],bF,bF,bF,.c bWp [],.c (.tup [(.p (.sl 0 [])),(pI 0)]) [],.c bWq [],.c (.tup [(.p (.sl 1 [(aA 2)])),(pI 0)]) [],.c bWr [],.c (.tup [(pI 15100),(pB false),(pI 0)]) [],.c xF [],.c (.tup [(pB true),(pI 0)]) []]++rT 16++[.c (pB true) []]++rT 6) (Bc bWo (gt (true=true) rfl (gt (true=true) rfl (gt (true=true) rfl (gc aRy (gt (FC Tp 38 [(.p (.sl 1 [(aA 2)])),(.own 6)] [(6,(.row 3 1 [(aA 2)]))] 7 (pB true) []) (fv (h41_8 _)) (Jn aRy (Jn aRy (gc (fk 6 (h58_12 _) rfl) (gc (fk 6 vT rfl) (gc (fk 6 (h61_11 _) rfl) (gc (fk 6 bOm rfl) (gc (fk 6 (h19_10 _) rfl) (gc (fk 6 bOl rfl) (gc (fk 6 (h19_9 _) rfl) (gc (fk 6 bOk rfl) (gf (gf (gf (gt (FC Tp 38 [(.p (.sl 1 [(aA 2)])),(.own 5)] [(5,(.row 3 1 [(aA 2)]))] 6 (pB true) []) (fv (h41_8 _)) (gf (gf (gf (Bc (aV h6) (gt (FC Tp 38 [(.p (.sl 2 [(aA 1),(aA 3)])),(.own 4)] [(4,(.row 3 2 [(aA 1),(aA 3)]))] 5 (pB true) []) (fv (h41_7 _)) (Ar (aV h6) (gc aIv (gc h5 (Bc aIv (gr (.agg [(aA 1),(aA 1),(aA 15000)]) (gt (0+3≤[(aA 1),(aA 1),(aA 15000),(aA 2),(aA 2),(aA 15100),(aA 3),(aA 3),(aA 15200)].length) (by first | decide | simp) (gc aIv (gt (0≤(0:Int)∧(0:Int)<3) (by first | decide | simp) (Bc aIv (gf (gf (gf (gf (Bc aRz (gt (FC Tp 70 [(.own 0),(.own 3)] [(0,(.row 63 3 [(aA 2),(aA 1),(aA 15100),(aA 3),(aA 2),(aA 15200),(aA 1),(aA 3),(aA 15300)])),(3,(.row 63 3 [(aA 2),(aA 1),(aA 15100),(aA 3),(aA 2),(aA 15200),(aA 1),(aA 3),(aA 15300)]))] 4 (pB true) []) (fv (h51_4 _)) (Jn aRz (G8 aRz (gc (fk 3 (h33_3 _) rfl) (gc (fk 3 vT rfl) (gc (fk 3 (h71_2 _) rfl) (gc (fk 3 vT rfl) (gt (FC Tp 16 [xF,(.own 1)] [(1,(.row 3 1 [(aA 2)]))] 2 (.tup [(.own 2),(pI 0)]) [(1,.dead),(2,(.row 63 3 [(aA 1),(aA 1),(aA 15000),(aA 2),(aA 2),(aA 15100),(aA 3),(aA 3),(aA 15200)]))]) (FV.close (ids:=[1]) (Am:=[xF,(.p (.sl 1 [(aA 2)]))]) (h21_1 _) (by kernel_rfl)) (gc (fk 1 vT rfl) (gc (fk 0 (h28_0 _) rfl) (gc (fk 0 vT rfl) gn))))))))))))))))))))))))))))))))))))))))))))))))))
end
end KV
end Go.Proofs
section
namespace Go.Proofs
namespace KL
def aRx(x:Int):List Int→List Int
 | []=>[x]
 | y::r=>if x≤y then x::y::r else y::aRx x r
def sortI:List Int→List Int
 | []=>[]
 | x::r=>aRx x (sortI r)
theorem xE(x:Int):∀ l,(aRx x l).Perm (x::l)
 | [] => .refl _
 | y::r=>by
  unfold aRx
  split
  ·exact .refl _
  ·exact ((xE x r).cons y).trans (List.Perm.swap x y r)
theorem aCs:∀ l,(sortI l).Perm l
 | [] => .refl _
 | x::r=>(xE x _).trans ((aCs r).cons x)
theorem yI(x:Int):∀ l,l.Pairwise (· ≤ ·)→(aRx x l).Pairwise (· ≤ ·)
 | [],_=>by simp [aRx]
 | y::r,h=>by
  obtain ⟨h1,h2⟩:=List.pairwise_cons.1 h;unfold aRx
  split
  ·rename_i hx
   exact List.pairwise_cons.2 ⟨fun z hz=>by
    rcases List.mem_cons.1 hz with rfl | hz
    ·exact hx
    ·have:=h1 z hz;omega,h⟩
  ·rename_i hx
   refine List.pairwise_cons.2 ⟨fun z hz => ?_,yI x r h2⟩
   rcases List.mem_cons.1 ((xE x r).mem_iff.1 hz) with rfl | hz
   ·omega
   ·exact h1 z hz
theorem vS:∀ l,(sortI l).Pairwise (· ≤ ·)
 | [] => .nil
 | x::r=>yI x _ (vS r)
theorem aFy:∀ (a b:List Int),a.Perm b→a.Pairwise (· ≤ ·)→b.Pairwise (· ≤ ·)→a=b
 | [],b,h,_,_=>(List.nil_perm.1 h).symm
 | x::r,[],h,_,_=>absurd h.length_eq (by simp)
 | x::r,y::t,h,ha,hb=>by
  obtain ⟨h1,h2⟩:=List.pairwise_cons.1 ha;obtain ⟨h3,h4⟩:=List.pairwise_cons.1 hb;have e:x=y:=by
   have m1:x∈y::t:=h.mem_iff.1 (List.mem_cons_self ..);have m2:y∈x::r:=h.mem_iff.2 (List.mem_cons_self ..)
   rcases List.mem_cons.1 m1 with e | m1
   ·exact e
   ·rcases List.mem_cons.1 m2 with e | m2
    ·exact e.symm
    ·have:=h1 y m2;have:=h3 x m1;omega
  subst e;rw [aFy r t (List.Perm.cons_inv h) h2 h4]
theorem mergeSort_eq(l:List Int):l.mergeSort leB=sortI l:=by
 refine aFy _ _ ((List.mergeSort_perm _ _).trans (aCs l).symm) ?_ (vS l);have:=List.pairwise_mergeSort (le:=leB) (fun a b c h1 h2=>by simp only [leB,decide_eq_true_eq] at *;omega) (fun a b=>by simp only [leB,Bool.or_eq_true,decide_eq_true_eq];omega) l
 exact this.imp (fun h=>by simpa [leB] using h)
end KL
namespace KV
open Tryz
abbrev Cf:List (List Int):=[[1,15000],[2,15100],[3,15200]]
abbrev D2:List (List Int):=[[1,0,0,1,300,0],[2,7,10,0,0,1]]
abbrev N3:List (List Int):=[[1,0,0,1,300,0],[2,7,10,0,0,1],[3,9,40,0,0,2]]
abbrev N4:List (List Int):=[[1,0,0,1,300,0],[2,7,10,0,0,1],[3,9,40,0,0,2],[4,5,50,0,0,3]]
abbrev K0:List (List Int):=[[1,0,0,1,300,0],[2,7,10,0,0,1],[3,9,40,0,0,2],[4,5,50,0,0,3],[5,6,60,0,100,1]]
theorem rG{l:List (List Int)}(h:l.Pairwise fun a b=>a.getD 0 0≤b.getD 0 0):aB l=l:=List.mergeSort_of_pairwise (h.imp fun h=>decide_eq_true h)
theorem aDs:aB Cf=Cf:=rG (by decide)
theorem Ez:aB D2=D2:=rG (by decide)
theorem Q0:aB N3=N3:=rG (by decide)
theorem Q1:aB N4=N4:=rG (by decide)
theorem Q2:aB K0=K0:=rG (by decide)
theorem Hu:cF 30 Cf D2:=⟨by unfold uni;decide,by unfold uni;decide,by decide,by decide,by decide,by decide,by decide,by decide,by decide,by decide,by decide⟩
theorem Q3:cF 30 Cf N3:=⟨by unfold uni;decide,by unfold uni;decide,by decide,by decide,by decide,by decide,by decide,by decide,by decide,by decide,by decide⟩
theorem Q4:cF 30 Cf N4:=⟨by unfold uni;decide,by unfold uni;decide,by decide,by decide,by decide,by decide,by decide,by decide,by decide,by decide,by decide⟩
theorem N5:cF 30 Cf K0:=⟨by unfold uni;decide,by unfold uni;decide,by decide,by decide,by decide,by decide,by decide,by decide,by decide,by decide,by decide⟩
def bOf(al:List eK)(s:Nat)(c:List bX):List Int:=Lib.compact (KL.sortI (c.flatMap (chL al s)))
theorem aUr(al:List eK)(s:Nat)(c:List bX):oM al s c=bOf al s c:=by unfold oM bOf;rw [KL.mergeSort_eq]
def bHw(dl:Int)(sk dc:List (List Int))(f:Int)(i:Nat):Bool:=match (bQ dl sk dc)[i]? with
 | some h=>aPs (bOf (bQ dl sk dc) i h.1) (h.1.any fun x=>x.2.1) (h.1.any fun x => !x.2.1) f
 | none=>false
theorem bHx(dl:Int)(sk dc:List (List Int))(f:Int):yA dl sk dc f=bHw dl sk dc f:=by
 funext i
 unfold yA bHw
 split
 ·rename_i h e
  first | rw [e] | skip
  simp only [aUr]
 ·rename_i e
  first | rw [e] | rfl
theorem Vl(base:Nat):FV Tryz.prog 25 [.p (.agg (dX 30 Cf D2))] base (.tup [.own base,.p (aA 0)]) [(base,.row 63 3 ([[2,1,15100],[3,2,15200],[1,3,15300]].flatten.map aA))]:=by
 have:=aRw Hu (by decide) (base:=base)
 rw [aDs,Ez,show dI 30 [] D2 Cf=[[2,1,15100],[3,2,15200],[1,3,15300]] from by decide +kernel] at this
 exact this
theorem Vm(base:Nat):FV Tryz.prog 16 [.p (.agg (dX 30 Cf D2)),.p (aG [2])] base (.tup [.own base,.p (aA 0)]) [(base,.row 63 3 ([[1,1,15000],[2,2,15100],[3,3,15200]].flatten.map aA))]:=by
 have:=bWl Hu (by decide) [2] (by decide) (by rw [Ez];decide +kernel) (base:=base)
 rw [aDs,Ez,show dI 30 [2] D2 Cf=[[1,1,15000],[2,2,15100],[3,3,15200]] from by decide +kernel] at this
 exact this
theorem Ji:aU 30 D2=[2]:=by decide +kernel
theorem Vn(base:Nat):FV Tryz.prog 68 [.p (.agg (dX 30 Cf D2)),.p (aA 1)] base (.tup [.p (aG [1,3]),.p (blP false),.p (aA 0)]) []:=by
 have:=bTa Hu (bib:=1) (i:=0) (s0:=1) (s1:=15000) (by rw [aDs];decide +kernel) (by rw [aDs];rfl) (by rw [Ez,Ji];decide) (base:=base)
 rw [aDs,Ez,aUr,show bOf (bQ 30 Cf D2) 0 (nO 30 D2 1 15000 (tU 30 D2 1)).1=[1,3] from by decide +kernel,show ((nO 30 D2 1 15000 (tU 30 D2 1)).1.any fun x=>x.2.1)=false from by decide +kernel] at this
 exact this
theorem M8(base:Nat):FV Tryz.prog 69 [.p (.agg (dX 30 Cf D2)),.p (aA 2)] base (.tup [.p (aG [2]),.p (aA 0)]) []:=by
 have:=bTc Hu (f:=2) (by decide) (by rw [Ez,Ji];decide) (base:=base)
 have e:aKz 30 Cf D2 2=[2]:=by
  unfold aKz;rw [bHx];decide +kernel
 rw [aDs,Ez,e] at this
 exact this
theorem Q5(base:Nat):FV Tryz.prog 13 [.p (.agg (dX 30 Cf N3))] base (.tup [.p (aG []),.p (aA 0)]) []:=by
 have:=bGc Q3 (base:=base);rw [Q0,show aU 30 N3=[] from by decide +kernel] at this
 exact this
theorem Q6(base:Nat):FV Tryz.prog 13 [.p (.agg (dX 30 Cf N4))] base (.tup [.p (aG [2]),.p (aA 0)]) []:=by
 have:=bGc Q4 (base:=base);rw [Q1,show aU 30 N4=[2] from by decide +kernel] at this
 exact this
theorem Vo(base:Nat):FV Tryz.prog 65 [.p (.agg (dX 30 Cf K0)),.p (aA 1)] base (.tup [.p (aA 15100),.p (blP false),.p (aA 0)]) []:=by
 obtain ⟨T',_,hT⟩:=bGf (dl:=30) (sk:=aB Cf) (dc:=aB K0) (lF N5) aIf 1 15000 (by decide) (T:=[]) bY.nil
 have:=bSs N5 (bib:=1) (i0:=0) (s1:=1) (s2:=15000) (by rw [aDs];decide +kernel) (by rw [aDs];rfl) hT (base:=base)
 rw [Q2,show totM 30 [] K0 1 15000=(15100,false) from by decide +kernel] at this
 exact this
theorem Vp(base:Nat):FV Tryz.prog 71 [.p (.agg (dX 30 Cf D2)),.p (aA 2)] base (.tup [.p (blP true),.p (aA 0)]) []:=by
 have:=bWt Hu 2 (base:=base);have hB:∀ r6,aDt 30 Cf D2 2 r6=fun x => !(((totM 30 x D2 ((Cf.getD (bI (fun x=>decide (r6=x)) (aL Cf 0)).toNat []).getD 0 0) ((Cf.getD (bI (fun x=>decide (r6=x)) (aL Cf 0)).toNat []).getD 1 0)).1 == (totM 30 (x++[2]) D2 ((Cf.getD (bI (fun x=>decide (r6=x)) (aL Cf 0)).toNat []).getD 0 0) ((Cf.getD (bI (fun x=>decide (r6=x)) (aL Cf 0)).toNat []).getD 1 0)).1) && ((totM 30 x D2 ((Cf.getD (bI (fun x=>decide (r6=x)) (aL Cf 0)).toNat []).getD 0 0) ((Cf.getD (bI (fun x=>decide (r6=x)) (aL Cf 0)).toNat []).getD 1 0)).2 == (totM 30 (x++[2]) D2 ((Cf.getD (bI (fun x=>decide (r6=x)) (aL Cf 0)).toNat []).getD 0 0) ((Cf.getD (bI (fun x=>decide (r6=x)) (aL Cf 0)).toNat []).getD 1 0)).2)):=fun r6=>by
  funext x
  unfold aDt jB;rw [aDs,Ez]
 have e:bIa 30 Cf D2 2=(true,0):=by
  unfold bIa;rw [aDs,Ez,hB];decide +kernel
 rw [e] at this
 exact this
theorem bHy{base:Nat}:FV Tryz.prog 26 [] base (.p (blP true)) [] :=
 bWs Vl Vm Vn M8 (fun base=>by
  have:=bSw [[2,1,15100],[3,2,15200],[1,3,15300]] [[2,1,15100],[3,2,15200],[1,3,15300]] (by unfold uni;decide) (by unfold uni;decide) (by decide) (base:=base)
  rw [decide_eq_true rfl] at this
  exact this) ⟨rfl,rfl⟩ (by decide) (fun base=>by
  have:=bFc [1,3] [1,3] (by decide) (base:=base)
  rw [decide_eq_true rfl] at this
  exact this) (fun base=>by
  have:=bFc [2] [2] (by decide) (base:=base)
  rw [decide_eq_true rfl] at this
  exact this) Q5 Q6 Vo Vp
end KV
end Go.Proofs
end
namespace Go.Proofs
namespace KV
open Tryz
section
variable {mx my r0 tx ty Ll Lm Jq Jr Gg H9 Dn Ia:Int}{W dc sk W'4 Al A0:Lqq}{l1 l2 A1:List Int}{i j k j' base:Nat}

noncomputable abbrev aOl:Code:=pS (cd Tryz.f5) 5 [0,1,0,0]
noncomputable abbrev aOm:Code:=pS (cd Tryz.f5) 9 [0,1,0,0]
noncomputable abbrev aHb:Code:=pS (cd Tryz.f5) 12 [0,1,0,0]
theorem bEj:((1200:Int) == 0)=false:=by first | decide | simp
theorem bEk:((0:Int) == 0)=true:=by first | decide | simp
theorem bEl:((0:Int) != 0)=false:=by first | decide | simp
theorem bPm{l:List Int}(h0:(l.map aA).length=l.length*1∧l.length≤1000000):FV Tp 29 [(.p (aG l))] base (.own base) [(base,(.row 3 l.length (l.map aA)))]:=FV.fi func29 [] (gc h0 gn)
theorem bPn(l:List Int)(h:l.length≤1000){base:Nat}:FV Tp 29 [.p (aG l)] base (.own base) [(base,.row 3 l.length (l.map aA))]:=bPm ⟨by simp,by omega⟩
def bYb(ls:List Int)(nx st:Int)(re:List Int)(l:Lqq)(m t:Int):Prop:=FMM Tp 28 [.ptr 0 0,.p (aA 5),.p (aA 1)] [some (nM ls nx st)] (.tup [.own 1,.own 2]) [some (nM ls m t),some (.row 3 re.length (re.map aA)),some (.row 150 l.length (l.flatten.map aA))]
def qA(l1 l2:List Int)(r0:Int)(i Wn:Nat)(Wc:List PV)(Xn:Nat)(Xc:List PV)(skn:Nat)(skc:List PV)(mx tx my ty:Int):St:=⟨fr 162 [(4,(.kb false)),(5,(.ptr 0 0)),(6,(.ptr 1 0)),(7,(.ptr 2 0)),(8,(.own 3)),(9,(.own 4)),(32,(pI r0)),(33,(pI (i:Int)))],[some (.box 96 [(.p (.sl l1.length (l1.map cU))),(pI mx),(.p (.v (.int .u32 tx)))]),some (.box 96 [(.p (.sl l2.length (l2.map cU))),(pI my),(.p (.v (.int .u32 ty)))]),some (.box 26 [(pI 0),(.own 5),(.p dY)]),some (.row 31 Wn Wc),some (.row 75 Xn Xc),some (.row 80 skn skc)]⟩
def qB(W'4 Al:Lqq)(A1:List Int)(k dcn:Nat)(dcc:List PV):St:=⟨fr 162 [(7,(.ptr 0 0)),(8,(.p (aKu W'4))),(14,(.p (aG A1))),(15,(pI 0)),(16,(.p (.sl ((dI 0 [] (aB ([]:Lqq)) (aB Al)).length) ((dI 0 [] (aB ([]:Lqq)) (aB Al)).flatten.map aA)))),(90,(.p (aG A1))),(91,(pI (A1.length:Int))),(92,(pI (k:Int)))],[some (.box 26 [(pI 0),(.p (fS Al)),(.own 1)]),some (.row 84 dcn dcc)]⟩
def kE(Al:Lqq)(A1:List Int)(A0:Lqq)(j:Nat):St:=⟨fr 162 [(14,(.p (aG A1))),(16,(.p (.sl ((dI 0 [] (aB ([]:Lqq)) (aB Al)).length) ((dI 0 [] (aB ([]:Lqq)) (aB Al)).flatten.map aA)))),(20,(.p (.sl ((dI 0 [] (aB A0) (aB Al)).length) ((dI 0 [] (aB A0) (aB Al)).flatten.map aA)))),(124,(.p (fS Al))),(125,(pI (Al.length:Int))),(126,(pI (j:Int)))],[]⟩
theorem bPo{m1 t2:Int}{Pg:Nat}{X'5:List (Lqq)}{Ph Pi Pj Lo:Int}{Pk Pl:Nat}(h0:0≤(0:Int)∧(0:Int)≤1000000000)(h1:(-1000000≤2∧(2:Int)≤1000000) ∧ -1000000≤6∧(6:Int)≤1000000)(h2:qR 2 6 l1 0 (17:Int)=(r0,m1,t2))(Bl:aF Tp 0 aOl (qA l1 l2 r0 0 0 [] 0 [] 0 [] m1 t2 0 17) (.exit 0) (qA l1 l2 r0 Pg W'4.length (W'4.map aG) X'5.length ((X'5.map shE).flatten) Al.length (Al.flatten.map aA) Ph Pi Pj Lo))(h4:∀ base,FV Tp 31 [(.p (aKu W'4)),(.p (.sl X'5.length ((X'5.map shE).flatten)))] base (.tup [.own base,.p (aA 0)]) [(base,.row 3 A1.length (A1.map aA))])(h5:cF 0 Al ([]:Lqq))(h6:Al.length<20)(Js:aF Tp 0 aOm (qB W'4 Al A1 0 0 []) (.exit 2) (qB W'4 Al A1 Pk A0.length (A0.flatten.map aA)))(h8:cF 0 Al A0)(Lq:aF Tp 0 aHb (kE Al A1 A0 0) (.exit 4) (kE Al A1 A0 Pl)):FV Tp 5 [(.p (.sl l1.length (l1.map cU))),(.p (.sl l2.length (l2.map cU)))] base (pB true) []:=have k1:=mq [] 0 (ofO l1);have k2:=mq [] 1 (ofO l2);have k3:=mq [0] 3 (aPp 2 6 l1 0 17 h0 h1 h2);have k4:=fk 3 (FV.argwk (args:=[(.p (.agg [(aA 0),(fS Al),dY]))]) (aRw h5 h6) (by kernel_rfl)) rfl;have k5:=fk 1 (aRw h8 h6) rfl;FV.fi func5 [k1.o,k2.o,k3.o,Bl.k 1 (gN bm [0,1,2,3,4,5] [(8,31),(9,75),(102001,80)]),.g 1 ⟨[],[0,1,2],[3,4,5],[]⟩,.c (.tup [(.own 3),(pI 0)]) [(3,(.row 3 A1.length (A1.map aA)))],.g 1 ⟨[],[0,1,2],[3],[]⟩,k4.o,bF,bF,bF,bF,.g 2 ⟨[],[0,1,2],[3],[]⟩,Js.k 1 (gN av [2,3] [(102002,84)]),.g 1 ⟨[],[0],[1],[]⟩,k5.o,bF,.g 2 ⟨[],[0],[1],[]⟩,Lq.k 1 (gZ an),.c (pB true) []] (gc (fk 0 (bHy) rfl) (gc Lq.code (gc bEl (gc k5 (gc Js.code (A3 bEl (gc k4 (gc (fk 3 (h4 _) rfl) (gc Bl.code (gc k3 (gc k2 (gc k1 gn))))))))))))
theorem aWr{X:List (Lqq)}{A5:List Int}{C7:Lqq}{Fu Ha Fa Gi Lr Ls Gj Lu Lv:Int}{i':Nat}{W':Lqq}{X':List (Lqq)}{N9:Lqq}(h0:(i:Int)<r0)(h1:bYb l1 mx tx A5 C7 Fu Ha)(h2:A5.length≤1000)(h3:A5[0]? = some Fa)(h4:0≤Fu∧Fu≤1000000000)(h5:dG 2 l1 Fu Ha=(Gi,Lr,Ls))(h6:inR (Fa+Gi))(h7:0<(A5.map aA).length)(h8:[(PV.sl A5.length ((A5.map aA).set 0 (aA (if (Fa+Gi)<5 then (Fa+Gi) else 5))))].length=1*1∧W.length+1≤1000000)(h9:[(PV.sl C7.length (C7.flatten.map aA))].length=1*1∧X.length+1≤1000000)(B0:da i)(Cg:0≤my∧my≤1000000000)(Cc:dG 8 l2 my ty=(Gj,Lu,Lv))(Dp:inR ((400:Int)*Gj))(D6:inR ((15000:Int)+((400:Int)*Gj)))(F6:[(aA (((i+1):Nat):Int)),(aA ((15000:Int)+((400:Int)*Gj)))].length=1*2∧sk.length+1≤1000000)(Ai:i'=(i+1))(Pm:W'.length=(W.length+1))(Pn:W'.map aG=((W.map aG)++[(PV.sl A5.length ((A5.map aA).set 0 (aA (if (Fa+Gi)<5 then (Fa+Gi) else 5))))]))(Po:X'.length=(X.length+1))(Pp:(X'.map shE).flatten=(((X.map shE).flatten)++[(PV.sl C7.length (C7.flatten.map aA))]))(Lw:N9.length=(sk.length+1))(Lx:N9.flatten.map aA=((sk.flatten.map aA)++[(aA (((i+1):Nat):Int)),(aA ((15000:Int)+((400:Int)*Gj)))])):aC Tp 0 aOl (qA l1 l2 r0 i W.length (W.map aG) X.length ((X.map shE).flatten) sk.length (sk.flatten.map aA) mx tx my ty) .normal (qA l1 l2 r0 i' W'.length (W'.map aG) X'.length ((X'.map shE).flatten) N9.length (N9.flatten.map aA) Lr Ls Lu Lv):=by
 subst Ai;have k1:=mq [0] 9 (oK 2 l1 Fu Ha h4 h5);have k2:=mq [1] 13 (oK 8 l2 my ty Cg Cc);rw [Pm,Pn,Po,Pp,Lw,Lx];exact aC.fi (gI bm [0,1,2,10,12,22]) [bT,.c (.tup [(.own 6),(.own 7)]) [(0,(.box 96 [(.p (.sl l1.length (l1.map cU))),(pI Fu),(.p (.v (.int .u32 Ha)))])),(6,(.row 3 A5.length (A5.map aA))),(7,(.row 150 C7.length (C7.flatten.map aA)))],.c (.own 8) [(6,.dead),(8,(.row 3 A5.length (A5.map aA)))],.x (aA Fa),k1.o,k2.o] (gc B0 (gc F6 (gt ([(aA (((i+1):Nat):Int)),(aA ((15000:Int)+((400:Int)*Gj)))].length=2) (by first | decide | simp) (gc D6 (gc Dp (gc k2 (gc B0 (gc h9 (gc h8 (gc h7 (gc (cW (i:=(0:Int)) (by first | decide | simp) h3) (gc h6 (gc k1 (gt ((A5.map aA)[0]? = some (aA Fa)) (mE (i:=0) h3) (gc (cW (i:=(0:Int)) (by first | decide | simp) h3) (gt (FC Tp 29 [(.own 6)] [(6,(.row 3 A5.length (A5.map aA)))] 8 (.own 8) [(6,.dead),(8,(.row 3 A5.length (A5.map aA)))]) (FV.close (ids:=[6]) (Am:=[(.p (aG A5))]) (bPn A5 h2) (by kernel_rfl)) (gt (FC Tp 28 [(.ptr 0 0),(pI 5),(pI 1)] [(0,(.box 96 [(.p (.sl l1.length (l1.map cU))),(pI mx),(.p (.v (.int .u32 tx)))]))] 6 (.tup [(.own 6),(.own 7)]) [(0,(.box 96 [(.p (.sl l1.length (l1.map cU))),(pI Fu),(.p (.v (.int .u32 Ha)))])),(6,(.row 3 A5.length (A5.map aA))),(7,(.row 150 C7.length (C7.flatten.map aA)))]) (FMM.fcN (k:=2) rfl (ids:=[0]) h1 (by kernel_rfl)) (g0 h0))))))))))))))))))
theorem aWs{X:List (Lqq)}(h0:r0≤(i:Int)):aC Tp 0 aOl (qA l1 l2 r0 i W.length (W.map aG) X.length ((X.map shE).flatten) sk.length (sk.flatten.map aA) mx tx my ty) (.exit 0) (qA l1 l2 r0 i W.length (W.map aG) X.length ((X.map shE).flatten) sk.length (sk.flatten.map aA) mx tx my ty):=aC.fi (gI bm [0,1,2,3,4,5]) [bF] (gc (bA h0) gn)
theorem aWt{Fb:Int}{k':Nat}{Oa:Lqq}(h0:(k:Int)<(A1.length:Int))(h1:A1[k]? = some Fb)(h2:(0:Int)≤Fb)(h3:Fb<(W'4.length:Int))(h4:da k)(h5:inR (Fb+1))(h6:[(aA (((k+1):Nat):Int)),(aA 2),(aA 0),(aA (Fb+1)),(aA 1),(aA 0)].length=1*6∧dc.length+1≤1000000)(Jt:k'=(k+1))(Ly:Oa.length=(dc.length+1))(Lz:Oa.flatten.map aA=((dc.flatten.map aA)++[(aA (((k+1):Nat):Int)),(aA 2),(aA 0),(aA (Fb+1)),(aA 1),(aA 0)])):aC Tp 0 aOm (qB W'4 Al A1 k dc.length (dc.flatten.map aA)) .normal (qB W'4 Al A1 k' Oa.length (Oa.flatten.map aA)):=by
 subst Jt;rw [Ly,Lz];exact aC.fi (gI av [0,3]) ([bT,.x (aA Fb)]++rF 6) (gc h4 (gc h6 (gt ([(aA (((k+1):Nat):Int)),(aA 2),(aA 0),(aA (Fb+1)),(aA 1),(aA 0)].length=6) (by first | decide | simp) (gc h5 (gc h4 (gc (pZ h3) (Cn (bA h2) (gc (atm aA h1) (gc (ixn aA h1) (g0 h0))))))))))
theorem aWu(h0:(A1.length:Int)≤(k:Int)):aC Tp 0 aOm (qB W'4 Al A1 k dc.length (dc.flatten.map aA)) (.exit 2) (qB W'4 Al A1 k dc.length (dc.flatten.map aA)):=aC.fi (gI av [0,1]) [bF] (gc (bA h0) gn)
section
variable(h0:(j:Int)<(Al.length:Int))(h1:Al[j]? = some [Dn,Ia])(h2:uni 2 Al)(h3:uni 3 (dI 0 [] (aB ([]:Lqq)) (aB Al)))(h4:(dI 0 [] (aB ([]:Lqq)) (aB Al)).length≤1000)(h5:yH (dI 0 [] (aB ([]:Lqq)) (aB Al)) Dn=[Ll,Jq,Gg])(h6:uni 3 (dI 0 [] (aB A0) (aB Al)))(h7:(dI 0 [] (aB A0) (aB Al)).length≤1000)(h8:yH (dI 0 [] (aB A0) (aB Al)) Dn=[Lm,Jr,H9])(h9:A1.length≤1000)
include h0 h1 h2 h3 h4 h5 h6 h7 h8 h9
theorem aWv(B0:(A1.contains (j:Int))=true)(Cg:inR (Gg+1200))(Cc:H9=(Gg+1200))(Dp:da j)(Dx:j'=(j+1)):aC Tp 0 aHb (kE Al A1 A0 j) .normal (kE Al A1 A0 j'):=by
 subst Dx;have k1:=fk 1 (aIu (dI 0 [] (aB ([]:Lqq)) (aB Al)) Dn h3 h4 h5) rfl;have k2:=fk 9 (aIu (dI 0 [] (aB A0) (aB Al)) Dn h6 h7 h8) rfl;have k3:=fk 19 (lE A1 (j:Int) h9) rfl;exact aC.fi (gZ an) ([bT,.x (.agg [(aA Dn),(aA Ia)]),k1.o,k2.o,k3.o,bT]++rF 11) (gc Dp (gc (iI Cc) (gc bEj (gc (iI Cc) (Cn bEj (Ar (iI Cc) (gc Cg (gc B0 (gc k3 (gc k2 (gc k1 (gfl h2 h1 (g0 h0)))))))))))))
theorem aWw(B0:(A1.contains (j:Int))=false)(Cg:inR (Gg+0))(Cc:H9=(Gg+0))(Dp:Jr≤Jq)(D6:da j)(Dx:j'=(j+1)):aC Tp 0 aHb (kE Al A1 A0 j) .normal (kE Al A1 A0 j'):=by
 subst Dx;have k1:=fk 1 (aIu (dI 0 [] (aB ([]:Lqq)) (aB Al)) Dn h3 h4 h5) rfl;have k2:=fk 9 (aIu (dI 0 [] (aB A0) (aB Al)) Dn h6 h7 h8) rfl;have k3:=fk 19 (lE A1 (j:Int) h9) rfl;exact aC.fi (gZ an) ([bT,.x (.agg [(aA Dn),(aA Ia)]),k1.o,k2.o,k3.o,bF,bF,bF,bF]++rT 5++[bF,bT,bF,bF]) (gc D6 (gc (bA Dp) (gc (iI Cc) (gc bEk (gc (iI Cc) (Cn bEk (Ar (iI Cc) (gc Cg (gc B0 (gc k3 (gc k2 (gc k1 (gfl h2 h1 (g0 h0))))))))))))))
end
theorem aWx(h0:(Al.length:Int)≤(j:Int)):aC Tp 0 aHb (kE Al A1 A0 j) (.exit 4) (kE Al A1 A0 j):=aC.fi (gZ an) [bF] (gc (bA h0) gn)
end
section
section
variable {dl:Int} {oc:List Int} {D:Lqq} {x:List Int}
theorem bIg{y:List Int}{t:List DS}{s:DS}(h:dAb s.x≠dN y):mkS dl oc y (t++[s])=mkS dl oc y t:=by
 have e:jN (t++[s]) (dN y)=jN t (dN y):=by
  unfold jN;rw [List.reverse_append,List.reverse_singleton,List.singleton_append,List.filter_cons_of_neg];simpa using h
 unfold mkS;rw [e]
theorem xG:∀ {D:Lqq},(∀ y∈D,dAb x≠dN y)→gO dl oc (D++[x])=gO dl oc D++[mkS dl oc x []]
 | [],_=>rfl
 | y::D,h=>by
  rw [List.cons_append,gO,gO,xG fun z hz=>h z (B7 _ hz),bIg (h y (jI ..))]
  rfl
theorem bIh(h:∀ y∈D,dAb x≠dN y){y:List Int}(hy:y∈D):stF dl oc (D++[x]) y=stF dl oc D y:=by
 unfold stF;rw [xG h,List.find?_append];have:((gO dl oc D).find? fun s=>s.x == y).isSome=true:=by
  rw [List.find?_isSome];rw [← aIk dl oc D] at hy
  obtain ⟨s,h1,h2⟩:=dH.1 hy;exact ⟨s,h1,by rw [h2];exact beq_self_eq_true y⟩
 obtain ⟨s,hs⟩:=Option.isSome_iff_exists.1 this;rw [hs];rfl
theorem aMl(h:∀ y∈D,dAb x≠dN y)(hx:x∉D):stF dl oc (D++[x]) x=mkS dl oc x []:=by
 unfold stF;rw [xG h,List.find?_append];have:((gO dl oc D).find? fun s=>s.x == x)=none:=by
  rw [aBb];intro s hs he;have h1:s.x∈(gO dl oc D).map (·.x):=dH.2 ⟨s,hs,rfl⟩
  rw [aIk] at h1
  have:s.x=x:=by simpa using he
  exact hx (this ▸ h1)
 rw [this];show ([mkS dl oc x []].find? fun s=>s.x == x).getD _=_
 rw [List.find?_cons_of_pos (by show ((mkS dl oc x []).x == x)=true;exact beq_self_eq_true x)]
 rfl
theorem vV{α β:Type}(f g:β→α→β):∀ (l:List α) (b:β),(∀ x∈l,∀ b,f b x=g b x)→l.foldl f b=l.foldl g b
 | [],_,_=>rfl
 | x::l,b,h=>by
  rw [wI,wI,h x (jI ..),vV f g l _ fun y hy=>h y (B7 _ hy)]
end
theorem aSf{l:Lqq}{x:List Int}(hn:(aL (l++[x]) 0).Nodup)(h:∀ y∈l,y.getD 0 0≤x.getD 0 0):aB (l++[x])=aB l++[x]:=by
 refine (aBu hn ((dC l).append_right [x]) ?_).symm;rw [List.pairwise_append];refine ⟨kR l,List.pairwise_singleton _ _,fun a ha b hb => ?_⟩
 rw [List.mem_singleton.1 hb];exact h a ((dC l).mem_iff.1 ha)
theorem bCw{f g:List Int→Int × Bool}{S:Lqq}{t u:Int}(h:∀ j∈S,(f j).2=false→(f j).1<t→(g j).2=false∧(g j).1<u):bCi f S t≤bCi g S u:=by
 unfold bCi
 induction S with
 | nil=>exact cP _
 | cons a S ih =>
  have ih:=ih fun j hj=>h j (B7 _ hj)
  have ha:=h a (jI ..);rw [List.filter_cons,List.filter_cons]
  by_cases h1:(f a).2=false∧(f a).1<t
  ·obtain ⟨q1,q2⟩:=ha h1.1 h1.2
   rw [if_pos (by rw [h1.1,decide_eq_true h1.2];rfl),if_pos (by rw [q1,decide_eq_true q2];rfl),pY,pY]
   omega
  ·rw [if_neg (by
    intro q;rw [Bg] at q
    exact h1 ⟨by simpa using q.1,by simpa using q.2⟩)]
   split
   ·rw [pY];omega
   ·exact ih
end
section

end
section
section
variable {dl:Int} {oc:List Int} {D:Lqq} {x:List Int}
end
theorem cF.more{dl:Int}{sk dc:Lqq}{x:List Int}(h:cF dl sk dc)(hl:dc.length<40)(h6:x.length=6)(h1:dcB x=true)(h2:inB sk x=true)(h3:orB x=true)(hn:∀ y∈dc,y.getD 0 0≠x.getD 0 0):cF dl sk (dc++[x]):=by
 have mem:∀ {p:List Int→Prop},(∀ y∈dc,p y)→p x→∀ y∈dc++[x],p y:=fun h hx y hy=>by
  rcases eU.1 hy with hy | hy
  ·exact h y hy
  ·rw [List.mem_singleton.1 hy];exact hx
 refine ⟨h.us,mem h.ud h6,h.len,by simp;omega,h.hdl,h.hsk,mem h.hdc h1,h.ns,?_,mem h.inb h2,mem h.ord h3⟩
 unfold aL;rw [eE,List.nodup_append];refine ⟨h.nd,by simp,fun a ha b hb => ?_⟩
 obtain ⟨y,hy,rfl⟩:=dH.1 ha;obtain rfl:b=x.getD 0 0:=by simpa using hb
 exact hn y hy
theorem bCx{dl:Int}{sk dc:Lqq}(h:cF dl sk dc):(aB sk).Pairwise fun a b=>a.getD 0 0<b.getD 0 0:=by
 have h1:=kR sk;have h2:(aB sk).Pairwise fun a b=>a.getD 0 0≠b.getD 0 0:=by
  have:=aLw h.ns;unfold aL at this
  exact List.pairwise_map.1 this
 exact (h1.and h2).imp fun {a b} h=>by have:=h.1;have:=h.2;omega
end
section
section
variable {dl:Int} {oc:List Int} {D:Lqq} {x:List Int}
theorem bCv(h:∀ y∈D,dAb x≠dN y)(hx:x∉D)(hk:dK x=2)(b t:Int) :
  aDn dl oc (D++[x]) b t=if dB x=b then ((aDn dl oc D b t).1,(aDn dl oc D b t).2+1200*dMu x) else aDn dl oc D b t:=by
 unfold aDn;rw [aDk];have e:D.foldl (aDm dl oc (D++[x]) b) (t == -1,t)=D.foldl (aDm dl oc D b) (t == -1,t):=vV _ _ _ _ fun y hy a=>by
  unfold aDm aQk cZ aDp nR;rw [bIh h hy]
 rw [e];show aDm dl oc (D++[x]) b _ x=_;have hc:cZ dl oc (D++[x]) x=true:=by
  unfold cZ;rw [aMl h hx];have:gF (dK x)=false:=by unfold gF;rw [hk];rfl
  show (!oY dl x && !(([]:List DS).reverse.filter _).any _)=true;unfold oY;rw [this];rfl
 have hm:nR dl oc (D++[x]) x=dMu x:=by
  unfold nR;rw [aMl h hx];rfl
 have h4:decide (dK x≤4)=true:=decide_eq_true (by omega)
 have h5:(dK x == 4)=false:=by rw [hk];rfl
 unfold aDm aQk;rw [hc,hm,h4,h5,hk]
 by_cases hb:dB x=b
 ·rw [if_pos hb,hb];simp [byI]
 ·rw [if_neg hb]
  have:(dB x == b)=false:=by simpa using hb
  rw [this];simp
end
structure rJ (sk:Lqq) (due:List Int) (k:Nat) (D:Lqq):Prop where
 rc:cF 0 sk D
 srt:aB D=D
 len:D.length=k
 num:∀ x∈D,1≤dN x∧dN x≤(k:Int)
 tot:∀ b t:Int,0≤t→aDn 0 [] D b t=(false,t+if (due.take k).contains (b-1) then 1200 else 0)
theorem rJ.zero{sk:Lqq}{due:List Int}(h:cF 0 sk []):rJ sk due 0 []:=⟨h,by simp [aB],rfl,fun _ h=>absurd h List.not_mem_nil,fun b t ht=>by
 show ((t == -1),t)=_;have:(t == -1)=false:=by simp;omega
 rw [this];simp⟩
theorem rJ.step{sk:Lqq}{due:List Int}{k:Nat}{D:Lqq}(h:rJ sk due k D)(hn:due.Nodup){i:Int}(hi:due[k]? = some i)(hm:(aL sk 0).contains (i+1)=true)(hk:k<30){n b:Int}(en:n=(k:Int)+1)(eb:b=i+1):rJ sk due (k+1) (D++[[n,2,0,b,1,0]]):=by
 subst en;subst eb;have hne:∀ y∈D,dN y≠(k:Int)+1:=fun y hy=>by have:=h.num y hy;omega
 refine ⟨h.rc.more (by rw [h.len];omega) rfl (gY.2 ?_) ?_ rfl hne,?_,by rw [fK,h.len];rfl,fun x hx => ?_,fun b t ht => ?_⟩
 ·show (1≤(k:Int)+1∧(k:Int)+1≤9999)∧((0:Int)≤2∧(2:Int)≤9)∧((0:Int)≤0∧(0:Int)≤10000)∧(0:Int)≤1∧1≤jX 2
  have:jX 2=36000:=rfl;omega
 ·show (if (2:Int)≤4 then (aL sk 0).contains (i+1) else _)=true
  rw [if_pos (by decide)];exact hm
 ·rw [aSf ?_ fun y hy=>by have:=(h.num y hy).2;show dN y≤(k:Int)+1;omega,h.srt]
  have:=(h.rc.more (x:=[(k:Int)+1,2,0,i+1,1,0]) (by rw [h.len];omega) rfl (gY.2 ?_) ?_ rfl hne).nd
  ·exact this
  ·show (1≤(k:Int)+1∧(k:Int)+1≤9999)∧((0:Int)≤2∧(2:Int)≤9)∧((0:Int)≤0∧(0:Int)≤10000)∧(0:Int)≤1∧1≤jX 2
   have:jX 2=36000:=rfl;omega
  ·show (if (2:Int)≤4 then (aL sk 0).contains (i+1) else _)=true
   rw [if_pos (by decide)];exact hm
 ·rcases eU.1 hx with hx | hx
  ·have:=h.num x hx;omega
  ·rw [List.mem_singleton.1 hx];show 1≤(k:Int)+1∧(k:Int)+1≤_;omega
 ·rw [bCv (fun y hy=>by have:=h.num y hy;show (0:Int)≠_;omega) (fun hx=>hne _ hx rfl) rfl,h.tot b t ht]
  have et:due.take (k+1)=due.take k++[i]:=by rw [List.take_add_one,hi];rfl
  have hnot:i∉due.take k:=fun hm=>by
   obtain ⟨j,hj,e⟩:=List.mem_iff_getElem.1 hm;rw [nI] at hj
   rw [List.getElem_take] at e
   obtain ⟨E2,e2⟩:=A2.1 hi;exact List.pairwise_iff_getElem.1 hn j k (by omega) E2 (by omega) (e.trans e2.symm)
  rw [et];show (if i+1=b then (false,t+(if (due.take k).contains (b-1)=true then 1200 else 0)+1200*1) else (false,t+if (due.take k).contains (b-1)=true then 1200 else 0))=_
  by_cases e:i+1=b
  ·subst e
   have e1:(due.take k).contains (i+1-1)=false:=by
    rw [show i+1-1=i by omega]
    cases hc:(due.take k).contains i with
    | false=>rfl
    | true=>exact absurd (List.contains_iff_mem.1 hc) hnot
   have e2:(due.take k++[i]).contains (i+1-1)=true:=by rw [show i+1-1=i by omega];simp
   rw [if_pos rfl,e1,e2];simp
  ·have e2:(due.take k++[i]).contains (b-1)=(due.take k).contains (b-1):=by
    rw [Bool.eq_iff_iff,List.contains_iff_mem,List.contains_iff_mem,eU,List.mem_singleton];exact ⟨fun q=>q.resolve_right (by omega),.inl⟩
   rw [if_neg e,e2]
theorem rJ.totM{sk:Lqq}{due:List Int}{D:Lqq}(h:rJ sk due due.length D){b t:Int}(ht:0≤t):totM 0 [] D b t=(t+(if due.contains (b-1) then 1200 else 0),false):=by
 unfold KV.totM;rw [h.tot b t ht,List.take_length];have:0≤t+(if due.contains (b-1)=true then (1200:Int) else 0):=by split <;> omega
 show (if false=true then ((0:Int),true) else (max 0 (t+if due.contains (b-1)=true then (1200:Int) else 0),false))=_
 rw [if_neg (by simp),Int.max_eq_right this]
theorem aMk{b t:Int}(ht:0≤t):totM 0 [] [] b t=(t,false):=by
 have:(t == -1)=false:=by simp;omega
 unfold totM aDn;rw [List.foldl_nil,this,if_neg (by simp),Int.max_eq_right ht]
theorem bIf{f g:List Int→Int × Bool}{S:Lqq}{s:List Int}(hf:∀ k∈S,(f k).2=false∧(g k).2=false∧(f k).1≤(g k).1)(hs:s∈S)(he:(g s).1=(f s).1):bHv g S s≤bHv f S s:=by
 unfold bHv;rw [(hf s hs).1,(hf s hs).2.1];have:=bCw (f:=g) (g:=f) (S:=S) (t:=(g s).1) (u:=(f s).1) fun j hj h1 h2=>⟨(hf j hj).1,by have:=hf j hj;omega⟩
 simp only [Bool.false_eq_true,if_false];omega
end
section
abbrev JdA:=Lqq × List (Lqq) × Lqq × Int × Int × Int × Int
structure JdI (m1:Int) (i:Nat) (a:JdA):Prop where
 w:a.1.length=i
 x:a.2.1.length=i
 few:∀ (j:Nat) (w:List Int) (s:Lqq),a.1[j]? = some w→a.2.1[j]? = some s→aHf w s
 us:uni 2 a.2.2.1
 col:aL a.2.2.1 0=(List.range i).map fun (j:Nat)=>((j+1:Nat):Int)
 tm:∀ s∈a.2.2.1,15000≤sT s∧sT s≤18000
 mx:m1≤a.2.2.2.1∧a.2.2.2.1≤m1+200*(i:Int)
 my:0≤a.2.2.2.2.2.1∧a.2.2.2.2.2.1≤(i:Int)
theorem aHa{α:Type}{l:List α}{x y:α}{j:Nat}(h:(l++[x])[j]? = some y):l[j]? = some y∨(j=l.length∧y=x):=by
 rw [List.getElem?_append] at h
 split at h
 ·exact .inl h
 ·rename_i q
  have:j-l.length=0:=by
   have:=(A2.1 h).1;rw [List.length_singleton] at this
   omega
  rw [this] at h
  cases h;exact .inr ⟨by omega,rfl⟩
theorem aTc{sk:Lqq}{n j:Nat}{s:List Int}(hc:aL sk 0=(List.range n).map fun (j:Nat)=>((j+1:Nat):Int))(hs:sk[j]? = some s):s.getD 0 0=((j+1:Nat):Int)∧j<n:=by
 have h1:(aL sk 0)[j]? = some (s.getD 0 0):=by unfold aL;rw [B6,hs];rfl
 rw [hc,B6] at h1
 cases h2:(List.range n)[j]? with
 | none=>rw [h2] at h1;cases h1
 | some k =>
  obtain ⟨q1,q2⟩:=A2.1 h2;rw [aDj] at q1
  rw [List.getElem_range] at q2
  subst q2;rw [h2] at h1
  exact ⟨(Option.some.inj h1).symm,q1⟩
theorem bPl{sk:Lqq}{n:Nat}(hu:uni 2 sk)(hn:1≤n∧n≤6)(hc:aL sk 0=(List.range n).map fun (j:Nat)=>((j+1:Nat):Int))(ht:∀ s∈sk,15000≤sT s∧sT s≤18000):cF 0 sk []:=by
 have hl:sk.length=n:=by
  have:=congrArg List.length hc
  rwa [lW,A8,aDj] at this
 refine ⟨hu,fun _ h=>absurd h List.not_mem_nil,by omega,by simp,by omega,fun x hx => ?_,fun _ h=>absurd h List.not_mem_nil,?_,List.nodup_nil,fun _ h=>absurd h List.not_mem_nil,fun _ h=>absurd h List.not_mem_nil⟩
 ·obtain ⟨j,hj,rfl⟩:=List.mem_iff_getElem.1 hx
  have h1:=aTc hc (Ap hj);have h2:=ht _ hx;have h2:15000≤sk[j].getD 1 0∧sk[j].getD 1 0≤18000:=h2;exact aHm.2 (by omega)
 ·rw [hc,List.Nodup,List.pairwise_map]
  exact List.Pairwise.imp (fun h=>by omega) (List.pairwise_lt_range (n:=n))
theorem aKw{L:Lqq}{b p t:Int}(h:L.find? (fun y=>decide (y.getD 0 0=b))=some [b,p,t]):yH L b=[b,p,t]:=by
 unfold yH;rw [h];rfl
theorem bXf(l1 l2:List Int){base:Nat}:FV Tp 5 [.p (.sl l1.length (l1.map cU)),.p (.sl l2.length (l2.map cU))] base (.p (blP true)) []:=by
 have b0:=yZ 2 6 l1 0 17
 rcases e0:qR 2 6 l1 0 17 with ⟨r0,m1,t1⟩
 rw [e0] at b0
 dsimp only at b0
 obtain ⟨n,rfl⟩:=Int.eq_ofNat_of_zero_le (show 0≤r0 by omega)
 obtain ⟨⟨W,X,sk,mx,tx,my,ty⟩,hI,l0⟩:=aF.some (P:=Tp) (k:=0) (b:=sub (cd Tryz.f5) bu) (e := .exit 0) (fun i (a:JdA)=>qA l1 l2 (n:Int) i a.1.length (a.1.map aG) a.2.1.length ((a.2.1.map shE).flatten) a.2.2.1.length (a.2.2.1.flatten.map aA) a.2.2.2.1 a.2.2.2.2.1 a.2.2.2.2.2.1 a.2.2.2.2.2.2) (JdI m1) (fun a=>qA l1 l2 (n:Int) n a.1.length (a.1.map aG) a.2.1.length ((a.2.1.map shE).flatten) a.2.2.1.length (a.2.2.1.flatten.map aA) a.2.2.2.1 a.2.2.2.2.1 a.2.2.2.2.2.1 a.2.2.2.2.2.2) (by simp) n (a0:=([],[],[],m1,t1,0,17))
  ⟨rfl,rfl,fun j w s h=>by simp at h,fun _ h=>absurd h List.not_mem_nil,rfl,fun _ h=>absurd h List.not_mem_nil,by dsimp only;omega,by dsimp only;omega⟩
  (fun i ⟨W,X,sk,mx,tx,my,ty⟩ hi h=>by
   obtain ⟨hw,hx,hf,hu,hc,ht,hmx,hmy⟩:=h;dsimp only at hw hx hf hu hc ht hmx hmy
   have hsl:sk.length=i:=by
    have:=congrArg List.length hc
    rwa [lW,A8,aDj] at this
   obtain ⟨re,sh,m,t,Fo,D8,Gd,Iw,hm,hF⟩:=bPs l1 (nx:=mx) (st:=tx) (by omega)
   have b5:=jY 2 l1 m t
   rcases e5:dG 2 l1 m t with ⟨r5,m5,t5⟩
   rw [e5] at b5
   dsimp only at b5
   have b8:=jY 8 l2 my ty
   rcases e8:dG 8 l2 my ty with ⟨r8,m8,t8⟩
   rw [e8] at b8
   dsimp only at b8
   have h0:re[0]? = some re[0]:=Ap (by omega)
   have Pe:=D8 _ (eT (by omega:0<re.length))
   refine ⟨(W++[re.set 0 (if re[0]+r5<5 then re[0]+r5 else 5)],X++[sh],sk++[[((i+1:Nat):Int),15000+400*r8]],m5,t5,m8,t8),⟨by rw [fK,hw];rfl,by rw [fK,hx];rfl,fun j w s h1 h2 => ?_,fun s hs => ?_,?_,fun s hs => ?_,by dsimp only;omega,by dsimp only;omega⟩,
    aWr (by omega) hF (by omega) h0 (by omega) e5 (by show _∧_;omega) (by rw [A8];omega) ⟨rfl,by dsimp only;omega⟩ ⟨rfl,by dsimp only;omega⟩ (aM (by omega)) (by dsimp only;omega) e8 (by show _∧_;omega) (by show _∧_;omega) ⟨rfl,by dsimp only;omega⟩ rfl (by simp) (by rw [eE];show _++[PV.sl (re.set 0 _).length ((re.set 0 _).map aA)]=_;rw [nJ,List.map_set]) (by simp) (by rw [eE,aDi];rfl) (by simp) (by rw [aDi,eE];rfl)⟩
   ·rcases aHa h1 with k1 | ⟨e1,rfl⟩
    ·rcases aHa h2 with k2 | ⟨e2,rfl⟩
     ·exact hf j w s k1 k2
     ·have:j<W.length:=aX k1
      omega
    ·rcases aHa h2 with k2 | ⟨e2,rfl⟩
     ·have:j<X.length:=aX k2
      omega
     ·refine ⟨by rw [nJ];omega,fun x hx => ?_,Gd,by rw [nJ];exact Iw⟩
      rcases List.mem_or_eq_of_mem_set hx with hx | rfl
      ·exact D8 x hx
      ·split <;> omega
   ·rcases eU.1 hs with hs | hs
    ·exact hu s hs
    ·rw [List.mem_singleton.1 hs];rfl
   ·show aL (sk++[_]) 0=_
    unfold aL at hc ⊢
    rw [eE,hc,List.range_succ,eE];rfl
   ·rcases eU.1 hs with hs | hs
    ·exact ht s hs
    ·rw [List.mem_singleton.1 hs];show 15000≤(15000:Int)+400*r8∧(15000:Int)+400*r8≤18000;omega)
  (fun a _=>aWs (by omega))
 obtain ⟨hw,hx,hf,hu,hc,ht,hmx,hmy⟩:=hI;dsimp only at hw hx hf hu hc ht hmx hmy l0
 have hsl:sk.length=n:=by
  have:=congrArg List.length hc
  rwa [lW,A8,aDj] at this
 obtain ⟨du,hp,hb,hl,hF⟩:=bQq (by omega) (by omega) hf
 have hr:=bPl hu (by omega) hc ht
 have hnd:du.Nodup:=hp.imp fun h=>by omega
 obtain ⟨dc,hP,S8⟩:=aF.some (P:=Tp) (k:=0) (b:=sub (cd Tryz.f5) [1,1,1,1,1,1,1,1,1,0,1,0,0]) (e := .exit 2) (fun k (dc:Lqq)=>qB W sk du k dc.length (dc.flatten.map aA)) (rJ sk du) (fun dc=>qB W sk du du.length dc.length (dc.flatten.map aA)) (by simp) du.length (a0:=[]) (.zero hr)
  (fun k dc hk hP=>by
   have hi:=Ap hk;have hbk:=hb _ (eT hk);have hlen:=hP.len;refine ⟨_,hP.step hnd hi ?_ (by omega) (show ((k+1:Nat):Int)=(k:Int)+1 by omega) rfl,aWt (by omega) hi (by omega) (by omega) (aM (by omega)) (by show _∧_;omega) ⟨rfl,by omega⟩ rfl (by simp) (by rw [aDi,eE];rfl)⟩
   rw [hc,List.contains_iff_mem,dH];obtain ⟨x,Pf⟩:=Int.eq_ofNat_of_zero_le hbk.1;exact ⟨x,vA.2 (by omega),by omega⟩)
  (fun dc _=>aWu (by omega))
 have hst:=bCx hr;have H6:aB ([]:Lqq)=[]:=by simp [aB]
 have hte:∀ s∈aB sk,15000≤sT s∧sT s≤18000:=fun s hs=>ht s ((dC sk).mem_iff.1 hs)
 have L2:aF Tp 0 (sub (cd Tryz.f5) [1,1,1,1,1,1,1,1,1,1,1,1,0,1,0,0]) (kE sk du dc 0) (.exit 4) (kE sk du dc sk.length):=by
  obtain ⟨_,_,h⟩:=aF.some (P:=Tp) (k:=0) (b:=sub (cd Tryz.f5) [1,1,1,1,1,1,1,1,1,1,1,1,0,1,0,0]) (e := .exit 4) (fun j (_:Unit)=>kE sk du dc j) (fun _ _=>True) (fun _=>kE sk du dc sk.length) (by simp) sk.length (a0:=()) trivial
   (fun j _ hj _=>by
    have hs:=Ap hj;have hm:=eT hj;have I3:=(aTc hc hs).1;have htm:=ht _ hm;obtain ⟨y0,y1,e⟩:=len2 (hu _ hm);rw [e] at hs hm I3 htm
    have B8:[y0,y1]∈aB sk:=(dC sk).mem_iff.2 hm;have I3:y0=((j+1:Nat):Int):=I3;have htm:15000≤y1∧y1≤18000:=htm;have f1:=aKw (aMi (dl:=0) (oc:=[]) (dc:=aB []) hst B8);have f2:=aKw (aMi (dl:=0) (oc:=[]) (dc:=aB dc) hst B8);have g1:totM 0 [] (aB []) y0 y1=(y1,false):=by rw [H6];exact aMk (by omega)
    have g2:totM 0 [] (aB dc) y0 y1=(y1+(if du.contains (j:Int) then 1200 else 0),false):=by
     rw [hP.srt,hP.totM (by omega),show y0-1=(j:Int) by omega]
    have q1:(totM 0 [] (aB []) (sB [y0,y1]) (sT [y0,y1])).1=y1:=by show (totM 0 [] (aB []) y0 y1).1=y1;rw [g1]
    have q2:(totM 0 [] (aB dc) (sB [y0,y1]) (sT [y0,y1])).1=y1+(if du.contains (j:Int) then 1200 else 0):=by show (totM 0 [] (aB dc) y0 y1).1=_;rw [g2]
    have Gc:(dI 0 [] (aB []) (aB sk)).length≤1000:=by rw [aMh,fB];omega
    have Kt:(dI 0 [] (aB dc) (aB sk)).length≤1000:=by rw [aMh,fB];omega
    refine ⟨(),trivial,?_⟩;cases hd:du.contains (j:Int) with
    | true =>
     rw [hd] at q2
     exact aWv (by omega) hs hu rE Gc f1 rE Kt f2 (by omega) hd (by rw [q1];unfold inR;omega) (by rw [q1,q2];rfl) (aM (by omega)) rfl
    | false =>
     rw [hd] at q2
     refine aWw (by omega) hs hu rE Gc f1 rE Kt f2 (by omega) hd (by rw [q1];unfold inR;omega) (by rw [q1,q2];rfl) ?_ (aM (by omega)) rfl
     refine bIf (fun k hk => ?_) B8 (by rw [q1,q2];simp)
     have h1:=hte k hk;have a1:totM 0 [] (aB []) (sB k) (sT k)=(sT k,false):=by rw [H6];exact aMk (by omega)
     have a2:totM 0 [] (aB dc) (sB k) (sT k)=(sT k+(if du.contains (sB k-1) then 1200 else 0),false):=by rw [hP.srt,hP.totM (by omega)]
     rw [a1,a2];refine ⟨rfl,rfl,?_⟩;dsimp only
     split <;> omega)
   (fun _ _=>aWx (by omega))
  exact h
 exact bPo (by omega) (by omega) e0 l0 hF hr (by omega) S8 hP.rc L2
end
end KV
end Go.Proofs
