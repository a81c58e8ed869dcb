/- Parts of the proof of JSheetFields: laws of walks, contracts of functions, plain models. No condition. -/
import Derived.DeepKeys5
import Derived.Test.YtfekapdegmfgaaaGreatDoorPJSheetFieldsE
set_option linter.unusedVariables false
set_option linter.unusedSimpArgs false
set_option linter.unnecessarySimpa false
set_option maxRecDepth 100000
namespace Go.Proofs
namespace KV
open Tryz
section
variable {e f k l e1 f1 l1 ln r0 r1 r2 sm B7 Ce Cf e1'4 f1'3 l1'2:Int}{i i' Aq:Nat}

noncomputable abbrev jI:Code:=sub (cd Tryz.f91) [1,1,1,1,0,1,0,0]
theorem bNd:0≤(0:Int)∧(0:Int)<4:=by first | decide | simp
theorem bNe:0≤(1:Int)∧(1:Int)<4:=by first | decide | simp
theorem bNf:0≤(2:Int)∧(2:Int)<4:=by first | decide | simp
theorem bNg:0≤(3:Int)∧(3:Int)<4:=by first | decide | simp
def cW(fs:List (List UInt8))(ln k:Int)(R:List (List Cel))(i on:Nat)(oc:List PV)(l1 f1 e1:Int):St:=⟨fr 77 [(0,(.ptr 0 0)),(1,(.p (.sl fs.length ((fs.map stE).flatten)))),(2,(.fn 176 [] [(.ptr 2 0),(.ptr 3 0)])),(8,(.p (bJ (aJ k)))),(10,(.ptr 4 0)),(11,(.own 5)),(26,(pI ((aJ k).length:Int))),(27,(pI (i:Int)))],[some (.box 158 [(pI k),(.own 1),(pI l1),(pI f1),(pI e1)]),some (.row 78 R.length ((R.map rwE).flatten)),some (.box 156 [(.ptr 0 0)]),some (.box 3 [(pI ln)]),some (.box 214 [(.fn 224 [] [(.rp [(PV.fn 188 [] [])] 0)]),(.fn 225 [] [(.rp [(PV.fn 120 [] [])] 0)]),(.fn 226 [] [(.rp [(aB 999999)] 0)]),(.fn 224 [] [(.rp [(PV.fn 39 [] [])] 0)]),(.fn 225 [] [(.rp [(PV.fn 189 [] [])] 0)]),(.fn 226 [] [(.rp [(aB 360000)] 0)]),(.fn 227 [] [(.rp [(PV.fn 191 [] [])] 0)]),(.fn 228 [] []),(.fn 229 [] [(.rp [(PV.fn 191 [] [])] 0)]),(.fn 227 [] [(.rp [(PV.fn 192 [] [])] 0)]),(.fn 228 [] []),(.fn 229 [] [(.rp [(PV.fn 192 [] [])] 0)])]),some (.row 80 on oc)]⟩
section
variable{fs:List (List UInt8)}{R:List (List Cel)}{Al:List Cel}(Ay:aF Tp 4 jI (cW fs ln k R 0 0 [] l f e) (.exit 0) (cW fs ln k R Aq Al.length ((Al.map cE).flatten) l1'2 f1'3 e1'4))
include Ay
theorem bWo(h1:(fs.length:Int)=((aJ k).length:Int)):FMM Tp 91 [(.ptr 0 0),(.p (.sl fs.length ((fs.map stE).flatten))),(.fn 176 [] [(.ptr 2 0),(.ptr 3 0)])] [some (.box 158 [(pI k),(.own 1),(pI l),(pI f),(pI e)]),some (.row 78 R.length ((R.map rwE).flatten)),some (.box 156 [(.ptr 0 0)]),some (.box 3 [(pI ln)])] (.tup [(.own 4),(pB true)]) [some (.box 158 [(pI k),(.own 1),(pI l1'2),(pI f1'3),(pI e1'4)]),some (.row 78 R.length ((R.map rwE).flatten)),some (.box 156 [(.ptr 0 0)]),some (.box 3 [(pI ln)]),some (.row 80 Al.length ((Al.map cE).flatten))]:=have k1:=fk 4 (eI k) rfl;have k2:=fk 4 (eL) rfl;FMM.fi 4 ⟨[],[5],[],[]⟩ func91 ([k1.o,k2.o,Ay.k 6 (gN aw [4,5] [(11,80)])]++rT 6) (F6 (dG h1) (gc Ay.code (gc k2 (gc k1 gn))))
theorem bWp{r0:Bool}{r3:Int}(h1:(fs.length:Int)≠((aJ k).length:Int))(h2:inR ((((aJ k).length+1):Nat):Int))(Am:r0=(((aR ln ((((aJ k).length+1):Nat):Int) 11 (l1'2,f1'3,e1'4)).2.2) == 0))(Eh:r1=((aR ln ((((aJ k).length+1):Nat):Int) 11 (l1'2,f1'3,e1'4)).1))(F5:r2=((aR ln ((((aJ k).length+1):Nat):Int) 11 (l1'2,f1'3,e1'4)).2.1))(P8:r3=((aR ln ((((aJ k).length+1):Nat):Int) 11 (l1'2,f1'3,e1'4)).2.2)):FMM Tp 91 [(.ptr 0 0),(.p (.sl fs.length ((fs.map stE).flatten))),(.fn 176 [] [(.ptr 2 0),(.ptr 3 0)])] [some (.box 158 [(pI k),(.own 1),(pI l),(pI f),(pI e)]),some (.row 78 R.length ((R.map rwE).flatten)),some (.box 156 [(.ptr 0 0)]),some (.box 3 [(pI ln)])] (.tup [(.own 4),(pB r0)]) [some (.box 158 [(pI k),(.own 1),(pI r1),(pI r2),(pI r3)]),some (.row 78 R.length ((R.map rwE).flatten)),some (.box 156 [(.ptr 0 0)]),some (.box 3 [(pI ln)]),some (.row 80 Al.length ((Al.map cE).flatten))]:=by
 subst Am Eh F5 P8;have k1:=fk 4 (eI k) rfl;have k2:=fk 4 (eL) rfl;have k3:=mq ca 6 (cN ((((aJ k).length+1):Nat):Int) 11 ln k l1'2 f1'3 e1'4 R);exact FMM.fi 4 ⟨[],[5],[],[]⟩ func91 ([k1.o,k2.o,Ay.k 6 (gN aw [4,5] [(11,80)])]++rF 5++[k3.o,bF]) (gc (bI h1) (gc k3 (gc (bI h1) (gc h2 (Cm (bI h1) (gc Ay.code (gc k2 (gc k1 gn))))))))
end
theorem bWq{fs:List (List UInt8)}{R:List (List Cel)}{Al:List Cel}{r0:Bool}(Ay:aF Tp 4 jI (cW fs ln k R 0 0 [] l f e) .ret (cG (cW fs ln k R Aq Al.length ((Al.map cE).flatten) l1'2 f1'3 e1'4) [(6,(.p bK)),(7,(pB (e1'4 == 0)))]))(Am:r0=(e1'4 == 0)):FMM Tp 91 [(.ptr 0 0),(.p (.sl fs.length ((fs.map stE).flatten))),(.fn 176 [] [(.ptr 2 0),(.ptr 3 0)])] [some (.box 158 [(pI k),(.own 1),(pI l),(pI f),(pI e)]),some (.row 78 R.length ((R.map rwE).flatten)),some (.box 156 [(.ptr 0 0)]),some (.box 3 [(pI ln)])] (.tup [(.p bK),(pB r0)]) [some (.box 158 [(pI k),(.own 1),(pI l1'2),(pI f1'3),(pI e1'4)]),some (.row 78 R.length ((R.map rwE).flatten)),some (.box 156 [(.ptr 0 0)]),some (.box 3 [(pI ln)])]:=by
 subst Am;have k1:=fk 4 (eI k) rfl;have k2:=fk 4 (eL) rfl;exact FMM.fi 4 gE func91 [k1.o,k2.o,Ay.k 6 (gN aw [4,5] [(11,80)])] (gc Ay.code (gc k2 (gc k1 gn)))
theorem aYv{fs:List (List UInt8)}{R:List (List Cel)}{o:List Cel}(h0:(i:Int)<((aJ k).length:Int))(h1:(fs.length:Int)≤(i:Int))(h2:ce i)(A9:Cf=((aR ln (((i+1):Nat):Int) 11 (l1,f1,e1)).1))(Ba:Ce=((aR ln (((i+1):Nat):Int) 11 (l1,f1,e1)).2.1))(Bb:B7=((aR ln (((i+1):Nat):Int) 11 (l1,f1,e1)).2.2)):aA Tp 4 jI (cW fs ln k R i o.length ((o.map cE).flatten) l1 f1 e1) .ret (cG (cW fs ln k R i o.length ((o.map cE).flatten) Cf Ce B7) [(6,(.p bK)),(7,(pB (((aR ln (((i+1):Nat):Int) 11 (l1,f1,e1)).2.2) == 0)))]):=by
 subst A9 Ba Bb;have k1:=mq ca 6 (cN (((i+1):Nat):Int) 11 ln k l1 f1 e1 R);exact aA.fi (gI ax [4,5]) [bT,bT,k1.o] (gc k1 (gc h2 (gc (kT h1) (g0 h0))))
section
variable{fs:List (List UInt8)}(h0:(i:Int)<((aJ k).length:Int))(h1:(i:Int)<(fs.length:Int))
include h0 h1
theorem aYw{R:List (List Cel)}{o:List Cel}{Aa:List UInt8}(h2:(aJ k)[i]? = some 0)(h3:fs[i]? = some (Aa))(h4:ce i)(h5:((aR ln (((i+1):Nat):Int) ((rdM 0 Aa).2) (l1,f1,e1)).2.2)≠0)(A9:Cf=((aR ln (((i+1):Nat):Int) ((rdM 0 Aa).2) (l1,f1,e1)).1))(Ba:Ce=((aR ln (((i+1):Nat):Int) ((rdM 0 Aa).2) (l1,f1,e1)).2.1))(Bb:B7=((aR ln (((i+1):Nat):Int) ((rdM 0 Aa).2) (l1,f1,e1)).2.2)):aA Tp 4 jI (cW fs ln k R i o.length ((o.map cE).flatten) l1 f1 e1) .ret (cG (cW fs ln k R i o.length ((o.map cE).flatten) Cf Ce B7) [(6,(.p bK)),(7,(pB false))]):=by
 subst A9 Ba Bb;have k1:=fk 6 (bDo Aa) rfl;have k2:=mq ca 15 (cN (((i+1):Nat):Int) ((rdM 0 Aa).2) ln k l1 f1 e1 R);exact aA.fi (gN ax [4,5] [(7,0)]) [bT,bF,.x (aB 0),.x (aD Aa),k1.o,k2.o,bT] (gc (cY (bI h5)) (gc k2 (gc h4 (gc k1 (gt (((fs.map stE).flatten)[(i*1)]? = some (aD Aa)) (aN (E:=stE) (i:=i) (f:=0) (k:=1) (fun _=>rfl) h3 rfl) (gc (bD (E:=stE) (k:=1) (i:=(i:Int)) (fun _=>rfl) (by decide) (Bl _) h3) (gc bNd (gc (atm aB h2) (gc (ixn aB h2) (gc (fA h1) (g0 h0)))))))))))
theorem aYx{R:List (List Cel)}{o:List Cel}{Aa:List UInt8}{o':List Cel}(h2:(aJ k)[i]? = some 0)(h3:fs[i]? = some (Aa))(h4:ce i)(h5:((aR ln (((i+1):Nat):Int) ((rdM 0 Aa).2) (l1,f1,e1)).2.2)=0)(h6:[(aB ((rdM 0 Aa).1.1)),(aD ((rdM 0 Aa).1.2))].length=1*2∧o.length+1≤1000000)(Ai:i'=(i+1))(Dj:o'.length=(o.length+1))(Dk:(o'.map cE).flatten=(((o.map cE).flatten)++[(aB ((rdM 0 Aa).1.1)),(aD ((rdM 0 Aa).1.2))]))(A9:Cf=((aR ln (((i+1):Nat):Int) ((rdM 0 Aa).2) (l1,f1,e1)).1))(Ba:Ce=((aR ln (((i+1):Nat):Int) ((rdM 0 Aa).2) (l1,f1,e1)).2.1))(Bb:B7=((aR ln (((i+1):Nat):Int) ((rdM 0 Aa).2) (l1,f1,e1)).2.2)):aA Tp 4 jI (cW fs ln k R i o.length ((o.map cE).flatten) l1 f1 e1) .normal (cW fs ln k R i' o'.length ((o'.map cE).flatten) Cf Ce B7):=by
 subst Ai A9 Ba Bb;have k1:=fk 6 (bDo Aa) rfl;have k2:=mq ca 15 (cN (((i+1):Nat):Int) ((rdM 0 Aa).2) ln k l1 f1 e1 R);rw [Dj,Dk];exact aA.fi (gI aw [4,16]) [bT,bF,.x (aB 0),.x (aD Aa),k1.o,k2.o,bF] (gc h4 (gc h6 (gt ([(aB ((rdM 0 Aa).1.1)),(aD ((rdM 0 Aa).1.2))].length=2) (by first | decide | simp) (gc (aV (dG h5)) (gc k2 (gc h4 (gc k1 (gt (((fs.map stE).flatten)[(i*1)]? = some (aD Aa)) (aN (E:=stE) (i:=i) (f:=0) (k:=1) (fun _=>rfl) h3 rfl) (gc (bD (E:=stE) (k:=1) (i:=(i:Int)) (fun _=>rfl) (by decide) (Bl _) h3) (gc bNd (gc (atm aB h2) (gc (ixn aB h2) (gc (fA h1) (g0 h0))))))))))))))
theorem aYy{R:List (List Cel)}{o:List Cel}{Aa:List UInt8}(h2:(aJ k)[i]? = some 1)(h3:fs[i]? = some (Aa))(h4:Aa.length≤90000)(h5:ce i)(h6:((aR ln (((i+1):Nat):Int) ((rdM 1 Aa).2) (l1,f1,e1)).2.2)≠0)(A9:Cf=((aR ln (((i+1):Nat):Int) ((rdM 1 Aa).2) (l1,f1,e1)).1))(Ba:Ce=((aR ln (((i+1):Nat):Int) ((rdM 1 Aa).2) (l1,f1,e1)).2.1))(Bb:B7=((aR ln (((i+1):Nat):Int) ((rdM 1 Aa).2) (l1,f1,e1)).2.2)):aA Tp 4 jI (cW fs ln k R i o.length ((o.map cE).flatten) l1 f1 e1) .ret (cG (cW fs ln k R i o.length ((o.map cE).flatten) Cf Ce B7) [(6,(.p bK)),(7,(pB false))]):=by
 subst A9 Ba Bb;have k1:=fk 6 (bDp Aa h4) rfl;have k2:=mq ca 15 (cN (((i+1):Nat):Int) ((rdM 1 Aa).2) ln k l1 f1 e1 R);exact aA.fi (gN ax [4,5] [(7,0)]) [bT,bF,.x (aB 1),.x (aD Aa),k1.o,k2.o,bT] (gc (cY (bI h6)) (gc k2 (gc h5 (gc k1 (gt (((fs.map stE).flatten)[(i*1)]? = some (aD Aa)) (aN (E:=stE) (i:=i) (f:=0) (k:=1) (fun _=>rfl) h3 rfl) (gc (bD (E:=stE) (k:=1) (i:=(i:Int)) (fun _=>rfl) (by decide) (Bl _) h3) (gc bNe (gc (atm aB h2) (gc (ixn aB h2) (gc (fA h1) (g0 h0)))))))))))
theorem aYz{R:List (List Cel)}{o:List Cel}{Aa:List UInt8}{o':List Cel}(h2:(aJ k)[i]? = some 1)(h3:fs[i]? = some (Aa))(h4:Aa.length≤90000)(h5:ce i)(h6:((aR ln (((i+1):Nat):Int) ((rdM 1 Aa).2) (l1,f1,e1)).2.2)=0)(h7:[(aB ((rdM 1 Aa).1.1)),(aD ((rdM 1 Aa).1.2))].length=1*2∧o.length+1≤1000000)(Ai:i'=(i+1))(Dj:o'.length=(o.length+1))(Dk:(o'.map cE).flatten=(((o.map cE).flatten)++[(aB ((rdM 1 Aa).1.1)),(aD ((rdM 1 Aa).1.2))]))(A9:Cf=((aR ln (((i+1):Nat):Int) ((rdM 1 Aa).2) (l1,f1,e1)).1))(Ba:Ce=((aR ln (((i+1):Nat):Int) ((rdM 1 Aa).2) (l1,f1,e1)).2.1))(Bb:B7=((aR ln (((i+1):Nat):Int) ((rdM 1 Aa).2) (l1,f1,e1)).2.2)):aA Tp 4 jI (cW fs ln k R i o.length ((o.map cE).flatten) l1 f1 e1) .normal (cW fs ln k R i' o'.length ((o'.map cE).flatten) Cf Ce B7):=by
 subst Ai A9 Ba Bb;have k1:=fk 6 (bDp Aa h4) rfl;have k2:=mq ca 15 (cN (((i+1):Nat):Int) ((rdM 1 Aa).2) ln k l1 f1 e1 R);rw [Dj,Dk];exact aA.fi (gI aw [4,16]) [bT,bF,.x (aB 1),.x (aD Aa),k1.o,k2.o,bF] (gc h5 (gc h7 (gt ([(aB ((rdM 1 Aa).1.1)),(aD ((rdM 1 Aa).1.2))].length=2) (by first | decide | simp) (gc (aV (dG h6)) (gc k2 (gc h5 (gc k1 (gt (((fs.map stE).flatten)[(i*1)]? = some (aD Aa)) (aN (E:=stE) (i:=i) (f:=0) (k:=1) (fun _=>rfl) h3 rfl) (gc (bD (E:=stE) (k:=1) (i:=(i:Int)) (fun _=>rfl) (by decide) (Bl _) h3) (gc bNe (gc (atm aB h2) (gc (ixn aB h2) (gc (fA h1) (g0 h0))))))))))))))
theorem aZa{R:List (List Cel)}{o:List Cel}{Aa:List UInt8}(h2:(aJ k)[i]? = some 2)(h3:fs[i]? = some (Aa))(h4:ce i)(h5:((aR ln (((i+1):Nat):Int) ((rdM 2 Aa).2) (l1,f1,e1)).2.2)≠0)(A9:Cf=((aR ln (((i+1):Nat):Int) ((rdM 2 Aa).2) (l1,f1,e1)).1))(Ba:Ce=((aR ln (((i+1):Nat):Int) ((rdM 2 Aa).2) (l1,f1,e1)).2.1))(Bb:B7=((aR ln (((i+1):Nat):Int) ((rdM 2 Aa).2) (l1,f1,e1)).2.2)):aA Tp 4 jI (cW fs ln k R i o.length ((o.map cE).flatten) l1 f1 e1) .ret (cG (cW fs ln k R i o.length ((o.map cE).flatten) Cf Ce B7) [(6,(.p bK)),(7,(pB false))]):=by
 subst A9 Ba Bb;have k1:=fk 6 (bDq Aa) rfl;have k2:=mq ca 15 (cN (((i+1):Nat):Int) ((rdM 2 Aa).2) ln k l1 f1 e1 R);exact aA.fi (gN ax [4,5] [(7,0)]) [bT,bF,.x (aB 2),.x (aD Aa),k1.o,k2.o,bT] (gc (cY (bI h5)) (gc k2 (gc h4 (gc k1 (gt (((fs.map stE).flatten)[(i*1)]? = some (aD Aa)) (aN (E:=stE) (i:=i) (f:=0) (k:=1) (fun _=>rfl) h3 rfl) (gc (bD (E:=stE) (k:=1) (i:=(i:Int)) (fun _=>rfl) (by decide) (Bl _) h3) (gc bNf (gc (atm aB h2) (gc (ixn aB h2) (gc (fA h1) (g0 h0)))))))))))
theorem aZb{R:List (List Cel)}{o:List Cel}{Aa:List UInt8}{o':List Cel}(h2:(aJ k)[i]? = some 2)(h3:fs[i]? = some (Aa))(h4:ce i)(h5:((aR ln (((i+1):Nat):Int) ((rdM 2 Aa).2) (l1,f1,e1)).2.2)=0)(h6:[(aB ((rdM 2 Aa).1.1)),(aD ((rdM 2 Aa).1.2))].length=1*2∧o.length+1≤1000000)(Ai:i'=(i+1))(Dj:o'.length=(o.length+1))(Dk:(o'.map cE).flatten=(((o.map cE).flatten)++[(aB ((rdM 2 Aa).1.1)),(aD ((rdM 2 Aa).1.2))]))(A9:Cf=((aR ln (((i+1):Nat):Int) ((rdM 2 Aa).2) (l1,f1,e1)).1))(Ba:Ce=((aR ln (((i+1):Nat):Int) ((rdM 2 Aa).2) (l1,f1,e1)).2.1))(Bb:B7=((aR ln (((i+1):Nat):Int) ((rdM 2 Aa).2) (l1,f1,e1)).2.2)):aA Tp 4 jI (cW fs ln k R i o.length ((o.map cE).flatten) l1 f1 e1) .normal (cW fs ln k R i' o'.length ((o'.map cE).flatten) Cf Ce B7):=by
 subst Ai A9 Ba Bb;have k1:=fk 6 (bDq Aa) rfl;have k2:=mq ca 15 (cN (((i+1):Nat):Int) ((rdM 2 Aa).2) ln k l1 f1 e1 R);rw [Dj,Dk];exact aA.fi (gI aw [4,16]) [bT,bF,.x (aB 2),.x (aD Aa),k1.o,k2.o,bF] (gc h4 (gc h6 (gt ([(aB ((rdM 2 Aa).1.1)),(aD ((rdM 2 Aa).1.2))].length=2) (by first | decide | simp) (gc (aV (dG h5)) (gc k2 (gc h4 (gc k1 (gt (((fs.map stE).flatten)[(i*1)]? = some (aD Aa)) (aN (E:=stE) (i:=i) (f:=0) (k:=1) (fun _=>rfl) h3 rfl) (gc (bD (E:=stE) (k:=1) (i:=(i:Int)) (fun _=>rfl) (by decide) (Bl _) h3) (gc bNf (gc (atm aB h2) (gc (ixn aB h2) (gc (fA h1) (g0 h0))))))))))))))
theorem aZc{R:List (List Cel)}{o:List Cel}{Aa:List UInt8}(h2:(aJ k)[i]? = some 3)(h3:fs[i]? = some (Aa))(h4:ce i)(h5:((aR ln (((i+1):Nat):Int) ((rdM 3 Aa).2) (l1,f1,e1)).2.2)≠0)(A9:Cf=((aR ln (((i+1):Nat):Int) ((rdM 3 Aa).2) (l1,f1,e1)).1))(Ba:Ce=((aR ln (((i+1):Nat):Int) ((rdM 3 Aa).2) (l1,f1,e1)).2.1))(Bb:B7=((aR ln (((i+1):Nat):Int) ((rdM 3 Aa).2) (l1,f1,e1)).2.2)):aA Tp 4 jI (cW fs ln k R i o.length ((o.map cE).flatten) l1 f1 e1) .ret (cG (cW fs ln k R i o.length ((o.map cE).flatten) Cf Ce B7) [(6,(.p bK)),(7,(pB false))]):=by
 subst A9 Ba Bb;have k1:=fk 6 (bDr Aa) rfl;have k2:=mq ca 15 (cN (((i+1):Nat):Int) ((rdM 3 Aa).2) ln k l1 f1 e1 R);exact aA.fi (gN ax [4,5] [(7,0)]) [bT,bF,.x (aB 3),.x (aD Aa),k1.o,k2.o,bT] (gc (cY (bI h5)) (gc k2 (gc h4 (gc k1 (gt (((fs.map stE).flatten)[(i*1)]? = some (aD Aa)) (aN (E:=stE) (i:=i) (f:=0) (k:=1) (fun _=>rfl) h3 rfl) (gc (bD (E:=stE) (k:=1) (i:=(i:Int)) (fun _=>rfl) (by decide) (Bl _) h3) (gc bNg (gc (atm aB h2) (gc (ixn aB h2) (gc (fA h1) (g0 h0)))))))))))
theorem aZd{R:List (List Cel)}{o:List Cel}{Aa:List UInt8}{o':List Cel}(h2:(aJ k)[i]? = some 3)(h3:fs[i]? = some (Aa))(h4:ce i)(h5:((aR ln (((i+1):Nat):Int) ((rdM 3 Aa).2) (l1,f1,e1)).2.2)=0)(h6:[(aB ((rdM 3 Aa).1.1)),(aD ((rdM 3 Aa).1.2))].length=1*2∧o.length+1≤1000000)(Ai:i'=(i+1))(Dj:o'.length=(o.length+1))(Dk:(o'.map cE).flatten=(((o.map cE).flatten)++[(aB ((rdM 3 Aa).1.1)),(aD ((rdM 3 Aa).1.2))]))(A9:Cf=((aR ln (((i+1):Nat):Int) ((rdM 3 Aa).2) (l1,f1,e1)).1))(Ba:Ce=((aR ln (((i+1):Nat):Int) ((rdM 3 Aa).2) (l1,f1,e1)).2.1))(Bb:B7=((aR ln (((i+1):Nat):Int) ((rdM 3 Aa).2) (l1,f1,e1)).2.2)):aA Tp 4 jI (cW fs ln k R i o.length ((o.map cE).flatten) l1 f1 e1) .normal (cW fs ln k R i' o'.length ((o'.map cE).flatten) Cf Ce B7):=by
 subst Ai A9 Ba Bb;have k1:=fk 6 (bDr Aa) rfl;have k2:=mq ca 15 (cN (((i+1):Nat):Int) ((rdM 3 Aa).2) ln k l1 f1 e1 R);rw [Dj,Dk];exact aA.fi (gI aw [4,16]) [bT,bF,.x (aB 3),.x (aD Aa),k1.o,k2.o,bF] (gc h4 (gc h6 (gt ([(aB ((rdM 3 Aa).1.1)),(aD ((rdM 3 Aa).1.2))].length=2) (by first | decide | simp) (gc (aV (dG h5)) (gc k2 (gc h4 (gc k1 (gt (((fs.map stE).flatten)[(i*1)]? = some (aD Aa)) (aN (E:=stE) (i:=i) (f:=0) (k:=1) (fun _=>rfl) h3 rfl) (gc (bD (E:=stE) (k:=1) (i:=(i:Int)) (fun _=>rfl) (by decide) (Bl _) h3) (gc bNg (gc (atm aB h2) (gc (ixn aB h2) (gc (fA h1) (g0 h0))))))))))))))
end
theorem aZe{fs:List (List UInt8)}{R:List (List Cel)}{o:List Cel}(h0:((aJ k).length:Int)≤(i:Int)):aA Tp 4 jI (cW fs ln k R i o.length ((o.map cE).flatten) l1 f1 e1) (.exit 0) (cW fs ln k R i o.length ((o.map cE).flatten) l1 f1 e1):=aA.fi (gI aw [4,5]) [bF] (gc (aO h0) gn)
theorem bWr{fs:List (List UInt8)}{R:List (List Cel)}{u0:List UInt8}(h0:fs[0]? = some (u0))(h1:u0≠([115,117,109]:List UInt8))(Am:r0=((aR ln 1 11 (l,f,e)).1))(Eh:r1=((aR ln 1 11 (l,f,e)).2.1))(F5:r2=((aR ln 1 11 (l,f,e)).2.2)):FMM Tp 93 [(.p (.sl fs.length ((fs.map stE).flatten))),(pI sm),(.fn 176 [] [(.ptr 0 0),(.ptr 1 0)])] [some (.box 156 [(.ptr 2 0)]),some (.box 3 [(pI ln)]),some (.box 158 [(pI k),(.own 3),(pI l),(pI f),(pI e)]),some (.row 78 R.length ((R.map rwE).flatten))] (.tup []) [some (.box 156 [(.ptr 2 0)]),some (.box 3 [(pI ln)]),some (.box 158 [(pI k),(.own 3),(pI r0),(pI r1),(pI r2)]),some (.row 78 R.length ((R.map rwE).flatten))]:=by
 subst Am Eh F5;have k1:=mq cb 4 (cN 1 11 ln k l f e R);exact FMM.fi 4 gE func93 [.x (aD u0),bT,k1.o] (gc k1 (gc (cY (decide_eq_false h1)) (gt (((fs.map stE).flatten)[0]? = some (aD u0)) (aN (E:=stE) (i:=0) (f:=0) (k:=1) (fun _=>rfl) h0 rfl) (gc (bD (E:=stE) (k:=1) (i:=(0:Int)) (fun _=>rfl) (by decide) (by first | decide | simp) h0) gn))))
theorem bWs{fs:List (List UInt8)}{R:List (List Cel)}{u0:List UInt8}(h0:fs[0]? = some (u0))(h1:u0=([115,117,109]:List UInt8))(h2:(fs.length:Int)<2)(Am:r0=((aR ln 2 11 (l,f,e)).1))(Eh:r1=((aR ln 2 11 (l,f,e)).2.1))(F5:r2=((aR ln 2 11 (l,f,e)).2.2)):FMM Tp 93 [(.p (.sl fs.length ((fs.map stE).flatten))),(pI sm),(.fn 176 [] [(.ptr 0 0),(.ptr 1 0)])] [some (.box 156 [(.ptr 2 0)]),some (.box 3 [(pI ln)]),some (.box 158 [(pI k),(.own 3),(pI l),(pI f),(pI e)]),some (.row 78 R.length ((R.map rwE).flatten))] (.tup []) [some (.box 156 [(.ptr 2 0)]),some (.box 3 [(pI ln)]),some (.box 158 [(pI k),(.own 3),(pI r0),(pI r1),(pI r2)]),some (.row 78 R.length ((R.map rwE).flatten))]:=by
 subst Am Eh F5;have k1:=mq cb 4 (cN 2 11 ln k l f e R);exact FMM.fi 4 gE func93 [.x (aD u0),bF,bT,k1.o] (gc k1 (gc (bX h2) (gc (aV (decide_eq_true h1)) (gt (((fs.map stE).flatten)[0]? = some (aD u0)) (aN (E:=stE) (i:=0) (f:=0) (k:=1) (fun _=>rfl) h0 rfl) (gc (bD (E:=stE) (k:=1) (i:=(0:Int)) (fun _=>rfl) (by decide) (by first | decide | simp) h0) gn)))))
section
variable{fs:List (List UInt8)}{u0 u1:List UInt8}(h0:fs[0]? = some (u0))(h1:u0=([115,117,109]:List UInt8))(h2:(2:Int)≤(fs.length:Int))(h3:fs[1]? = some (u1))(h4:0≤(65520:Int)∧(65520:Int)≤1000000000)
include h0 h1 h2 h3 h4
theorem bWt{R:List (List Cel)}(h5:((bL u1 65520).2)=3)(h6:((aR ln 2 8 (l,f,e)).2.2)≠0)(Am:r0=((aR ln 2 8 (l,f,e)).1))(Eh:r1=((aR ln 2 8 (l,f,e)).2.1))(F5:r2=((aR ln 2 8 (l,f,e)).2.2)):FMM Tp 93 [(.p (.sl fs.length ((fs.map stE).flatten))),(pI sm),(.fn 176 [] [(.ptr 0 0),(.ptr 1 0)])] [some (.box 156 [(.ptr 2 0)]),some (.box 3 [(pI ln)]),some (.box 158 [(pI k),(.own 3),(pI l),(pI f),(pI e)]),some (.row 78 R.length ((R.map rwE).flatten))] (.tup []) [some (.box 156 [(.ptr 2 0)]),some (.box 3 [(pI ln)]),some (.box 158 [(pI k),(.own 3),(pI r0),(pI r1),(pI r2)]),some (.row 78 R.length ((R.map rwE).flatten))]:=by
 subst Am Eh F5;have k1:=fk 4 (fT u1 65520 h4) rfl;have k2:=mq cb 4 (cN 2 8 ln k l f e R);exact FMM.fi 4 gE func93 ([.x (aD u0),bF,bF,.x (aD u1),k1.o]++rT 5++[k2.o,bF,bF,bF,bF]) (Cm (bI h6) (gc k2 (Cr (dG h5) (gc k1 (gt (((fs.map stE).flatten)[1]? = some (aD u1)) (aN (E:=stE) (i:=1) (f:=0) (k:=1) (fun _=>rfl) h3 rfl) (gc (bD (E:=stE) (k:=1) (i:=(1:Int)) (fun _=>rfl) (by decide) (by first | decide | simp) h3) (gc (aO h2) (gc (aV (decide_eq_true h1)) (gt (((fs.map stE).flatten)[0]? = some (aD u0)) (aN (E:=stE) (i:=0) (f:=0) (k:=1) (fun _=>rfl) h0 rfl) (gc (bD (E:=stE) (k:=1) (i:=(0:Int)) (fun _=>rfl) (by decide) (by first | decide | simp) h0) gn))))))))))
theorem bWu{R:List (List Cel)}(h5:((bL u1 65520).2)≠3)(h6:((bL u1 65520).2)=0)(h7:((bL u1 65520).1)≠sm)(h8:((aR ln 2 8 (l,f,e)).2.2)≠0)(Am:r0=((aR ln 2 8 (l,f,e)).1))(Eh:r1=((aR ln 2 8 (l,f,e)).2.1))(F5:r2=((aR ln 2 8 (l,f,e)).2.2)):FMM Tp 93 [(.p (.sl fs.length ((fs.map stE).flatten))),(pI sm),(.fn 176 [] [(.ptr 0 0),(.ptr 1 0)])] [some (.box 156 [(.ptr 2 0)]),some (.box 3 [(pI ln)]),some (.box 158 [(pI k),(.own 3),(pI l),(pI f),(pI e)]),some (.row 78 R.length ((R.map rwE).flatten))] (.tup []) [some (.box 156 [(.ptr 2 0)]),some (.box 3 [(pI ln)]),some (.box 158 [(pI k),(.own 3),(pI r0),(pI r1),(pI r2)]),some (.row 78 R.length ((R.map rwE).flatten))]:=by
 subst Am Eh F5;have k1:=fk 4 (fT u1 65520 h4) rfl;have k2:=mq cb 4 (cN 2 8 ln k l f e R);exact FMM.fi 4 gE func93 [.x (aD u0),bF,bF,.x (aD u1),k1.o,bF,bF,bF,bT,bT,bT,bF,bT,bF,bT,k2.o,bF,bF,bF,bF] (Cm (bI h8) (gc k2 (gc (dE h7) (gc (bI h5) (gc (dG h6) (gc (bI h5) (Au (dG h6) (Au (bI h5) (gc k1 (gt (((fs.map stE).flatten)[1]? = some (aD u1)) (aN (E:=stE) (i:=1) (f:=0) (k:=1) (fun _=>rfl) h3 rfl) (gc (bD (E:=stE) (k:=1) (i:=(1:Int)) (fun _=>rfl) (by decide) (by first | decide | simp) h3) (gc (aO h2) (gc (aV (decide_eq_true h1)) (gt (((fs.map stE).flatten)[0]? = some (aD u0)) (aN (E:=stE) (i:=0) (f:=0) (k:=1) (fun _=>rfl) h0 rfl) (gc (bD (E:=stE) (k:=1) (i:=(0:Int)) (fun _=>rfl) (by decide) (by first | decide | simp) h0) gn)))))))))))))))
theorem bWv{R:List (List Cel)}(h5:((bL u1 65520).2)≠3)(h6:((bL u1 65520).2)=0)(h7:((bL u1 65520).1)=sm)(h8:((aR ln 2 ((bL u1 65520).2) (l,f,e)).2.2)=0)(h9:(2:Int)<(fs.length:Int))(Am:r0=((aR ln 3 11 (((aR ln 2 ((bL u1 65520).2) (l,f,e)).1),((aR ln 2 ((bL u1 65520).2) (l,f,e)).2.1),((aR ln 2 ((bL u1 65520).2) (l,f,e)).2.2))).1))(Eh:r1=((aR ln 3 11 (((aR ln 2 ((bL u1 65520).2) (l,f,e)).1),((aR ln 2 ((bL u1 65520).2) (l,f,e)).2.1),((aR ln 2 ((bL u1 65520).2) (l,f,e)).2.2))).2.1))(F5:r2=((aR ln 3 11 (((aR ln 2 ((bL u1 65520).2) (l,f,e)).1),((aR ln 2 ((bL u1 65520).2) (l,f,e)).2.1),((aR ln 2 ((bL u1 65520).2) (l,f,e)).2.2))).2.2)):FMM Tp 93 [(.p (.sl fs.length ((fs.map stE).flatten))),(pI sm),(.fn 176 [] [(.ptr 0 0),(.ptr 1 0)])] [some (.box 156 [(.ptr 2 0)]),some (.box 3 [(pI ln)]),some (.box 158 [(pI k),(.own 3),(pI l),(pI f),(pI e)]),some (.row 78 R.length ((R.map rwE).flatten))] (.tup []) [some (.box 156 [(.ptr 2 0)]),some (.box 3 [(pI ln)]),some (.box 158 [(pI k),(.own 3),(pI r0),(pI r1),(pI r2)]),some (.row 78 R.length ((R.map rwE).flatten))]:=by
 subst Am Eh F5;have k1:=fk 4 (fT u1 65520 h4) rfl;have k2:=mq cb 4 (cN 2 ((bL u1 65520).2) ln k l f e R);have k3:=mq cb 4 (cN 3 11 ln k ((aR ln 2 ((bL u1 65520).2) (l,f,e)).1) ((aR ln 2 ((bL u1 65520).2) (l,f,e)).2.1) ((aR ln 2 ((bL u1 65520).2) (l,f,e)).2.2) R);exact FMM.fi 4 gE func93 ([.x (aD u0),bF,bF,.x (aD u1),k1.o,bF,bF,bF,bT,bT,bT,bF,bT,bF,bF,k2.o]++rT 5++[k3.o]) (gc k3 (gc (bX h9) (Cm (dG h8) (gc k2 (gc (bB h7) (gc (bI h5) (gc (dG h6) (gc (bI h5) (Au (dG h6) (Au (bI h5) (gc k1 (gt (((fs.map stE).flatten)[1]? = some (aD u1)) (aN (E:=stE) (i:=1) (f:=0) (k:=1) (fun _=>rfl) h3 rfl) (gc (bD (E:=stE) (k:=1) (i:=(1:Int)) (fun _=>rfl) (by decide) (by first | decide | simp) h3) (gc (aO h2) (gc (aV (decide_eq_true h1)) (gt (((fs.map stE).flatten)[0]? = some (aD u0)) (aN (E:=stE) (i:=0) (f:=0) (k:=1) (fun _=>rfl) h0 rfl) (gc (bD (E:=stE) (k:=1) (i:=(0:Int)) (fun _=>rfl) (by decide) (by first | decide | simp) h0) gn)))))))))))))))))
theorem bWw{R:List (List Cel)}(h5:((bL u1 65520).2)≠3)(h6:((bL u1 65520).2)=0)(h7:((bL u1 65520).1)=sm)(h8:((aR ln 2 ((bL u1 65520).2) (l,f,e)).2.2)=0)(h9:(fs.length:Int)≤2)(Am:r0=((aR ln 2 ((bL u1 65520).2) (l,f,e)).1))(Eh:r1=((aR ln 2 ((bL u1 65520).2) (l,f,e)).2.1))(F5:r2=((aR ln 2 ((bL u1 65520).2) (l,f,e)).2.2)):FMM Tp 93 [(.p (.sl fs.length ((fs.map stE).flatten))),(pI sm),(.fn 176 [] [(.ptr 0 0),(.ptr 1 0)])] [some (.box 156 [(.ptr 2 0)]),some (.box 3 [(pI ln)]),some (.box 158 [(pI k),(.own 3),(pI l),(pI f),(pI e)]),some (.row 78 R.length ((R.map rwE).flatten))] (.tup []) [some (.box 156 [(.ptr 2 0)]),some (.box 3 [(pI ln)]),some (.box 158 [(pI k),(.own 3),(pI r0),(pI r1),(pI r2)]),some (.row 78 R.length ((R.map rwE).flatten))]:=by
 subst Am Eh F5;have k1:=fk 4 (fT u1 65520 h4) rfl;have k2:=mq cb 4 (cN 2 ((bL u1 65520).2) ln k l f e R);exact FMM.fi 4 gE func93 [.x (aD u0),bF,bF,.x (aD u1),k1.o,bF,bF,bF,bT,bT,bT,bF,bT,bF,bF,k2.o,bT,bT,bT,bT,bF] (gc (aO h9) (Cm (dG h8) (gc k2 (gc (bB h7) (gc (bI h5) (gc (dG h6) (gc (bI h5) (Au (dG h6) (Au (bI h5) (gc k1 (gt (((fs.map stE).flatten)[1]? = some (aD u1)) (aN (E:=stE) (i:=1) (f:=0) (k:=1) (fun _=>rfl) h3 rfl) (gc (bD (E:=stE) (k:=1) (i:=(1:Int)) (fun _=>rfl) (by decide) (by first | decide | simp) h3) (gc (aO h2) (gc (aV (decide_eq_true h1)) (gt (((fs.map stE).flatten)[0]? = some (aD u0)) (aN (E:=stE) (i:=0) (f:=0) (k:=1) (fun _=>rfl) h0 rfl) (gc (bD (E:=stE) (k:=1) (i:=(0:Int)) (fun _=>rfl) (by decide) (by first | decide | simp) h0) gn))))))))))))))))
theorem bLo{R:List (List Cel)}(h5:((bL u1 65520).2)≠3)(h6:((bL u1 65520).2)≠0)(h7:((aR ln 2 ((bL u1 65520).2) (l,f,e)).2.2)≠0)(Am:r0=((aR ln 2 ((bL u1 65520).2) (l,f,e)).1))(Eh:r1=((aR ln 2 ((bL u1 65520).2) (l,f,e)).2.1))(F5:r2=((aR ln 2 ((bL u1 65520).2) (l,f,e)).2.2)):FMM Tp 93 [(.p (.sl fs.length ((fs.map stE).flatten))),(pI sm),(.fn 176 [] [(.ptr 0 0),(.ptr 1 0)])] [some (.box 156 [(.ptr 2 0)]),some (.box 3 [(pI ln)]),some (.box 158 [(pI k),(.own 3),(pI l),(pI f),(pI e)]),some (.row 78 R.length ((R.map rwE).flatten))] (.tup []) [some (.box 156 [(.ptr 2 0)]),some (.box 3 [(pI ln)]),some (.box 158 [(pI k),(.own 3),(pI r0),(pI r1),(pI r2)]),some (.row 78 R.length ((R.map rwE).flatten))]:=by
 subst Am Eh F5;have k1:=fk 4 (fT u1 65520 h4) rfl;have k2:=mq cb 4 (cN 2 ((bL u1 65520).2) ln k l f e R);exact FMM.fi 4 gE func93 ([.x (aD u0),bF,bF,.x (aD u1),k1.o]++rF 9++[k2.o,bF,bF,bF,bF]) (Cm (bI h7) (gc k2 (gc (bI h5) (gc (bI h6) (gc (bI h5) (Au (bI h6) (Au (bI h5) (gc k1 (gt (((fs.map stE).flatten)[1]? = some (aD u1)) (aN (E:=stE) (i:=1) (f:=0) (k:=1) (fun _=>rfl) h3 rfl) (gc (bD (E:=stE) (k:=1) (i:=(1:Int)) (fun _=>rfl) (by decide) (by first | decide | simp) h3) (gc (aO h2) (gc (aV (decide_eq_true h1)) (gt (((fs.map stE).flatten)[0]? = some (aD u0)) (aN (E:=stE) (i:=0) (f:=0) (k:=1) (fun _=>rfl) h0 rfl) (gc (bD (E:=stE) (k:=1) (i:=(0:Int)) (fun _=>rfl) (by decide) (by first | decide | simp) h0) gn))))))))))))))
end
def rdL:List Int→List (List UInt8)→Nat→List Cel ⊕ (Int × Int)
 | [],_,_ => .inl []
 | _::_,[],i => .inr (((i+1:Nat):Int),11)
 | t::ts,u::us,i=>if (rdM t u).2≠0 then .inr (((i+1:Nat):Int),(rdM t u).2) else match rdL ts us (i+1) with
  | .inl cs => .inl ((rdM t u).1::cs)
  | .inr p => .inr p
theorem tR{k:Int}{fs:List (List UInt8)}(ln:Int)(R:List (List Cel))(l f:Int)(hf:∀ u∈fs,u.length≤90000):∀ (ts:List Int) (us:List (List UInt8)) (i:Nat) (o:List Cel),(aJ k).drop i=ts→fs.drop i=us→i≤(aJ k).length→i≤fs.length→o.length=i →
  (∃ cs,rdL ts us i = .inl cs∧aF Tp 4 jI (cW fs ln k R i o.length ((o.map cE).flatten) l f 0) (.exit 0) (cW fs ln k R (aJ k).length (o++cs).length (((o++cs).map cE).flatten) l f 0)) ∨
  (∃ fd er j o',rdL ts us i = .inr (fd,er)∧er≠0∧aF Tp 4 jI (cW fs ln k R i o.length ((o.map cE).flatten) l f 0) .ret (cG (cW fs ln k R j o'.length ((List.map cE o').flatten) ln fd er) [(6,(.p bK)),(7,(pB false))]))
 | [],us,i,o,ht,hu,hi,hj,ho=>by
  have hl:(aJ k).length≤i:=List.drop_eq_nil_iff.1 ht;have:i=(aJ k).length:=by omega
  subst this;exact .inl ⟨[],rfl,by rw [List.append_nil];exact .exit (aZe (by omega)) (by simp)⟩
 | t::ts,[],i,o,ht,hu,hi,hj,ho=>by
  have hc:=pO k;have hl:=congrArg List.length ht;rw [uK,gO] at hl
  have Bh:fs.length≤i:=List.drop_eq_nil_iff.1 hu;have e:=Ek (er:=11) ln (((i+1:Nat)):Int) l f (by decide)
  have:=aYv (fs:=fs) (ln:=ln) (k:=k) (R:=R) (i:=i) (o:=o) (l1:=l) (f1:=f) (e1:=0) (by omega) (by omega) (aW (by omega)) rfl rfl rfl
  rw [e] at this
  exact .inr ⟨_,11,i,o,rfl,by decide,.exit this (by simp)⟩
 | t::ts,u::us,i,o,ht,hu,hi,hj,ho=>by
  have hc:=pO k;have hl:=congrArg List.length ht;rw [uK,gO] at hl
  have Bh:=congrArg List.length hu;rw [uK,gO] at Bh
  have h1:(aJ k)[i]? = some t:=by
   have:=congrArg (fun l:List Int=>l[0]?) ht
   simpa using this
  have h2:fs[i]? = some u:=by
   have:=congrArg (fun l:List (List UInt8)=>l[0]?) hu
   simpa using this
  have Ob:=hf u (Cn h2);have I0:(aJ k).drop (i+1)=ts:=by
   have:=congrArg List.tail ht;rw [List.tail_drop] at this;exact this
  have P9:fs.drop (i+1)=us:=by
   have:=congrArg List.tail hu;rw [List.tail_drop] at this;exact this
  unfold rdL
  by_cases hz:(rdM t u).2=0
  ·rw [if_neg (by simp [hz])]
   have hs:aA Tp 4 jI (cW fs ln k R i o.length ((o.map cE).flatten) l f 0) .normal (cW fs ln k R (i+1) (o++[(rdM t u).1]).length (((o++[(rdM t u).1]).map cE).flatten) l f 0):=by
    rcases mM h1 with rfl | rfl | rfl | rfl
    ·exact aYx (by omega) (by omega) h1 h2 (aW (by omega)) (by rw [hz];rfl) ⟨rfl,by omega⟩ rfl (by simp) (by simp [cE]) (by rw [hz];rfl) (by rw [hz];rfl) (by rw [hz];rfl)
    ·exact aYz (by omega) (by omega) h1 h2 Ob (aW (by omega)) (by rw [hz];rfl) ⟨rfl,by omega⟩ rfl (by simp) (by simp [cE]) (by rw [hz];rfl) (by rw [hz];rfl) (by rw [hz];rfl)
    ·exact aZb (by omega) (by omega) h1 h2 (aW (by omega)) (by rw [hz];rfl) ⟨rfl,by omega⟩ rfl (by simp) (by simp [cE]) (by rw [hz];rfl) (by rw [hz];rfl) (by rw [hz];rfl)
    ·exact aZd (by omega) (by omega) h1 h2 (aW (by omega)) (by rw [hz];rfl) ⟨rfl,by omega⟩ rfl (by simp) (by simp [cE]) (by rw [hz];rfl) (by rw [hz];rfl) (by rw [hz];rfl)
   rcases tR ln R l f hf ts us (i+1) (o++[(rdM t u).1]) I0 P9 (by omega) (by omega) (by simp;omega) with ⟨cs,q1,q2⟩ | ⟨fd,er,j,o',q1,q2,q3⟩
   ·rw [q1]
    refine .inl ⟨_,rfl,?_⟩;rw [List.append_cons];exact .step hs q2
   ·rw [q1]
    exact .inr ⟨fd,er,j,o',rfl,q2,.step hs q3⟩
  ·rw [if_pos hz]
   have e:=Ek ln (((i+1:Nat)):Int) l f hz;refine .inr ⟨_,_,i,o,rfl,hz,?_⟩;have hx:∀ (P:Int × Int × Int→Prop),P (aR ln (((i+1:Nat)):Int) (rdM t u).2 (l,f,0))→P (ln,(((i+1:Nat)):Int),(rdM t u).2):=fun P h=>by rw [e] at h;exact h
   refine hx (fun q=>aF Tp 4 jI (cW fs ln k R i o.length ((o.map cE).flatten) l f 0) .ret (cG (cW fs ln k R i o.length ((List.map cE o).flatten) q.1 q.2.1 q.2.2) [(6,(.p bK)),(7,(pB false))])) ?_
   rcases mM h1 with rfl | rfl | rfl | rfl
   ·exact .exit (aYw (by omega) (by omega) h1 h2 (aW (by omega)) (by rw [e];exact hz) rfl rfl rfl) (by simp)
   ·exact .exit (aYy (by omega) (by omega) h1 h2 Ob (aW (by omega)) (by rw [e];exact hz) rfl rfl rfl) (by simp)
   ·exact .exit (aZa (by omega) (by omega) h1 h2 (aW (by omega)) (by rw [e];exact hz) rfl rfl rfl) (by simp)
   ·exact .exit (aZc (by omega) (by omega) h1 h2 (aW (by omega)) (by rw [e];exact hz) rfl rfl rfl) (by simp)
theorem kS{k:Int}{fs:List (List UInt8)}{cs:List Cel}(ln:Int)(R:List (List Cel))(l f:Int)(hf:∀ u∈fs,u.length≤90000)(h:rdL (aJ k) fs 0 = .inl cs)(hl:fs.length=(aJ k).length):FMM Tp 91 [.ptr 0 0,.p (.sl fs.length ((fs.map stE).flatten)),.fn 176 [] [.ptr 2 0,.ptr 3 0]] [some (.box 158 [(pI k),(.own 1),(pI l),(pI f),(pI 0)]),some (.row 78 R.length ((R.map rwE).flatten)),some (.box 156 [(.ptr 0 0)]),some (.box 3 [(pI ln)])] (.tup [.own 4,.p (blP true)]) [some (.box 158 [(pI k),(.own 1),(pI l),(pI f),(pI 0)]),some (.row 78 R.length ((R.map rwE).flatten)),some (.box 156 [(.ptr 0 0)]),some (.box 3 [(pI ln)]),some (.row 80 cs.length ((cs.map cE).flatten))]:=by
 rcases tR ln R l f hf (aJ k) fs 0 [] rfl rfl (by omega) (by omega) rfl with ⟨Bm,q1,q2⟩ | ⟨fd,er,j,o',q1,_,_⟩
 ·rw [q1] at h;cases h
  exact bWo q2 (by omega)
 ·rw [q1] at h;cases h
theorem aJl{k:Int}{fs:List (List UInt8)}{cs:List Cel}(ln:Int)(R:List (List Cel))(l f:Int)(hf:∀ u∈fs,u.length≤90000)(h:rdL (aJ k) fs 0 = .inl cs)(hl:fs.length≠(aJ k).length):FMM Tp 91 [.ptr 0 0,.p (.sl fs.length ((fs.map stE).flatten)),.fn 176 [] [.ptr 2 0,.ptr 3 0]] [some (.box 158 [(pI k),(.own 1),(pI l),(pI f),(pI 0)]),some (.row 78 R.length ((R.map rwE).flatten)),some (.box 156 [(.ptr 0 0)]),some (.box 3 [(pI ln)])] (.tup [.own 4,.p (blP false)]) [some (.box 158 [(pI k),(.own 1),(pI ln),(pI (((aJ k).length+1:Nat):Int)),(pI 11)]),some (.row 78 R.length ((R.map rwE).flatten)),some (.box 156 [(.ptr 0 0)]),some (.box 3 [(pI ln)]),some (.row 80 cs.length ((cs.map cE).flatten))]:=by
 have hc:=pO k
 rcases tR ln R l f hf (aJ k) fs 0 [] rfl rfl (by omega) (by omega) rfl with ⟨Bm,q1,q2⟩ | ⟨fd,er,j,o',q1,_,_⟩
 ·rw [q1] at h;cases h
  exact bWp q2 (by omega) (aW (by omega)) rfl rfl rfl rfl
 ·rw [q1] at h;cases h
theorem aQv{k:Int}{fs:List (List UInt8)}{fd er:Int}(ln:Int)(R:List (List Cel))(l f:Int)(hf:∀ u∈fs,u.length≤90000)(h:rdL (aJ k) fs 0 = .inr (fd,er)):er≠0∧FMM Tp 91 [.ptr 0 0,.p (.sl fs.length ((fs.map stE).flatten)),.fn 176 [] [.ptr 2 0,.ptr 3 0]] [some (.box 158 [(pI k),(.own 1),(pI l),(pI f),(pI 0)]),some (.row 78 R.length ((R.map rwE).flatten)),some (.box 156 [(.ptr 0 0)]),some (.box 3 [(pI ln)])] (.tup [.p bK,.p (blP false)]) [some (.box 158 [(pI k),(.own 1),(pI ln),(pI fd),(pI er)]),some (.row 78 R.length ((R.map rwE).flatten)),some (.box 156 [(.ptr 0 0)]),some (.box 3 [(pI ln)])]:=by
 rcases tR ln R l f hf (aJ k) fs 0 [] rfl rfl (by omega) (by omega) rfl with ⟨Bm,q1,q2⟩ | ⟨fd',er',j,o',q1,hz,q2⟩
 ·rw [q1] at h;cases h
 ·rw [q1] at h;cases h
  have hb:(er == 0)=false:=by simpa using hz
  refine ⟨hz,?_⟩;have:=bWq (k:=k) (l:=l) (f:=f) (e:=0) (r0:=(er == 0)) (by rw [hb];exact q2) rfl
  rw [hb] at this
  exact this
def lsC(fs:List (List UInt8))(sm:Int):Int:=if (bL (fld fs 1) 65520).2=3∨((bL (fld fs 1) 65520).2=0∧(bL (fld fs 1) 65520).1≠sm) then 8 else (bL (fld fs 1) 65520).2
def lsM(fs:List (List UInt8))(sm:Int):Int × Int:=if fld fs 0≠[115,117,109] then (1,11) else if fs.length<2 then (2,11) else if lsC fs sm≠0 then (2,lsC fs sm) else if 2<fs.length then (3,11) else (0,0)
theorem bFl(fs:List (List UInt8))(sm ln k l f:Int)(R:List (List Cel))(h0:0<fs.length):FMM Tp 93 [.p (.sl fs.length ((fs.map stE).flatten)),.p (aB sm),.fn 176 [] [.ptr 0 0,.ptr 1 0]] [some (.box 156 [(.ptr 2 0)]),some (.box 3 [(pI ln)]),some (.box 158 [(pI k),(.own 3),(pI l),(pI f),(pI 0)]),some (.row 78 R.length ((R.map rwE).flatten))] (.tup []) [some (.box 156 [(.ptr 2 0)]),some (.box 3 [(pI ln)]),some (.box 158 [(pI k),(.own 3),(pI ((aR ln (lsM fs sm).1 (lsM fs sm).2 (l,f,0)).1)),(pI ((aR ln (lsM fs sm).1 (lsM fs sm).2 (l,f,0)).2.1)),(pI ((aR ln (lsM fs sm).1 (lsM fs sm).2 (l,f,0)).2.2))]),some (.row 78 R.length ((R.map rwE).flatten))]:=by
 have f0:=zU (fs:=fs) (j:=0) h0;unfold lsM
 by_cases h1:fld fs 0=[115,117,109]
 ·rw [if_neg (by simp [h1])]
  by_cases h2:fs.length<2
  ·rw [if_pos h2]
   exact bWs f0 h1 (by omega) rfl rfl rfl
  ·rw [if_neg h2]
   have f1:=zU (fs:=fs) (j:=1) (by omega)
   have t1:∀ fd er,er≠0→aR ln fd er (l,f,0)=(ln,fd,er):=fun fd er h=>Ek ln fd l f h
   by_cases h3:(bL (fld fs 1) 65520).2=3
   ·have ec:lsC fs sm=8:=if_pos (.inl h3)
    rw [if_pos (by rw [ec];decide),ec]
    exact bWt f0 h1 (by omega) f1 (by omega) h3 (by rw [t1 _ _ (by decide)];simp) rfl rfl rfl
   ·by_cases h4:(bL (fld fs 1) 65520).2=0
    ·by_cases h5:(bL (fld fs 1) 65520).1=sm
     ·have ec:lsC fs sm=0:=by unfold lsC;rw [if_neg (by simp [h4,h5])];exact h4
      rw [if_neg (by rw [ec];simp)]
      by_cases h6:2<fs.length
      ·rw [if_pos h6]
       have:=bWv (k:=k) (l:=l) (f:=f) (e:=0) (ln:=ln) (R:=R) f0 h1 (by omega) f1 (by omega) h3 h4 h5 (by rw [h4];rfl) (by omega) rfl rfl rfl
       rw [h4] at this
       exact this
      ·rw [if_neg h6]
       have:=bWw (k:=k) (l:=l) (f:=f) (e:=0) (ln:=ln) (R:=R) f0 h1 (by omega) f1 (by omega) h3 h4 h5 (by rw [h4];rfl) (by omega) rfl rfl rfl
       rw [h4] at this
       exact this
     ·have ec:lsC fs sm=8:=if_pos (.inr ⟨h4,h5⟩)
      rw [if_pos (by rw [ec];decide),ec]
      exact bWu f0 h1 (by omega) f1 (by omega) h3 h4 h5 (by rw [t1 _ _ (by decide)];simp) rfl rfl rfl
    ·have ec:lsC fs sm=(bL (fld fs 1) 65520).2:=if_neg (by simp [h3,h4])
     rw [if_pos (by rw [ec];exact h4),ec]
     exact bLo f0 h1 (by omega) f1 (by omega) h3 h4 (by rw [t1 _ _ h4];exact h4) rfl rfl rfl
 ·rw [if_pos h1]
  exact bWr f0 h1 rfl rfl rfl
end
section
variable {j k Bi Cl:Int}{i i' Aq base:Nat}

noncomputable abbrev aCy:Code:=sub (cd Tryz.f107) [1,1,0,1,0,0]
noncomputable abbrev aCz:Code:=sub (cd Tryz.f167) [1,1,0,1,0,0]
noncomputable abbrev aDa:Code:=sub (cd Tryz.f46) [1,1,0,1,0,0]
noncomputable abbrev aDb:Code:=sub (cd Tryz.f117) [1,1,0,1,0,0]
theorem bLn{b t g:Int}:FV Tp 87 [(pI b),(pI t),(pI g)] base (.p (.sl 3 [(aB b),(aD ([]:List UInt8)),(aB t),(aD ([]:List UInt8)),(aB g),(aD ([]:List UInt8))])) []:=FV.frz (FMM.fi 0 ⟨[],[],[0],[]⟩ func87 [] gn) (by kernel_rfl)
theorem qD(b t g:Int){base:Nat}:FV Tp 87 [.p (aB b),.p (aB t),.p (aB g)] base (.p (.sl ([(b,[]),(t,[]),(g,[])]:List Cel).length ((([(b,[]),(t,[]),(g,[])]:List Cel).map cE).flatten))) []:=bLn
theorem dV{α β:Type}{l:List α}{x:List β}{j:Nat}{p:α × β}(h:(l.zip x)[j]? = some p):l[j]? = some p.1∧x[j]? = some p.2:=by
 rw [List.zip,List.getElem?_zipWith] at h
 cases h1:l[j]? with
 | none=>rw [h1] at h;simp at h
 | some t =>
  cases h2:x[j]? with
  | none=>rw [h1,h2] at h;simp at h
  | some c=>rw [h1,h2] at h;simp at h;subst h;exact ⟨rfl,rfl⟩
theorem iR{α:Type}[DecidableEq α]:∀ (r t:List α),r.length=t.length→(r.zip t).any (fun q => !(decide (q.1=q.2)))=false→r=t
 | [],[],_,_=>rfl
 | a::r,b::t,hl,h=>by
  simp only [List.zip_cons_cons,List.any_cons,Bool.or_eq_false_iff,Bool.not_eq_false',decide_eq_true_eq] at h
  rw [h.1,iR r t (by simpa using hl) h.2]
 | [],_::_,hl,_=>by simp at hl
 | _::_,[],hl,_=>by simp at hl
theorem uZ{a b:Int}{z y:List UInt8}:(decide (a=b) && (decide (z=y) && true))=decide (((a,z):Cel)=(b,y)):=by
 by_cases h:a=b <;> by_cases h2:z=y <;> simp [h,h2]
def iS(r t:List Cel)(i:Nat):St:=⟨fr 26 [(0,(.p (.sl r.length ((r.map cE).flatten)))),(1,(.p (.sl t.length ((t.map cE).flatten)))),(12,(pI (r.length:Int))),(13,(pI (i:Int)))],[]⟩
theorem bVw{r t:List Cel}(h0:(r.length:Int)≠(t.length:Int)):FV Tp 107 [(.p (.sl r.length ((r.map cE).flatten))),(.p (.sl t.length ((t.map cE).flatten)))] base (pB false) []:=FV.fi func107 [bT] (gc (dE h0) gn)
theorem bVx{r t:List Cel}(h0:(r.length:Int)=(t.length:Int))(Ao:aF Tp 0 aCy (iS r t 0) (.exit 0) (iS r t Aq)):FV Tp 107 [(.p (.sl r.length ((r.map cE).flatten))),(.p (.sl t.length ((t.map cE).flatten)))] base (pB true) []:=FV.fi func107 [bF,Ao.k 4 (gZ bq)] (gc Ao.code (gc (bB h0) gn))
theorem bVy{r t:List Cel}(h0:(r.length:Int)=(t.length:Int))(Ao:aF Tp 0 aCy (iS r t 0) .ret (cG (iS r t Aq) [(4,(pB false))])):FV Tp 107 [(.p (.sl r.length ((r.map cE).flatten))),(.p (.sl t.length ((t.map cE).flatten)))] base (pB false) []:=FV.fi func107 [bF,Ao.k 4 (gZ bq)] (gc Ao.code (gc (bB h0) gn))
section
variable{r t:List Cel}{Bo B2:List UInt8}(h0:(i:Int)<(r.length:Int))(h1:r[i]? = some (Bi,Bo))(h2:t[i]? = some (Cl,B2))
include h0 h1 h2
theorem aYj(h3:(decide (Bi=Cl) && (decide (Bo=B2) && true))=false):aA Tp 0 aCy (iS r t i) .ret (cG (iS r t i) [(4,(pB false))]):=aA.fi (gN bi [] [(4,0)]) [bT,.x (.agg [(aB Bi),(aD Bo)]),.x (.agg [(aB Cl),(aD B2)]),bT] (gc (cY h3) (gc (bE (E:=cE) (i:=i) (k:=2) (fun _=>rfl) h2 rfl) (gc (bZ (E:=cE) (i:=i) (k:=2) (fun _=>rfl) h2) (gc (bD (E:=cE) (k:=2) (i:=(i:Int)) (fun _=>rfl) (by decide) (Bl _) h2) (gc (bE (E:=cE) (i:=i) (k:=2) (fun _=>rfl) h1 rfl) (gc (bZ (E:=cE) (i:=i) (k:=2) (fun _=>rfl) h1) (gc (bD (E:=cE) (k:=2) (i:=(i:Int)) (fun _=>rfl) (by decide) (Bl _) h1) (g0 h0))))))))
theorem aYk(h3:(decide (Bi=Cl) && (decide (Bo=B2) && true))=true)(h4:ce i)(Ai:i'=(i+1)):aA Tp 0 aCy (iS r t i) .normal (iS r t i'):=by
 subst Ai;exact aA.fi (gZ bq) [bT,.x (.agg [(aB Bi),(aD Bo)]),.x (.agg [(aB Cl),(aD B2)]),bF] (gc h4 (gc (aV h3) (gc (bE (E:=cE) (i:=i) (k:=2) (fun _=>rfl) h2 rfl) (gc (bZ (E:=cE) (i:=i) (k:=2) (fun _=>rfl) h2) (gc (bD (E:=cE) (k:=2) (i:=(i:Int)) (fun _=>rfl) (by decide) (Bl _) h2) (gc (bE (E:=cE) (i:=i) (k:=2) (fun _=>rfl) h1 rfl) (gc (bZ (E:=cE) (i:=i) (k:=2) (fun _=>rfl) h1) (gc (bD (E:=cE) (k:=2) (i:=(i:Int)) (fun _=>rfl) (by decide) (Bl _) h1) (g0 h0)))))))))
end
theorem aYl{r t:List Cel}(h0:(r.length:Int)≤(i:Int)):aA Tp 0 aCy (iS r t i) (.exit 0) (iS r t i):=aA.fi (gZ bq) [bF] (gc (aO h0) gn)
theorem pM(r t:List Cel)(h:r.length≤100000){base:Nat}:FV Tp 107 [.p (.sl r.length ((r.map cE).flatten)),.p (.sl t.length ((t.map cE).flatten))] base (pB (decide (r=t))) []:=by
 by_cases hl:r.length=t.length
 ·have hz:(r.zip t).length=r.length:=by rw [List.length_zip,hl,Nat.min_self]
  rcases aF.find (P:=Tp) (k:=0) (b:=aCy) (fun i=>iS r t i) (fun i _=>cG (iS r t i) [(4,.p (blP false))]) (iS r t r.length) .ret (.exit 0) (by simp) (by simp) (fun q:Cel × Cel => !(decide (q.1=q.2))) (r.zip t)
   (fun i q hx hp=>by
    obtain ⟨h1,h2⟩:=dV hx;have hi:=bH h1;obtain ⟨⟨a,z⟩,b,y⟩:=q;exact aYk (by omega) h1 h2 (by rw [uZ];exact (Bool.not_eq_false' _).mp hp) (aW (by omega)) rfl)
   (fun i q hx hp=>by
    obtain ⟨h1,h2⟩:=dV hx;have hi:=bH h1;obtain ⟨⟨a,z⟩,b,y⟩:=q;exact aYj (by omega) h1 h2 (by rw [uZ];exact (Bool.not_eq_true' _).mp hp))
   (by rw [hz];exact aYl (by omega)) with ⟨i,q,h1,h2,h3,h4⟩ | ⟨h1,h2,h3⟩
  ·have hne:decide (r=t)=false:=by
    apply decide_eq_false;intro e;subst e;obtain ⟨q1,q2⟩:=dV h1;rw [q1] at q2
    have:q.1=q.2:=by simpa using q2
    simp [this] at h3
   rw [hne];exact bVy (by omega) h4
  ·rw [decide_eq_true (iR r t hl h2)];exact bVx (by omega) h3
 ·have hne:decide (r=t)=false:=decide_eq_false (fun e=>hl (by rw [e]))
  rw [hne];exact bVw (by omega)
def iT(r t:List Cel)(i:Nat):St:=⟨fr 26 [(0,(.p (.sl r.length ((r.map cE).flatten)))),(1,(.p (.sl t.length ((t.map cE).flatten)))),(12,(pI (r.length:Int))),(13,(pI (i:Int)))],[]⟩
theorem bVz{r t:List Cel}(h0:(r.length:Int)≠(t.length:Int)):FV Tp 167 [(.p (.sl r.length ((r.map cE).flatten))),(.p (.sl t.length ((t.map cE).flatten)))] base (pB false) []:=FV.fi func167 [bT] (gc (dE h0) gn)
theorem bWa{r t:List Cel}(h0:(r.length:Int)=(t.length:Int))(Ao:aF Tp 0 aCz (iT r t 0) (.exit 0) (iT r t Aq)):FV Tp 167 [(.p (.sl r.length ((r.map cE).flatten))),(.p (.sl t.length ((t.map cE).flatten)))] base (pB true) []:=FV.fi func167 [bF,Ao.k 4 (gZ bq)] (gc Ao.code (gc (bB h0) gn))
theorem bWb{r t:List Cel}(h0:(r.length:Int)=(t.length:Int))(Ao:aF Tp 0 aCz (iT r t 0) .ret (cG (iT r t Aq) [(4,(pB false))])):FV Tp 167 [(.p (.sl r.length ((r.map cE).flatten))),(.p (.sl t.length ((t.map cE).flatten)))] base (pB false) []:=FV.fi func167 [bF,Ao.k 4 (gZ bq)] (gc Ao.code (gc (bB h0) gn))
section
variable{r t:List Cel}{Bo B2:List UInt8}(h0:(i:Int)<(r.length:Int))(h1:r[i]? = some (Bi,Bo))(h2:t[i]? = some (Cl,B2))
include h0 h1 h2
theorem aYm(h3:(decide (Bi=Cl) && (decide (Bo=B2) && true))=false):aA Tp 0 aCz (iT r t i) .ret (cG (iT r t i) [(4,(pB false))]):=aA.fi (gN bi [] [(4,0)]) [bT,.x (.agg [(aB Bi),(aD Bo)]),.x (.agg [(aB Cl),(aD B2)]),bT] (gc (cY h3) (gc (bE (E:=cE) (i:=i) (k:=2) (fun _=>rfl) h2 rfl) (gc (bZ (E:=cE) (i:=i) (k:=2) (fun _=>rfl) h2) (gc (bD (E:=cE) (k:=2) (i:=(i:Int)) (fun _=>rfl) (by decide) (Bl _) h2) (gc (bE (E:=cE) (i:=i) (k:=2) (fun _=>rfl) h1 rfl) (gc (bZ (E:=cE) (i:=i) (k:=2) (fun _=>rfl) h1) (gc (bD (E:=cE) (k:=2) (i:=(i:Int)) (fun _=>rfl) (by decide) (Bl _) h1) (g0 h0))))))))
theorem aYn(h3:(decide (Bi=Cl) && (decide (Bo=B2) && true))=true)(h4:ce i)(Ai:i'=(i+1)):aA Tp 0 aCz (iT r t i) .normal (iT r t i'):=by
 subst Ai;exact aA.fi (gZ bq) [bT,.x (.agg [(aB Bi),(aD Bo)]),.x (.agg [(aB Cl),(aD B2)]),bF] (gc h4 (gc (aV h3) (gc (bE (E:=cE) (i:=i) (k:=2) (fun _=>rfl) h2 rfl) (gc (bZ (E:=cE) (i:=i) (k:=2) (fun _=>rfl) h2) (gc (bD (E:=cE) (k:=2) (i:=(i:Int)) (fun _=>rfl) (by decide) (Bl _) h2) (gc (bE (E:=cE) (i:=i) (k:=2) (fun _=>rfl) h1 rfl) (gc (bZ (E:=cE) (i:=i) (k:=2) (fun _=>rfl) h1) (gc (bD (E:=cE) (k:=2) (i:=(i:Int)) (fun _=>rfl) (by decide) (Bl _) h1) (g0 h0)))))))))
end
theorem aYo{r t:List Cel}(h0:(r.length:Int)≤(i:Int)):aA Tp 0 aCz (iT r t i) (.exit 0) (iT r t i):=aA.fi (gZ bq) [bF] (gc (aO h0) gn)
theorem bFj(r t:List Cel)(h:r.length≤100000){base:Nat}:FV Tp 167 [.p (.sl r.length ((r.map cE).flatten)),.p (.sl t.length ((t.map cE).flatten))] base (pB (decide (r=t))) []:=by
 by_cases hl:r.length=t.length
 ·have hz:(r.zip t).length=r.length:=by rw [List.length_zip,hl,Nat.min_self]
  rcases aF.find (P:=Tp) (k:=0) (b:=aCz) (fun i=>iT r t i) (fun i _=>cG (iT r t i) [(4,.p (blP false))]) (iT r t r.length) .ret (.exit 0) (by simp) (by simp) (fun q:Cel × Cel => !(decide (q.1=q.2))) (r.zip t)
   (fun i q hx hp=>by
    obtain ⟨h1,h2⟩:=dV hx;have hi:=bH h1;obtain ⟨⟨a,z⟩,b,y⟩:=q;exact aYn (by omega) h1 h2 (by rw [uZ];exact (Bool.not_eq_false' _).mp hp) (aW (by omega)) rfl)
   (fun i q hx hp=>by
    obtain ⟨h1,h2⟩:=dV hx;have hi:=bH h1;obtain ⟨⟨a,z⟩,b,y⟩:=q;exact aYm (by omega) h1 h2 (by rw [uZ];exact (Bool.not_eq_true' _).mp hp))
   (by rw [hz];exact aYo (by omega)) with ⟨i,q,h1,h2,h3,h4⟩ | ⟨h1,h2,h3⟩
  ·have hne:decide (r=t)=false:=by
    apply decide_eq_false;intro e;subst e;obtain ⟨q1,q2⟩:=dV h1;rw [q1] at q2
    have:q.1=q.2:=by simpa using q2
    simp [this] at h3
   rw [hne];exact bWb (by omega) h4
  ·rw [decide_eq_true (iR r t hl h2)];exact bWa (by omega) h3
 ·have hne:decide (r=t)=false:=decide_eq_false (fun e=>hl (by rw [e]))
  rw [hne];exact bVz (by omega)
def iU(r t:List Cel)(i:Nat):St:=⟨fr 26 [(0,(.p (.sl r.length ((r.map cE).flatten)))),(1,(.p (.sl t.length ((t.map cE).flatten)))),(12,(pI (r.length:Int))),(13,(pI (i:Int)))],[]⟩
theorem bWc{r t:List Cel}(h0:(r.length:Int)≠(t.length:Int)):FV Tp 46 [(.p (.sl r.length ((r.map cE).flatten))),(.p (.sl t.length ((t.map cE).flatten)))] base (pB false) []:=FV.fi func46 [bT] (gc (dE h0) gn)
theorem bWd{r t:List Cel}(h0:(r.length:Int)=(t.length:Int))(Ao:aF Tp 0 aDa (iU r t 0) (.exit 0) (iU r t Aq)):FV Tp 46 [(.p (.sl r.length ((r.map cE).flatten))),(.p (.sl t.length ((t.map cE).flatten)))] base (pB true) []:=FV.fi func46 [bF,Ao.k 4 (gZ bq)] (gc Ao.code (gc (bB h0) gn))
theorem bWe{r t:List Cel}(h0:(r.length:Int)=(t.length:Int))(Ao:aF Tp 0 aDa (iU r t 0) .ret (cG (iU r t Aq) [(4,(pB false))])):FV Tp 46 [(.p (.sl r.length ((r.map cE).flatten))),(.p (.sl t.length ((t.map cE).flatten)))] base (pB false) []:=FV.fi func46 [bF,Ao.k 4 (gZ bq)] (gc Ao.code (gc (bB h0) gn))
section
variable{r t:List Cel}{Bo B2:List UInt8}(h0:(i:Int)<(r.length:Int))(h1:r[i]? = some (Bi,Bo))(h2:t[i]? = some (Cl,B2))
include h0 h1 h2
theorem aYp(h3:(decide (Bi=Cl) && (decide (Bo=B2) && true))=false):aA Tp 0 aDa (iU r t i) .ret (cG (iU r t i) [(4,(pB false))]):=aA.fi (gN bi [] [(4,0)]) [bT,.x (.agg [(aB Bi),(aD Bo)]),.x (.agg [(aB Cl),(aD B2)]),bT] (gc (cY h3) (gc (bE (E:=cE) (i:=i) (k:=2) (fun _=>rfl) h2 rfl) (gc (bZ (E:=cE) (i:=i) (k:=2) (fun _=>rfl) h2) (gc (bD (E:=cE) (k:=2) (i:=(i:Int)) (fun _=>rfl) (by decide) (Bl _) h2) (gc (bE (E:=cE) (i:=i) (k:=2) (fun _=>rfl) h1 rfl) (gc (bZ (E:=cE) (i:=i) (k:=2) (fun _=>rfl) h1) (gc (bD (E:=cE) (k:=2) (i:=(i:Int)) (fun _=>rfl) (by decide) (Bl _) h1) (g0 h0))))))))
theorem aYq(h3:(decide (Bi=Cl) && (decide (Bo=B2) && true))=true)(h4:ce i)(Ai:i'=(i+1)):aA Tp 0 aDa (iU r t i) .normal (iU r t i'):=by
 subst Ai;exact aA.fi (gZ bq) [bT,.x (.agg [(aB Bi),(aD Bo)]),.x (.agg [(aB Cl),(aD B2)]),bF] (gc h4 (gc (aV h3) (gc (bE (E:=cE) (i:=i) (k:=2) (fun _=>rfl) h2 rfl) (gc (bZ (E:=cE) (i:=i) (k:=2) (fun _=>rfl) h2) (gc (bD (E:=cE) (k:=2) (i:=(i:Int)) (fun _=>rfl) (by decide) (Bl _) h2) (gc (bE (E:=cE) (i:=i) (k:=2) (fun _=>rfl) h1 rfl) (gc (bZ (E:=cE) (i:=i) (k:=2) (fun _=>rfl) h1) (gc (bD (E:=cE) (k:=2) (i:=(i:Int)) (fun _=>rfl) (by decide) (Bl _) h1) (g0 h0)))))))))
end
theorem aYr{r t:List Cel}(h0:(r.length:Int)≤(i:Int)):aA Tp 0 aDa (iU r t i) (.exit 0) (iU r t i):=aA.fi (gZ bq) [bF] (gc (aO h0) gn)
theorem bFk(r t:List Cel)(h:r.length≤100000){base:Nat}:FV Tp 46 [.p (.sl r.length ((r.map cE).flatten)),.p (.sl t.length ((t.map cE).flatten))] base (pB (decide (r=t))) []:=by
 by_cases hl:r.length=t.length
 ·have hz:(r.zip t).length=r.length:=by rw [List.length_zip,hl,Nat.min_self]
  rcases aF.find (P:=Tp) (k:=0) (b:=aDa) (fun i=>iU r t i) (fun i _=>cG (iU r t i) [(4,.p (blP false))]) (iU r t r.length) .ret (.exit 0) (by simp) (by simp) (fun q:Cel × Cel => !(decide (q.1=q.2))) (r.zip t)
   (fun i q hx hp=>by
    obtain ⟨h1,h2⟩:=dV hx;have hi:=bH h1;obtain ⟨⟨a,z⟩,b,y⟩:=q;exact aYq (by omega) h1 h2 (by rw [uZ];exact (Bool.not_eq_false' _).mp hp) (aW (by omega)) rfl)
   (fun i q hx hp=>by
    obtain ⟨h1,h2⟩:=dV hx;have hi:=bH h1;obtain ⟨⟨a,z⟩,b,y⟩:=q;exact aYp (by omega) h1 h2 (by rw [uZ];exact (Bool.not_eq_true' _).mp hp))
   (by rw [hz];exact aYr (by omega)) with ⟨i,q,h1,h2,h3,h4⟩ | ⟨h1,h2,h3⟩
  ·have hne:decide (r=t)=false:=by
    apply decide_eq_false;intro e;subst e;obtain ⟨q1,q2⟩:=dV h1;rw [q1] at q2
    have:q.1=q.2:=by simpa using q2
    simp [this] at h3
   rw [hne];exact bWe (by omega) h4
  ·rw [decide_eq_true (iR r t hl h2)];exact bWd (by omega) h3
 ·have hne:decide (r=t)=false:=decide_eq_false (fun e=>hl (by rw [e]))
  rw [hne];exact bWc (by omega)
def iV(R T:List (List Cel))(i:Nat):St:=⟨fr 27 [(0,(.p (.sl R.length (R.map aM)))),(1,(.p (.sl T.length (T.map aM)))),(12,(pI (R.length:Int))),(13,(pI (i:Int)))],[]⟩
theorem bWf{R T:List (List Cel)}(h0:(R.length:Int)≠(T.length:Int)):FV Tp 117 [(.p (.sl R.length (R.map aM))),(.p (.sl T.length (T.map aM)))] base (pB false) []:=FV.fi func117 [bT] (gc (dE h0) gn)
theorem bWg{R T:List (List Cel)}(h0:(R.length:Int)=(T.length:Int))(Ao:aF Tp 0 aDb (iV R T 0) (.exit 0) (iV R T Aq)):FV Tp 117 [(.p (.sl R.length (R.map aM))),(.p (.sl T.length (T.map aM)))] base (pB true) []:=FV.fi func117 [bF,Ao.k 4 (gZ br)] (gc Ao.code (gc (bB h0) gn))
theorem bWh{R T:List (List Cel)}(h0:(R.length:Int)=(T.length:Int))(Ao:aF Tp 0 aDb (iV R T 0) .ret (cG (iV R T Aq) [(4,(pB false))])):FV Tp 117 [(.p (.sl R.length (R.map aM))),(.p (.sl T.length (T.map aM)))] base (pB false) []:=FV.fi func117 [bF,Ao.k 4 (gZ br)] (gc Ao.code (gc (bB h0) gn))
section
variable{R T:List (List Cel)}{Ab A6:List Cel}(h0:(i:Int)<(R.length:Int))(h1:R[i]? = some Ab)(h2:T[i]? = some A6)(h3:Ab.length≤100000)
include h0 h1 h2 h3
theorem aYs(h4:(decide (Ab=A6))=false):aA Tp 0 aDb (iV R T i) .ret (cG (iV R T i) [(4,(pB false))]):=have k1:=fk 0 (bFk Ab A6 h3) rfl;aA.fi (gN [2,2,5,7,14,13] [] [(4,0)]) [bT,.x (.sl Ab.length ((Ab.map cE).flatten)),.x (.sl A6.length ((A6.map cE).flatten)),k1.o,bT] (gc (cY h4) (gc k1 (gc (atm aM h2) (gc (ixn aM h2) (gc (atm aM h1) (gc (ixn aM h1) (g0 h0)))))))
theorem aYt(h4:(decide (Ab=A6))=true)(h5:ce i)(Ai:i'=(i+1)):aA Tp 0 aDb (iV R T i) .normal (iV R T i'):=by
 subst Ai;have k1:=fk 0 (bFk Ab A6 h3) rfl;exact aA.fi (gZ br) [bT,.x (.sl Ab.length ((Ab.map cE).flatten)),.x (.sl A6.length ((A6.map cE).flatten)),k1.o,bF] (gc h5 (gc (aV h4) (gc k1 (gc (atm aM h2) (gc (ixn aM h2) (gc (atm aM h1) (gc (ixn aM h1) (g0 h0))))))))
end
theorem aYu{R T:List (List Cel)}(h0:(R.length:Int)≤(i:Int)):aA Tp 0 aDb (iV R T i) (.exit 0) (iV R T i):=aA.fi (gZ br) [bF] (gc (aO h0) gn)
theorem bWi(R T:List (List Cel))(h:R.length≤100000)(h2:∀ r∈R,r.length≤100000){base:Nat}:FV Tp 117 [.p (cD R),.p (cD T)] base (pB (decide (R=T))) []:=by
 by_cases hl:R.length=T.length
 ·have hz:(R.zip T).length=R.length:=by rw [List.length_zip,hl,Nat.min_self]
  rcases aF.find (P:=Tp) (k:=0) (b:=aDb) (fun i=>iV R T i) (fun i _=>cG (iV R T i) [(4,.p (blP false))]) (iV R T R.length) .ret (.exit 0) (by simp) (by simp) (fun q:List Cel × List Cel => !(decide (q.1=q.2))) (R.zip T)
   (fun i q hx hp=>by
    obtain ⟨h1,h3⟩:=dV hx;have hi:=bH h1;exact aYt (by omega) h1 h3 (h2 _ (Cn h1)) ((Bool.not_eq_false' _).mp hp) (aW (by omega)) rfl)
   (fun i q hx hp=>by
    obtain ⟨h1,h3⟩:=dV hx;have hi:=bH h1;exact aYs (by omega) h1 h3 (h2 _ (Cn h1)) ((Bool.not_eq_true' _).mp hp))
   (by rw [hz];exact aYu (by omega)) with ⟨i,q,h1,h2,h3,h4⟩ | ⟨h1,h2,h3⟩
  ·have hne:decide (R=T)=false:=by
    apply decide_eq_false;intro e;subst e;obtain ⟨q1,q2⟩:=dV h1;rw [q1] at q2
    have:q.1=q.2:=by simpa using q2
    simp [this] at h3
   rw [hne];exact bWh (by omega) h4
  ·rw [decide_eq_true (iR R T hl h2)];exact bWg (by omega) h3
 ·have hne:decide (R=T)=false:=decide_eq_false (fun e=>hl (by rw [e]))
  rw [hne];exact bWf (by omega)
theorem bWj{R T:List (List Cel)}{r0:Bool}(h0:k=j)(h1:R.length≤100000)(h2:∀ r∈R,r.length≤100000)(Am:r0=(decide (R=T))):FV Tp 24 [(.p (.agg [(aB k),(.sl R.length (R.map aM))])),(.p (.agg [(aB j),(.sl T.length (T.map aM))]))] base (pB r0) []:=by
 subst Am;have k1:=fk 2 (bWi R T h1 h2) rfl;exact FV.fi func24 (rT 5++[k1.o,bT]) (gc (dG h0) (gc k1 (Cr (dG h0) gn)))
theorem bWk{R T:List (List Cel)}(h0:k≠j):FV Tp 24 [(.p (.agg [(aB k),(.sl R.length (R.map aM))])),(.p (.agg [(aB j),(.sl T.length (T.map aM))]))] base (pB false) []:=FV.fi func24 (rF 6) (F6 (bI h0) gn)
theorem bWl(k:Int)(R:List (List Cel))(j:Int)(T:List (List Cel))(h:R.length≤100000)(h2:∀ r∈R,r.length≤100000){base:Nat}:FV Tp 24 [.p (.agg [aB k,cD R]),.p (.agg [aB j,cD T])] base (pB (decide (k=j∧R=T))) []:=by
 by_cases q:k=j
 ·have:=bWj (T:=T) (base:=base) q h h2 rfl
  have e:decide (k=j∧R=T)=decide (R=T):=by simp [q]
  rw [e];exact this
 ·have e:decide (k=j∧R=T)=false:=by simp [q]
  rw [e];exact bWk q
theorem bWm(r:List Cel):((r.map cE).flatten).length=r.length*2:=pZ (E:=cE) (k:=2) (fun _=>rfl) r
theorem bWn:FV Tp 86 [] base (.p (.agg [(aB 0),(.sl 2 [(PV.sl (([((7:Int),[]),((0:Int),[]),((1:Int),[])]:List Cel).length) ((([((7:Int),[]),((0:Int),[]),((1:Int),[])]:List Cel).map cE).flatten)),(.sl (([((12:Int),[]),((305:Int),[]),((0:Int),[])]:List Cel).length) ((([((12:Int),[]),((305:Int),[]),((0:Int),[])]:List Cel).map cE).flatten))])])) []:=have k1:=fk 1 (qD 7 0 1) rfl;have k2:=fk 1 (qD 12 305 0) rfl;FV.frz (FMM.fi 0 ⟨[],[],[1],[]⟩ func86 [k1.o,k2.o] (gc k2 (gc k1 gn))) (by kernel_rfl)
def kV:List (List Cel):=[[(7,[]),(0,[]),(1,[])],[(12,[]),(305,[]),(0,[])]]
theorem vA{base:Nat}:FV Tp 86 [] base (.p (.agg [aB 0,cD kV])) []:=bWn
end
section
variable {P:Program} {T:TT} {E:Env} {C C0:Cx} {M M0 M1:Mem} {w w0:World}

def bkN(all:List Nat)(j:Nat):Option Nat:=all[j]?
def qJ(E9:List Nat):List Nat→Mem→Option Upd
 | i::r,some o::m=>match mpO (bkN E9) o with
  | some o'=>(qJ E9 r m).map ((i,o') :: ·)
  | none=>none
 | [],[]=>some []
 | _,_=>none

theorem aDe{E9:List Nat}:∀ {ids:List Nat} {m:Mem} {L:Upd},qJ E9 ids m=some L→ids.Nodup →
  m.length=ids.length ∧
  ∀ (N:Mem),(∀ (p i:Nat) (o':AO),ids[p]? = some i→(bQ (upds N L) i=some o'↔∃ o,m[p]? = some (some o)∧mpO (bkN E9) o=some o')) ∧
   ∀ j,j∉ids→bQ (upds N L) j=bQ N j
 | [],[],L,h,_=>by
  unfold qJ at h;cases h
  refine ⟨rfl,fun N=>⟨fun p i o' hp=>by simp at hp,fun _ _=>rfl⟩⟩
 | i::r,some o::m,L,h,hd=>by
  unfold qJ at h
  split at h
  ·rename_i o' ho
   simp only [C8] at h
   obtain ⟨L',Ih,rfl⟩:=h;obtain ⟨Hd,E6⟩:=List.nodup_cons.1 hd;obtain ⟨q1,q2⟩:=aDe (ids:=r) Ih E6;refine ⟨by simpa using q1,fun N => ?_⟩
   obtain ⟨r1,r4⟩:=q2 (aZ N i (some o'));refine ⟨fun p j o2 hp => ?_,fun j hj => ?_⟩
   ·cases p with
    | zero =>
     simp at hp;subst hp
     simp only [upds];rw [r4 i Hd,cZ,if_pos rfl];constructor
     ·intro h;cases h;exact ⟨o,rfl,ho⟩
     ·rintro ⟨o3,h3,h4⟩
      simp at h3;subst h3
      rw [ho] at h4;exact h4
    | succ p =>
     simp only [upds];rw [List.getElem?_cons_succ] at hp
     rw [r1 p j o2 hp];rfl
   ·simp only [upds]
    rw [r4 j (fun e=>hj (Dd _ e)),cZ,if_neg (fun e=>hj (by simp [e]))]
  ·cases h
 | [],_::_,L,h,_=>by unfold qJ at h;cases h
 | _::_,[],L,h,_=>by unfold qJ at h;cases h
 | _::_,none::_,L,h,_=>by unfold qJ at h;cases h

theorem zX{E9:List Nat}:∀ {ids:List Nat} {m:Mem} {L:Upd},qJ E9 ids m=some L→∀ (p:Nat) (o1:AO),m[p]? = some (some o1)→∃ o',mpO (bkN E9) o1=some o'
 | [],[],L,h,p,o1,hp=>by simp at hp
 | i::r,some o::m,L,h,p,o1,hp=>by
  unfold qJ at h
  split at h
  ·rename_i hx
   simp only [C8] at h
   obtain ⟨L',Ih,_⟩:=h;cases p with
   | zero=>simp at hp;subst hp;exact ⟨_,hx⟩
   | succ p=>exact zX Ih p o1 (by simpa using hp)
  ·cases h
 | [],_::_,L,h,_,_,_=>by unfold qJ at h;cases h
 | _::_,[],L,h,_,_,_=>by unfold qJ at h;cases h
 | _::_,none::_,L,h,_,_,_=>by unfold qJ at h;cases h

def Cx.backN(C C1:Cx)(all:List Nat):Cx :=
 {ι:=fun j=>match idx all j 0 with | some p=>C1.ι p | none=>C.ι j
  κ:=fun j=>match idx all j 0 with | some p=>C1.κ p | none=>C.κ j
  F:=C1.F }

theorem bGi{ids news:List Nat}{r y:AV}{L:Upd}{C1:Cx}{w':World}{u:Value}(hd:distinct 0 ids=true)(hda:distinct 0 (ids++news)=true)(hb:∀ i∈news,eX M i=true)
  (hs:rnM 0 ids (ids.map (at? M))=some M0) (hlv:∀ i∈ids,dR M i=true) (hU:qJ (ids++news) (ids++news) M1=some L) (hy:mpA (bkN (ids++news)) r=some y)
  (hM:aX P C M w) (hF:Fr (C.rn 0 ids) M0 w C1 M1 w') (Bt:aX P C1 M1 w') (hr:Rep C1 M1 w' r u):Fr C M w (C.backN C1 (ids++news)) (upds M L) w'∧aX P (C.backN C1 (ids++news)) (upds M L) w'∧Rep (C.backN C1 (ids++news)) (upds M L) w' y u:=by
 obtain ⟨_,hnd⟩:=fW hd;obtain ⟨_,hna⟩:=fW hda;obtain ⟨Hg,hmp,hsrc⟩:=oH (k:=0) hM hd hs;have hlen:M0.length=ids.length:=by have:=(xF hs).1;simpa using this
 generalize hall:ids++news=all at *
 obtain ⟨Ao,hup⟩:=aDe hU hna;obtain ⟨u1,u4⟩:=hup M;have hL:=Hg.le hF;have inA:∀ (p i:Nat),ids[p]? = some i→all[p]? = some i:=fun p i h=>by
  rw [← hall,aSz (Cj.1 h).1];exact h
 have memA:∀ i,i∈all↔i∈ids∨i∈news:=fun i=>by rw [← hall];simp
 have newF:∀ (p i:Nat),all[p]? = some i→i∉ids→eX M i=true:=fun p i h hn=>by
  rcases (memA i).1 (Cn h) with h | h
  ·exact absurd h hn
  ·exact hb i h
 have oldP:∀ (p i:Nat),all[p]? = some i→i∈ids→ids[p]? = some i:=fun p i h hn=>by
  obtain ⟨q,hq,he⟩:=List.mem_iff_getElem.1 hn;have h2:ids[q]? = some i:=by rw [Ca hq,he]
  have e1:=nI hna 0 h;have e2:=nI hna 0 (inA q i h2);rw [e1] at e2
  have:p=q:=by simpa using e2
  rw [this];exact h2
 have rnp:∀ p i,ids[p]? = some i→rnI 0 ids i=some p:=fun p i h=>by
  have:=nI hnd 0 h;unfold rnI;rw [show Nat.blt i 0=false from rfl,this,iO]
 have Ch:∀ p i,ids[p]? = some i→∃ o o0,M[i]? = some (some o)∧o.live=true∧M0[p]? = some (some o0)∧o0.live=true∧(C.rn 0 ids).ι p=C.ι i∧(C.rn 0 ids).κ p=C.κ i:=fun p i hp=>by
  obtain ⟨o,h1,h2⟩:=dH (hlv i (Cn hp));obtain ⟨o0,h3,h4⟩:=hmp.fw _ _ _ (rnp p i hp) h1;exact ⟨o,o0,h1,h2,h3,by rw [bO h4];exact h2,hmp.at_ _ _ (rnp p i hp)⟩
 have sh_of:∀ (p:Nat) (o0:AO),M0[p]? = some (some o0)→∃ i o,ids[p]? = some i∧M[i]? = some (some o)∧o.live=true∧o0.live=true∧(C.rn 0 ids).ι p=C.ι i:=fun p o0 hp=>by
  obtain ⟨hl,_⟩:=Cj.1 hp;have Jt:ids[p]? = some ids[p]:=Ca (by omega)
  obtain ⟨o,o1,h1,h2,h3,h4,h5,_⟩:=Ch p _ Jt;rw [hp] at h3;cases h3
  exact ⟨_,o,Jt,h1,h2,h4,h5⟩
 have apart:∀ (j:Nat) (o:AO) (b:Nat),j∉ids→M[j]? = some (some o)→o.live=true→C.ι j=some b→w'.heap[b]? = w.heap[b]? ∧ ¬ C1.F b∧∀ (p:Nat) (o1:AO),M1[p]? = some (some o1)→o1.live=true→C1.ι p≠some b:=fun j o b hj h1 h2 h3=>by
  have Db:=hM.lt j o b h1 h2 h3;have Ii:∀ (p:Nat) (o0:AO),M0[p]? = some (some o0)→o0.live=true→(C.rn 0 ids).ι p≠some b:=fun p o0 hp _ he=>by
   obtain ⟨i,o2,q1,q2,q3,_,q4⟩:=sh_of p o0 hp;rw [q4] at he
   have:=hM.inj j i o o2 b h1 h2 q2 q3 h3 he;subst this;exact hj (Cn q1)
  refine ⟨hF.keep b Db Ii,fun hf => ?_,fun p o1 hp hl he => ?_⟩
  ·rcases hF.F2 b hf with q | q | ⟨p,o0,q1,q2,q3⟩
   ·exact hM.nF j o b h1 h2 h3 q
   ·omega
   ·exact Ii p o0 q1 q2 q3
  ·rcases hF.new p o1 b hp hl he with q | ⟨p0,o0,q1,q2,q3⟩
   ·omega
   ·exact Ii p0 o0 q1 q2 q3
 have ix:∀ j,(j∈all→∃ p,idx all j 0=some p∧all[p]? = some j)∧(j∉all→idx all j 0=none):=fun j=>by
  refine ⟨fun hj => ?_,fun hj => ?_⟩
  ·obtain ⟨p,hp,he⟩:=List.mem_iff_getElem.1 hj
   have:all[p]? = some j:=by rw [Ca hp,he]
   exact ⟨p,by simpa using nI hna 0 this,this⟩
  ·cases h1:idx all j 0 with
   | none=>rfl
   | some p =>
    obtain ⟨_,h2⟩:=rY _ _ _ _ h1;exact absurd (Cn h2) hj
 have cls:∀ (j:Nat) (o':AO),(upds M L)[j]? = some (some o')→(∃ p o1,all[p]? = some j∧M1[p]? = some (some o1)∧mpO (bkN all) o1=some o'∧(C.backN C1 all).ι j=C1.ι p∧(C.backN C1 all).κ j=C1.κ p) ∨
   (j∉ids∧j∉all∧M[j]? = some (some o')∧(C.backN C1 all).ι j=C.ι j∧(C.backN C1 all).κ j=C.κ j):=fun j o' hj=>by
  rw [← bG] at hj
  by_cases hm:j∈all
  ·obtain ⟨p,Fh,E3⟩:=(ix j).1 hm
   obtain ⟨o1,h1,h2⟩:=(u1 p j o' E3).1 hj;exact .inl ⟨p,o1,E3,h1,h2,by simp [Cx.backN,Fh],by simp [Cx.backN,Fh]⟩
  ·have hn:=(ix j).2 hm
   rw [u4 j hm] at hj
   exact .inr ⟨fun h=>hm ((memA j).2 (.inl h)),hm,bG.1 hj,by simp [Cx.backN,hn],by simp [Cx.backN,hn]⟩
 have El:Fr C M w (C.backN C1 all) (upds M L) w':=by
  refine ⟨hF.os,hF.tape,hF.out,hF.size,fun b Db hn => ?_,fun i o ho => ?_,fun i o ho ty n cs hx => ?_,fun i o ho o' hx hl => ?_,fun j o b hj hl hjb => ?_,fun b hb=>hF.F1 b hb,fun b hb => ?_⟩
  ·exact hF.keep b Db fun p o0 hp hl he=>by
    obtain ⟨i,o2,q1,q2,q3,_,q4⟩:=sh_of p o0 hp;rw [q4] at he
    exact hn i o2 q2 q3 he
  ·by_cases hm:i∈all
   ·obtain ⟨p,Fh,E3⟩:=(ix i).1 hm
    have hmi:i∈ids:=Classical.byContradiction fun hni=>cT (newF p i E3 hni) o ho
    obtain ⟨_,o0,_,_,h3,h4,h5,h6⟩:=Ch p i (oldP p i E3 hmi);obtain ⟨⟨o1,q1⟩,q2,q3⟩:=hF.ids p o0 h3;refine ⟨?_,by simp only [Cx.backN,Fh];rw [q2,h5],by simp only [Cx.backN,Fh];rw [q3,h6]⟩
    obtain ⟨o',hq⟩:=zX hU p o1 q1;exact ⟨o',bG.1 ((u1 p i o' E3).2 ⟨o1,q1,hq⟩)⟩
   ·refine ⟨⟨o,bG.1 (by rw [u4 i hm];exact bG.2 ho)⟩,by simp [Cx.backN,(ix i).2 hm],by simp [Cx.backN,(ix i).2 hm]⟩
  ·rcases cls i _ hx with ⟨p,o1,q1,q2,q3,_⟩ | ⟨_,_,q3,_⟩
   ·have hmi:i∈ids:=Classical.byContradiction fun hni=>cT (newF p i q1 hni) o ho
    have q1:=oldP p i q1 hmi;rw [iY q3] at q2
    obtain ⟨o2,o0,h1,_,h3,_⟩:=Ch p i q1;obtain ⟨Bm,h5⟩:=hF.row p o0 h3 _ _ _ q2;obtain ⟨o4,h6,h7⟩:=hmp.bk _ _ _ (rnp p i q1) h5;rw [iY h7] at h6
    exact ⟨Bm,h6⟩
   ·exact ⟨cs,q3⟩
  ·rcases cls i _ hx with ⟨p,o1,q1,q2,q3,_⟩ | ⟨_,_,q3,_⟩
   ·have hmi:i∈ids:=Classical.byContradiction fun hni=>cT (newF p i q1 hni) o ho
    obtain ⟨o2,o0,h1,h2,h3,_⟩:=Ch p i (oldP p i q1 hmi);rw [ho] at h1;cases h1
    exact h2
   ·rw [ho] at q3;cases q3;exact hl
  ·have fin:∀ (p:Nat) (o1:AO),M1[p]? = some (some o1)→o1.live=true→C1.ι p=some b→w.heap.size≤b∨∃ (D9:Nat) (o0:AO),M[D9]? = some (some o0)∧o0.live=true∧C.ι D9=some b:=fun p o1 h1 h2 h3=>by
    rcases hF.new p o1 b h1 h2 h3 with q | ⟨p0,o0,q1,q2,q3⟩
    ·exact .inl q
    ·obtain ⟨i,o2,r1,r2,r3,_,r4⟩:=sh_of p0 o0 q1
     rw [r4] at q3
     exact .inr ⟨i,o2,r2,r3,q3⟩
   rcases cls j _ hj with ⟨p,o1,q1,q2,q3,q4,_⟩ | ⟨_,_,q3,q4,_⟩
   ·rw [q4] at hjb
    exact fin p o1 q2 (by rw [← bO q3];exact hl) hjb
   ·rw [q4] at hjb
    exact .inr ⟨j,o,q3,hl,hjb⟩
  ·rcases hF.F2 b hb with q | q | ⟨p,o0,q1,q2,q3⟩
   ·exact .inl q
   ·exact .inr (.inl q)
   ·obtain ⟨i,o2,r1,r2,r3,_,r4⟩:=sh_of p o0 q1
    rw [r4] at q3
    exact .inr (.inr ⟨i,o2,r2,r3,q3⟩)
 have Gw:=hM.le El;have hbk:aRk (bkN all) C1 (C.backN C1 all) M1 (upds M L):=by
  refine ⟨fun i j o' hij hj=>(u1 i j o' hij).1 (bG.2 hj),fun i j o hij hi => ?_,fun i j hij => ?_,fun _ h=>h⟩
  ·obtain ⟨o',hq⟩:=zX hU i o hi
   exact ⟨o',bG.1 ((u1 i j o' hij).2 ⟨o,hi,hq⟩),hq⟩
  ·have:=nI hna 0 hij
   rw [iO] at this
   simp [Cx.backN,this]
 refine ⟨El,⟨fun j ty n cs h => ?_,fun j ty cs h => ?_,fun j es cl h => ?_,fun j j' o1 o2 b q1 l1 q2 l2 e1 e2 => ?_,fun j o b h hl hb => ?_,Bt.Fs,fun j o b h hl hb => ?_,Bt.lib.mono (fun _ h=>h) fun _ _=>rfl⟩,pQ hbk hr hy⟩
 ·rcases cls j _ h with ⟨p,o1,q1,q2,q3,q4,q5⟩ | ⟨q1,_,q3,q4,q5⟩
  ·rw [iY q3] at q2
   rw [q4,q5];exact Bt.row _ _ _ _ q2
  ·rw [q4,q5]
   rcases hM.row _ _ _ _ q3 with q | ⟨b,arr,inf,p0,p1,p2,p3,p4,p5,p6,p7,p8⟩
   ·exact .inl q
   ·exact .inr ⟨b,arr,inf,p0,by rw [(apart j _ b q1 q3 rfl p0).1];exact p1,p2,p3,p4,p5,p6,fun i hi=>(p7 i hi).mono Gw.F Gw.fz,p8⟩
 ·rcases cls j _ h with ⟨p,o1,q1,q2,q3,q4,q5⟩ | ⟨q1,_,q3,q4,q5⟩
  ·cases o1 with
   | box C6 l =>
    simp only [mpO,C8] at q3
    obtain ⟨l',De,e⟩:=q3;cases e;obtain ⟨b,arr,p0,p1,p2,p3,p4⟩:=Bt.box _ _ _ q2;obtain ⟨n1,n2⟩:=eR hbk (w:=w') (us:=fun j=>arr.getD j undef) p3 De
    exact ⟨b,arr,by rw [q4];exact p0,p1,by omega,n2,fun j hj=>p4 j (by omega)⟩
   | row=>simp [mpO] at q3
   | mp=>simp [mpO] at q3
   | pk=>simp [mpO] at q3
   | dead=>simp [mpO] at q3
  ·obtain ⟨b,arr,p0,p1,p2,p3,p4⟩:=hM.box _ _ _ q3
   exact ⟨b,arr,by rw [q4];exact p0,by rw [(apart j _ b q1 q3 rfl p0).1];exact p1,p2,fun i hi=>(p3 i hi).mono Gw,p4⟩
 ·rcases cls j _ h with ⟨p,o1,q1,q2,q3,q4,q5⟩ | ⟨q1,_,q3,q4,q5⟩
  ·cases o1 with
   | mp E4 Je =>
    simp only [mpO,Option.some.injEq] at q3
    cases q3;obtain ⟨b,arr,p0,p1,p2,p3⟩:=Bt.mp _ _ _ q2;refine ⟨b,arr,by rw [q4];exact p0,p1,p2,fun j hj => ?_⟩
    obtain ⟨en,s1,s2,s3,s4⟩:=p3 j hj;exact ⟨en,s1,s2,s3,s4.mono hbk.F (fun _ _=>rfl)⟩
   | row=>simp [mpO] at q3
   | box=>simp [mpO] at q3
   | pk=>simp [mpO] at q3
   | dead=>simp [mpO] at q3
  ·obtain ⟨b,arr,p0,p1,p2,p3⟩:=hM.mp _ _ _ q3
   refine ⟨b,arr,by rw [q4];exact p0,by rw [(apart j _ b q1 q3 rfl p0).1];exact p1,p2,fun i hi => ?_⟩
   obtain ⟨en,s1,s2,s3,s4⟩:=p3 i hi;exact ⟨en,s1,s2,s3,s4.mono Gw.F Gw.fz⟩
 ·rcases cls j _ q1 with ⟨p,a1,r1,r2,r3,r4,_⟩ | ⟨r1,rb,r3,r4,_⟩ <;> rcases cls j' _ q2 with ⟨p',a2,t1,t2,t3,t4,_⟩ | ⟨t1,tb,t3,t4,_⟩
  all_goals (rw [r4] at e1;rw [t4] at e2)
  ·have:=Bt.inj p p' a1 a2 b r2 (by rw [← bO r3];exact l1) t2 (by rw [← bO t3];exact l2) e1 e2
   subst this;rw [r1] at t1;cases t1;rfl
  ·exact absurd e1 ((apart j' o2 b t1 t3 l2 e2).2.2 p a1 r2 (by rw [← bO r3];exact l1))
  ·exact absurd e2 ((apart j o1 b r1 r3 l1 e1).2.2 p' a2 t2 (by rw [← bO t3];exact l2))
  ·exact hM.inj j j' o1 o2 b r3 l1 t3 l2 e1 e2
 ·rcases cls j _ h with ⟨p,o1,q1,q2,q3,q4,q5⟩ | ⟨q1,_,q3,q4,q5⟩
  ·rw [q4] at hb
   exact Bt.nF _ _ b q2 (by rw [← bO q3];exact hl) hb
  ·rw [q4] at hb
   exact (apart j o b q1 q3 hl hb).2.1
 ·rcases cls j _ h with ⟨p,o1,q1,q2,q3,q4,q5⟩ | ⟨q1,_,q3,q4,q5⟩
  ·rw [q4] at hb
   exact Bt.lt _ _ b q2 (by rw [← bO q3];exact hl) hb
  ·rw [q4] at hb
   exact sZ (hM.lt j o b q3 hl hb) hF.size

def aNx(ids news:List Nat)(args:List AV)(bs:Upd)(M1:Mem)(r:AV):Option (List AV × Mem × AV × Upd):=match distinct 0 ids && distinct 0 (ids++news) && ids.all (dR (upds [] bs)) with
 | true=>match rnM 0 ids (ids.map (at? (upds [] bs))) with
  | some M0=>match rnL 0 ids args with
   | some A7=>match qJ (ids++news) (ids++news) M1 with
    | some L=>match mpA (bkN (ids++news)) r with
     | some y=>some (A7,M0,y,L)
     | none=>none
    | none=>none
   | none=>none
  | none=>none
 | false=>none
theorem FMM.fcN{f base k:Nat}(hk:Nat.ble k 8=true){ids:List Nat}{args A7:List AV}{bs:Upd}{r y:AV}{L:Upd}(h:FMM P f A7 M0 r M1)(hs:aNx ids ((List.range k).map (base + ·)) args bs M1 r=some (A7,M0,y,L)):FC P f args bs base y L:=fun M hb hf Hi=>by
 unfold aNx at hs
 have hsub:aLv (upds [] bs) M:=fun id o ho=>by
  rcases oT bs [] id o ho with h5 | h5
  ·exact hb _ h5
  ·simp [bQ] at h5
 split at hs
 ·rename_i hd
  rw [B5,B5,jO] at hd
  obtain ⟨⟨Hd,E6⟩,M4⟩:=hd;have hlv:∀ i∈ids,∃ o,bQ (upds [] bs) i=some o∧bQ M i=some o∧o.live=true:=fun i hi=>by
   obtain ⟨o,h1,h2⟩:=dH (M4 i hi);exact ⟨o,bG.2 h1,hsub _ _ (bG.2 h1),h2⟩
  split at hs
  ·rename_i h1
   split at hs
   ·rename_i h2
    split at hs
    ·rename_i h3
     split at hs
     ·rename_i h4
      cases hs;have he:ids.map (at? M)=ids.map (at? (upds [] bs)):=bBy fun i hi=>by
       obtain ⟨o,q1,q2,_⟩:=hlv i hi;unfold at?
       rw [q1,q2]
      intro C w us hus hM n;have Gr:rnM 0 ids (ids.map (at? M))=some M0:=by rw [he];exact h1
      obtain ⟨Hg,hmp,_⟩:=oH (k:=0) hM Hd Gr;refine (h (C.rn 0 ids) w us (aEp hmp hus h2) Hg n).mono ?_;rintro e w' ⟨u,rfl,C1,hF,Bt,hr⟩;exact ⟨u,rfl,C.backN C1 (ids++(List.range k).map (base + ·)),bGi Hd E6 (fun i hi=>by
       obtain ⟨j,hj,rfl⟩:=tB.1 hi;have hj:=aTb.1 hj;have hk:=Nat.le_of_ble_eq_true hk;exact Hi j (by omega)) Gr (fun i hi=>by
       obtain ⟨o,_,q2,q3⟩:=hlv i hi;exact gC (bG.1 q2) q3) h3 h4 hM hF Bt hr⟩
     ·cases hs
    ·cases hs
   ·cases hs
  ·cases hs
 ·cases hs
def qF(ids:List Nat)(base:Nat):=bkN (ids++(List.range 7).map (base+·))
def qN(ids:List Nat)(base:Nat)(x:AV):AV:=(mpA (qF ids base) x).getD .any
theorem mN(ids:List Nat)(base:Nat){P:Program}{f:Nat}{A7:List AV}{M0 M1:Mem}{r:AV}(h:FMM P f A7 M0 r M1)(hs:aNx ids ((List.range 7).map (base+·)) (A7.map (qN ids base)) (qS ids (qF ids base) (A7.map (qN ids base)) M0) M1 r=some (A7,M0,qN ids base r,(qJ (ids++(List.range 7).map (base+·)) (ids++(List.range 7).map (base+·)) M1).getD []):=by kernel_rfl):FC P f (A7.map (qN ids base)) (qS ids (qF ids base) (A7.map (qN ids base)) M0) base (qN ids base r) ((qJ (ids++(List.range 7).map (base+·)) (ids++(List.range 7).map (base+·)) M1).getD []):=FMM.fcN (k:=7) rfl h hs
end
section
def bR(st:St)(id:Nat)(o:Option AO):St:=⟨st.t,st.m.set id o⟩
mutual
def wkP:PV→PV
 | .v (.slice none 0 0) => .sl 0 []
 | .agg cs => .agg (bGj cs)
 | x=>x
def bGj:List PV→List PV
 | []=>[]
 | x::r=>wkP x::bGj r
end
theorem aJp:∀ l:List PV,bGj l=l.map wkP
 | []=>by simp [bGj]
 | x::r=>by rw [bGj,aJp r];rfl
def Kh:AV→AV
 | .p x => .p (wkP x)
 | x=>x
theorem aRa{F:Nat→Prop}{w:World}{x:PV}{u:Value}(h:cP F w x u):cP F w (wkP x) u:=by
 induction h with
 | v x =>
  unfold wkP
  split
  ·rename_i e
   cases e;exact .sl 0 [] none 0 (fun _=>undef) (Bj _) (Nat.zero_le _) (fun i h=>by simp at h) (fun i h=>by simp at h) (fun i h=>by simp at h)
  ·rename_i e;cases e
  ·exact .v x
 | sl n cs p cap us h1 h2 h3 h4 h5 _=>unfold wkP;exact .sl n cs p cap us h1 h2 h3 h4 h5
 | agg cs vs h0 h1 _ ih =>
  unfold wkP;rw [aJp];exact .agg _ vs (fun i hi=>h0 i (by simpa using hi)) (by simpa using h1) (fun i hi=>by
   have:=ih i (by simpa using hi)
   simpa using this)
 | mp es b cl arr us hb h0 h1 h2 h3 _=>unfold wkP;exact .mp es b cl arr us hb h0 h1 h2 h3
 | rp cs off b o us h1 h2 h3 _=>unfold wkP;exact .rp cs off b o us h1 h2 h3
 | fn f cs ds us vs h1 h2 h3 h4 _ _=>unfold wkP;exact .fn f cs ds us vs h1 h2 h3 h4
theorem aFn{C:Cx}{M:Mem}{w:World}{x:AV}{u:Value}(h:Rep C M w x u):Rep C M w (Kh x) u:=by
 cases h with
 | p x u h=>exact .p _ _ (aRa h)
 | _=>unfold Kh;constructor <;> assumption
theorem FMM.wk{P:Program}{f:Nat}{args l l':List AV}{M M':Mem}(h:FMM P f args M (.tup l) M')(e:l.map Kh=l'):FMM P f args M (.tup l') M':=fun C w us hus hM n=>by
 subst e;refine (h C w us hus hM n).mono ?_;rintro e w' ⟨u,rfl,C',hF,Ee,hr⟩;refine ⟨u,rfl,C',hF,Ee,?_⟩;cases hr with
 | tup _ vs h1 h2=>exact .tup _ vs (by simpa using h1) (fun i hi=>by
   have Dc:i<l.length:=by simpa using hi
   simpa using aFn (h2 i Dc))
end
section
variable {dn xb G6:Bool}{e f k l kd my Hs Ht Dp I6:Int}{n bf nr H9 Dv I7 D8:Nat}

noncomputable abbrev eZ:Code:=sub (cd Tryz.f15) [1,1,1,1,0,1,0,1]
noncomputable abbrev bFg:Code:=sub (cd Tryz.f15) [1,1,1,1,0,1,0]
theorem aQu:((0:Int) != 0)=false:=by first | decide | simp
theorem bFh:((11:Int) != 0)=true:=by first | decide | simp
theorem aFm{s:List UInt8}:FMM Tp 88 [(.p (aD s))] [] (.fn 175 [] [(.ptr 0 0)]) [some (.box 9 [(.p (aD s))])]:=FMM.fi 0 ⟨[],[0],[],[]⟩ func88 [] gn
theorem bVo(fs:List (List UInt8))(ln k:Int)(R:List (List Cel))(he:(hdM fs).2.2.2≠0):FMM Tp 90 [.ptr 0 0,.p (.sl fs.length ((fs.map stE).flatten)),.fn 176 [] [.ptr 2 0,.ptr 3 0]] [some (.box 158 [(pI k),(.own 1),(pI 0),(pI 0),(pI 0)]),some (.row 78 R.length ((R.map rwE).flatten)),some (.box 156 [(.ptr 0 0)]),some (.box 3 [(pI ln)])] (.p (aB (hdM fs).2.1)) [some (.box 158 [(pI (D7 (hdM fs).1)),(.own 1),(pI ln),(pI ((hdM fs).2.2.1)),(pI ((hdM fs).2.2.2))]),some (.row 78 R.length ((R.map rwE).flatten)),some (.box 156 [(.ptr 0 0)]),some (.box 3 [(pI ln)])]:=by
 have:=bGc fs ln k 0 0 R;rw [Ek ln _ 0 0 he] at this
 exact this
theorem bVp(fs:List (List UInt8))(ln k:Int)(R:List (List Cel))(he:(hdM fs).2.2.2=0):FMM Tp 90 [.ptr 0 0,.p (.sl fs.length ((fs.map stE).flatten)),.fn 176 [] [.ptr 2 0,.ptr 3 0]] [some (.box 158 [(pI k),(.own 1),(pI 0),(pI 0),(pI 0)]),some (.row 78 R.length ((R.map rwE).flatten)),some (.box 156 [(.ptr 0 0)]),some (.box 3 [(pI ln)])] (.p (aB (hdM fs).2.1)) [some (.box 158 [(pI (D7 (hdM fs).1)),(.own 1),(pI 0),(pI 0),(pI 0)]),some (.row 78 R.length ((R.map rwE).flatten)),some (.box 156 [(.ptr 0 0)]),some (.box 3 [(pI ln)])]:=by
 have:=bGc fs ln k 0 0 R;rw [he,Ia] at this
 exact this
theorem bVq(fs:List (List UInt8))(sm ln k:Int)(R:List (List Cel))(h0:0<fs.length)(he:(lsM fs sm).2≠0):FMM Tp 93 [.p (.sl fs.length ((fs.map stE).flatten)),.p (aB sm),.fn 176 [] [.ptr 0 0,.ptr 1 0]] [some (.box 156 [(.ptr 2 0)]),some (.box 3 [(pI ln)]),some (.box 158 [(pI k),(.own 3),(pI 0),(pI 0),(pI 0)]),some (.row 78 R.length ((R.map rwE).flatten))] (.tup []) [some (.box 156 [(.ptr 2 0)]),some (.box 3 [(pI ln)]),some (.box 158 [(pI k),(.own 3),(pI ln),(pI ((lsM fs sm).1)),(pI ((lsM fs sm).2))]),some (.row 78 R.length ((R.map rwE).flatten))]:=by
 have:=bFl fs sm ln k 0 0 R h0;rw [Ek ln _ 0 0 he] at this
 exact this
theorem bVr(fs:List (List UInt8))(sm ln k:Int)(R:List (List Cel))(h0:0<fs.length)(he:(lsM fs sm).2=0):FMM Tp 93 [.p (.sl fs.length ((fs.map stE).flatten)),.p (aB sm),.fn 176 [] [.ptr 0 0,.ptr 1 0]] [some (.box 156 [(.ptr 2 0)]),some (.box 3 [(pI ln)]),some (.box 158 [(pI k),(.own 3),(pI 0),(pI 0),(pI 0)]),some (.row 78 R.length ((R.map rwE).flatten))] (.tup []) [some (.box 156 [(.ptr 2 0)]),some (.box 3 [(pI ln)]),some (.box 158 [(pI k),(.own 3),(pI 0),(pI 0),(pI 0)]),some (.row 78 R.length ((R.map rwE).flatten))]:=by
 have:=bFl fs sm ln k 0 0 R h0;rw [he,Ia] at this
 exact this
theorem aNj{n:Int}(k:Int)(r t:List Cel)(h:aK k≤(r.length:Int))(h2:aK k≤(t.length:Int))(hn:bW k r t=n){base:Nat}:FV Tp 92 [.p (aB k),.p (.sl r.length ((r.map cE).flatten)),.p (.sl t.length ((t.map cE).flatten))] base (pI n) []:=hn ▸ lS k r t h h2
theorem jW{cs:List PV}(h0:e≠0):FMM Tp 94 [(.ptr 0 0)] [some (.box 158 [(pI k),(.own 1),(pI l),(pI f),(pI e)]),some (.row 78 n cs)] (.tup [(.p (.agg [(aB 0),bK])),(pI l),(pI f),(pI e)]) [some (.box 158 [(pI k),(.own 1),(pI l),(pI f),(pI e)]),some (.row 78 n cs)]:=FMM.fi 2 gE func94 [bT] (gc (dE h0) gn)
theorem bFi{cs:List PV}(h0:e=0):FMM Tp 94 [(.ptr 0 0)] [some (.box 158 [(pI k),(.own 1),(pI l),(pI f),(pI e)]),some (.row 78 n cs)] (.tup [(.agg [(pI k),(.own 1)]),(pI 0),(pI 0),(pI 0)]) [some (.box 158 [(pI k),(.own 1),(pI l),(pI f),(pI e)]),some (.row 78 n cs)]:=FMM.fi 2 gE func94 [bF] (gc (bB h0) gn)
def bP(s:List UInt8)(nr:Nat)(my:Int)(bf:Nat)(dn:Bool)(kd:Int)(Rn:Nat)(Rc:List PV):St:=⟨fr 149 [(1,(.ptr 0 0)),(2,(.ptr 1 0)),(3,(.ptr 2 0)),(4,(.ptr 3 0)),(5,(.ptr 4 0)),(6,(.ptr 6 0)),(7,(.ptr 7 0)),(8,(.ptr 8 0)),(9,(.ptr 9 0)),(10,(.ptr 10 0)),(24,(.ptr 5 0)),(26,(.fn 175 [] [(.ptr 11 0)]))],[some (.box 9 [(.p (aD s))]),some (.box 26 [(pI 0),(.p bK)]),some (.box 3 [(pI 0)]),some (.box 3 [(pI 0)]),some (.box 27 [(pI 0)]),some (.box 158 [(pI kd),(.own 12),(pI 0),(pI 0),(pI 0)]),some (.box 156 [(.ptr 5 0)]),some (.box 3 [(pI (nr:Int))]),some (.box 3 [(pI my)]),some (.box 3 [(pI (bf:Int))]),some (.box 4 [(pB dn)]),some .dead,some (.row 78 Rn Rc)]⟩
def pL(s:List UInt8):St:=⟨fr 149 [(1,(.ptr 0 0)),(2,(.ptr 1 0)),(3,(.ptr 2 0)),(4,(.ptr 3 0)),(5,(.ptr 4 0)),(6,(.ptr 6 0)),(7,(.ptr 7 0)),(8,(.ptr 8 0)),(9,(.ptr 9 0)),(10,(.ptr 10 0)),(24,(.ptr 5 0)),(26,(.fn 175 [] [(.ptr 11 0)]))],[some (.box 9 [(.p (aD s))]),some (.box 26 [(pI 0),(.p bK)]),some (.box 3 [(pI 0)]),some (.box 3 [(pI 0)]),some (.box 27 [(pI 0)]),some (.box 158 [(pI 0),(.p bK),(pI 0),(pI 0),(pI 0)]),some (.box 156 [(.ptr 5 0)]),some (.box 3 [(pI 0)]),some (.box 3 [(pI 0)]),some (.box 3 [(pI 0)]),some (.box 4 [(.kb false)]),some (.box 9 [(.p (aD s))])]⟩
theorem bVs{s:List UInt8}(h0:(65536:Int)<(s.length:Int)):FMM Tp 15 [(.p (aD s))] [] (.tup [(.p (.agg [(aB 0),bK])),(pI 0),(pI 0),(pI 10)]) []:=FMM.fi 0 gE func15 [bT] (g0 h0)
section
variable{s:List UInt8}{R'5:List (List Cel)}(h0:(s.length:Int)≤65536)(Ao:aA Tp 0 bFg (pL s) .normal (bP s D8 I6 I7 G6 Dp R'5.length ((R'5.map rwE).flatten)))
include h0 Ao
theorem bVt{r0:Int}(h2:G6=false)(h3:inR (((D8+1):Nat):Int))(Am:r0=(((D8+1):Nat):Int)):FMM Tp 15 [(.p (aD s))] [] (.tup [(.p (.agg [(aB 0),bK])),(pI r0),(pI 1),(pI 11)]) []:=by
 subst Am;have k1:=mq [13,14,5,12] 15 (cN 1 11 (((D8+1):Nat):Int) Dp 0 0 0 R'5);have k2:=mq [5,12] 15 (jW (k:=Dp) (l:=(((D8+1):Nat):Int)) (f:=(1:Int)) (e:=(11:Int)) (n:=R'5.length) (cs:=((R'5.map rwE).flatten)) (by decide));exact FMM.fi 0 gE func15 [bF,.c (.fn 175 [] [(.ptr 11 0)]) [(11,(.box 9 [(.p (aD s))]))],Ao.k 1 ⟨(rng [(0,1),(11,13),(25,1),(27,109),(142,1)]),(rng [(0,12)]),[],[]⟩,bT,.c (.fn 176 [] [(.ptr 13 0),(.ptr 14 0)]) [(5,(.box 158 [(pI Dp),(.own 12),(pI 0),(pI 0),(pI 0)])),(12,(.row 78 R'5.length ((R'5.map rwE).flatten))),(13,(.box 156 [(.ptr 5 0)])),(14,(.box 3 [(pI (((D8+1):Nat):Int))]))],k1.o,k2.o] (gc k2 (gc k1 (gt (FC Tp 89 [(.ptr 5 0),(pI (((D8+1):Nat):Int))] [(5,(.box 158 [(pI Dp),(.own 12),(pI 0),(pI 0),(pI 0)])),(12,(.row 78 R'5.length ((R'5.map rwE).flatten)))] 13 (.fn 176 [] [(.ptr 13 0),(.ptr 14 0)]) [(5,(.box 158 [(pI Dp),(.own 12),(pI 0),(pI 0),(pI 0)])),(12,(.row 78 R'5.length ((R'5.map rwE).flatten))),(13,(.box 156 [(.ptr 5 0)])),(14,(.box 3 [(pI (((D8+1):Nat):Int))]))]) (FMM.fcN (k:=2) rfl (ids:=[5,12]) (eV (ln:=(((D8+1):Nat):Int)) (k:=Dp) (l:=(0:Int)) (f:=(0:Int)) (e:=(0:Int)) (R:=R'5)) (by kernel_rfl)) (gc h3 (gc (cY h2) (gc Ao (gt (FC Tp 88 [(.p (aD s))] [] 11 (.fn 175 [] [(.ptr 11 0)]) [(11,(.box 9 [(.p (aD s))]))]) (FMM.fcN (k:=1) rfl (ids:=[]) (aFm (s:=s)) (by kernel_rfl)) (gc (aO h0) gn))))))))
theorem bVu(h2:G6=true):FMM Tp 15 [(.p (aD s))] [] (.tup [(.p (.agg [(aB Dp),(.sl R'5.length ((R'5.map rwE).flatten))])),(pI 0),(pI 0),(pI 0)]) []:=have k1:=mq [5,12] 13 (bFi (k:=Dp) (l:=(0:Int)) (f:=(0:Int)) (e:=0) (n:=R'5.length) (cs:=((R'5.map rwE).flatten)) rfl);FMM.fi 0 ⟨[],[],[12],[]⟩ func15 [bF,.c (.fn 175 [] [(.ptr 11 0)]) [(11,(.box 9 [(.p (aD s))]))],Ao.k 1 ⟨(rng [(0,1),(11,13),(25,1),(27,109),(142,1)]),(rng [(0,12)]),[],[]⟩,bF,k1.o] (gc k1 (gc (aV h2) (gc Ao (gt (FC Tp 88 [(.p (aD s))] [] 11 (.fn 175 [] [(.ptr 11 0)]) [(11,(.box 9 [(.p (aD s))]))]) (FMM.fcN (k:=1) rfl (ids:=[]) (aFm (s:=s)) (by kernel_rfl)) (gc (aO h0) gn)))))
end
theorem bVv{s:List UInt8}{R'5:List (List Cel)}{Nj Nk Nl:Int}(h0:(s.length:Int)≤65536)(Ao:aA Tp 0 bFg (pL s) .ret (bR (bR (bR (bR (bP s D8 I6 I7 G6 Dp R'5.length ((R'5.map rwE).flatten)) 5 (some (.box 158 [(pI Dp),(.own 12),(pI Nj),(pI Nk),(pI Nl)]))) 2 (some (.box 3 [(pI Nj)]))) 3 (some (.box 3 [(pI Nk)]))) 4 (some (.box 27 [(pI Nl)])))):FMM Tp 15 [(.p (aD s))] [] (.tup [(.p (.agg [(aB 0),bK])),(pI Nj),(pI Nk),(pI Nl)]) []:=FMM.fi 0 gE func15 [bF,.c (.fn 175 [] [(.ptr 11 0)]) [(11,(.box 9 [(.p (aD s))]))],Ao.k 1 ⟨(rng [(0,1),(11,13),(25,1),(27,109),(142,1)]),(rng [(0,12)]),[],[]⟩] (gc Ao (gt (FC Tp 88 [(.p (aD s))] [] 11 (.fn 175 [] [(.ptr 11 0)]) [(11,(.box 9 [(.p (aD s))]))]) (FMM.fcN (k:=1) rfl (ids:=[]) (aFm (s:=s)) (by kernel_rfl)) (gc (aO h0) gn)))
theorem aYa{s:List UInt8}{R:List (List Cel)}{xl:List UInt8}(h0:inR (((nr+1):Nat):Int))(h1:xl.length<4294967281)(h2:1≤([32]:List UInt8).length)(h3:dn=true)(B1:Dv=(nr+1)):bS Tp 13 12 eZ (jG (bP s nr my bf dn kd R.length ((R.map rwE).flatten)) 27 28 11 12 xl xb) .ret (bR (bR (bR (bR (bP s Dv my bf dn kd R.length ((R.map rwE).flatten)) 5 (some (.box 158 [(pI kd),(.own 12),(pI (((nr+1):Nat):Int)),(pI 1),(pI 11)]))) 2 (some (.box 3 [(pI (((nr+1):Nat):Int))]))) 3 (some (.box 3 [(pI 1)]))) 4 (some (.box 27 [(pI 11)]))).m:=by
 subst B1
 have raw:bS Tp 13 12 eZ (jG (bP s nr my bf dn kd R.length ((R.map rwE).flatten)) 27 28 11 12 xl xb) .ret (bR (bR (bR (bR (bP s (nr+1) my bf dn kd R.length ((R.map rwE).flatten)) 5 (some (.box 158 [(pI kd),(.own 12),(pI (((nr+1):Nat):Int)),(pI 1),(pI 11)]))) 2 (some (.box 3 [(pI (((nr+1):Nat):Int))]))) 3 (some (.box 3 [(pI 1)]))) 4 (some (.box 27 [(pI 11)]))).m:=⟨⟨fr 149 [(1,(.ptr 0 0)),(2,(.ptr 1 0)),(3,(.ptr 2 0)),(4,(.ptr 3 0)),(5,(.ptr 4 0)),(6,(.ptr 6 0)),(7,(.ptr 7 0)),(8,(.ptr 8 0)),(9,(.ptr 9 0)),(10,(.ptr 10 0)),(24,(.ptr 5 0)),(26,(.fn 175 [] [(.ptr 11 0)]))],[some (.box 9 [(.p (aD s))]),some (.box 26 [(pI 0),(.p bK)]),some (.box 3 [(pI (((nr+1):Nat):Int))]),some (.box 3 [(pI 1)]),some (.box 27 [(pI 11)]),some (.box 158 [(pI kd),(.own 12),(pI (((nr+1):Nat):Int)),(pI 1),(pI 11)]),some (.box 156 [(.ptr 5 0)]),some (.box 3 [(pI (((nr+1):Nat):Int))]),some (.box 3 [(pI my)]),some (.box 3 [(pI (bf:Int))]),some (.box 4 [(pB dn)]),some .dead,some (.row 78 R.length ((R.map rwE).flatten))]⟩,⟨[],[12],[],[]⟩,aA.fin (g:=⟨(rng [(0,1),(11,13),(25,1),(27,109),(142,1)]),[],[],[]⟩) (o:=[.c (.fn 176 [] [(.ptr 13 0),(.ptr 14 0)]) [(5,(.box 158 [(pI kd),(.own 12),(pI 0),(pI 0),(pI 0)])),(12,(.row 78 R.length ((R.map rwE).flatten))),(13,(.box 156 [(.ptr 5 0)])),(14,(.box 3 [(pI (((nr+1):Nat):Int))]))],.c (.p (.sl ((aU xl ([32]:List UInt8)).length) (((aU xl ([32]:List UInt8)).map stE).flatten))) [],bT,bT,bT,.c (pB false) [(13,(.box 156 [(.ptr 5 0)])),(14,(.box 3 [(pI (((nr+1):Nat):Int))])),(5,(.box 158 [(pI kd),(.own 12),(pI (((nr+1):Nat):Int)),(pI 1),(pI 11)])),(12,(.row 78 R.length ((R.map rwE).flatten)))],bT,.c (.tup [(.p (.agg [(aB 0),bK])),(pI (((nr+1):Nat):Int)),(pI 1),(pI 11)]) [(5,(.box 158 [(pI kd),(.own 12),(pI (((nr+1):Nat):Int)),(pI 1),(pI 11)])),(12,(.row 78 R.length ((R.map rwE).flatten)))]]) (l:=[FC Tp 94 [(.ptr 5 0)] [(5,(.box 158 [(pI kd),(.own 12),(pI (((nr+1):Nat):Int)),(pI 1),(pI 11)])),(12,(.row 78 R.length ((R.map rwE).flatten)))] 15 (.tup [(.p (.agg [(aB 0),bK])),(pI (((nr+1):Nat):Int)),(pI 1),(pI 11)]) [(5,(.box 158 [(pI kd),(.own 12),(pI (((nr+1):Nat):Int)),(pI 1),(pI 11)])),(12,(.row 78 R.length ((R.map rwE).flatten)))],_,FC Tp 176 [(pI 1),(pI 11),(.ptr 13 0),(.ptr 14 0)] [(13,(.box 156 [(.ptr 5 0)])),(14,(.box 3 [(pI (((nr+1):Nat):Int))])),(5,(.box 158 [(pI kd),(.own 12),(pI 0),(pI 0),(pI 0)])),(12,(.row 78 R.length ((R.map rwE).flatten)))] 15 (pB false) [(13,(.box 156 [(.ptr 5 0)])),(14,(.box 3 [(pI (((nr+1):Nat):Int))])),(5,(.box 158 [(pI kd),(.own 12),(pI (((nr+1):Nat):Int)),(pI 1),(pI 11)])),(12,(.row 78 R.length ((R.map rwE).flatten)))],_,_,_,_,FC Tp 89 [(.ptr 5 0),(pI (((nr+1):Nat):Int))] [(5,(.box 158 [(pI kd),(.own 12),(pI 0),(pI 0),(pI 0)])),(12,(.row 78 R.length ((R.map rwE).flatten)))] 13 (.fn 176 [] [(.ptr 13 0),(.ptr 14 0)]) [(5,(.box 158 [(pI kd),(.own 12),(pI 0),(pI 0),(pI 0)])),(12,(.row 78 R.length ((R.map rwE).flatten))),(13,(.box 156 [(.ptr 5 0)])),(14,(.box 3 [(pI (((nr+1):Nat):Int))]))],_]) (by kernel_rfl) (gc (FMM.fc (ids:=[5,12]) (jW (k:=kd) (l:=(((nr+1):Nat):Int)) (f:=(1:Int)) (e:=(11:Int)) (n:=R.length) (cs:=((R.map rwE).flatten)) (by decide)) (by kernel_rfl)) (gc bFh (gc (FMM.fc (ids:=[13,14,5,12]) (cN 1 11 (((nr+1):Nat):Int) kd 0 0 0 R) (by kernel_rfl)) (Au h3 (gc (fk 15 (eP xl ([32]:List UInt8) h1 h2) rfl) (gc (FMM.fcN (k:=2) rfl (ids:=[5,12]) (eV (ln:=(((nr+1):Nat):Int)) (k:=kd) (l:=(0:Int)) (f:=(0:Int)) (e:=(0:Int)) (R:=R)) (by kernel_rfl)) (gc h0 gn))))))),by kernel_rfl,(⟨fr 149 [(1,(.ptr 0 0)),(2,(.ptr 1 0)),(3,(.ptr 2 0)),(4,(.ptr 3 0)),(5,(.ptr 4 0)),(6,(.ptr 6 0)),(7,(.ptr 7 0)),(8,(.ptr 8 0)),(9,(.ptr 9 0)),(10,(.ptr 10 0)),(24,(.ptr 5 0)),(26,(.fn 175 [] [(.ptr 11 0)]))],[some (.box 9 [(.p (aD s))]),some (.box 26 [(pI 0),(.p bK)]),some (.box 3 [(pI (((nr+1):Nat):Int))]),some (.box 3 [(pI 1)]),some (.box 27 [(pI 11)]),some (.box 158 [(pI kd),(.own 12),(pI (((nr+1):Nat):Int)),(pI 1),(pI 11)]),some (.box 156 [(.ptr 5 0)]),some (.box 3 [(pI (((nr+1):Nat):Int))]),some (.box 3 [(pI my)]),some (.box 3 [(pI (bf:Int))]),some (.box 4 [(pB dn)]),some .dead,some (.row 78 R.length ((R.map rwE).flatten))]⟩:St).t,by kernel_rfl⟩
 exact raw
theorem aYb{s:List UInt8}{R:List (List Cel)}{xl:List UInt8}(h0:inR (((nr+1):Nat):Int))(h1:xl.length<4294967281)(h2:1≤([32]:List UInt8).length)(h3:dn=false)(h4:xb=false)(B1:Dv=(nr+1)):bS Tp 13 12 eZ (jG (bP s nr my bf dn kd R.length ((R.map rwE).flatten)) 27 28 11 12 xl xb) .ret (bR (bR (bR (bR (bP s Dv my bf dn kd R.length ((R.map rwE).flatten)) 5 (some (.box 158 [(pI kd),(.own 12),(pI (((nr+1):Nat):Int)),(pI 1),(pI 11)]))) 2 (some (.box 3 [(pI (((nr+1):Nat):Int))]))) 3 (some (.box 3 [(pI 1)]))) 4 (some (.box 27 [(pI 11)]))).m:=by
 subst B1
 have raw:bS Tp 13 12 eZ (jG (bP s nr my bf dn kd R.length ((R.map rwE).flatten)) 27 28 11 12 xl xb) .ret (bR (bR (bR (bR (bP s (nr+1) my bf dn kd R.length ((R.map rwE).flatten)) 5 (some (.box 158 [(pI kd),(.own 12),(pI (((nr+1):Nat):Int)),(pI 1),(pI 11)]))) 2 (some (.box 3 [(pI (((nr+1):Nat):Int))]))) 3 (some (.box 3 [(pI 1)]))) 4 (some (.box 27 [(pI 11)]))).m:=⟨⟨fr 149 [(1,(.ptr 0 0)),(2,(.ptr 1 0)),(3,(.ptr 2 0)),(4,(.ptr 3 0)),(5,(.ptr 4 0)),(6,(.ptr 6 0)),(7,(.ptr 7 0)),(8,(.ptr 8 0)),(9,(.ptr 9 0)),(10,(.ptr 10 0)),(24,(.ptr 5 0)),(26,(.fn 175 [] [(.ptr 11 0)]))],[some (.box 9 [(.p (aD s))]),some (.box 26 [(pI 0),(.p bK)]),some (.box 3 [(pI (((nr+1):Nat):Int))]),some (.box 3 [(pI 1)]),some (.box 27 [(pI 11)]),some (.box 158 [(pI kd),(.own 12),(pI (((nr+1):Nat):Int)),(pI 1),(pI 11)]),some (.box 156 [(.ptr 5 0)]),some (.box 3 [(pI (((nr+1):Nat):Int))]),some (.box 3 [(pI my)]),some (.box 3 [(pI (bf:Int))]),some (.box 4 [(pB dn)]),some .dead,some (.row 78 R.length ((R.map rwE).flatten))]⟩,⟨[],[12],[],[]⟩,aA.fin (g:=⟨(rng [(0,1),(11,13),(25,1),(27,109),(142,1)]),[],[],[]⟩) (o:=[.c (.fn 176 [] [(.ptr 13 0),(.ptr 14 0)]) [(5,(.box 158 [(pI kd),(.own 12),(pI 0),(pI 0),(pI 0)])),(12,(.row 78 R.length ((R.map rwE).flatten))),(13,(.box 156 [(.ptr 5 0)])),(14,(.box 3 [(pI (((nr+1):Nat):Int))]))],.c (.p (.sl ((aU xl ([32]:List UInt8)).length) (((aU xl ([32]:List UInt8)).map stE).flatten))) [],bF,bF,bF,bT,.c (pB false) [(13,(.box 156 [(.ptr 5 0)])),(14,(.box 3 [(pI (((nr+1):Nat):Int))])),(5,(.box 158 [(pI kd),(.own 12),(pI (((nr+1):Nat):Int)),(pI 1),(pI 11)])),(12,(.row 78 R.length ((R.map rwE).flatten)))],bT,.c (.tup [(.p (.agg [(aB 0),bK])),(pI (((nr+1):Nat):Int)),(pI 1),(pI 11)]) [(5,(.box 158 [(pI kd),(.own 12),(pI (((nr+1):Nat):Int)),(pI 1),(pI 11)])),(12,(.row 78 R.length ((R.map rwE).flatten)))]]) (l:=[FC Tp 94 [(.ptr 5 0)] [(5,(.box 158 [(pI kd),(.own 12),(pI (((nr+1):Nat):Int)),(pI 1),(pI 11)])),(12,(.row 78 R.length ((R.map rwE).flatten)))] 15 (.tup [(.p (.agg [(aB 0),bK])),(pI (((nr+1):Nat):Int)),(pI 1),(pI 11)]) [(5,(.box 158 [(pI kd),(.own 12),(pI (((nr+1):Nat):Int)),(pI 1),(pI 11)])),(12,(.row 78 R.length ((R.map rwE).flatten)))],_,FC Tp 176 [(pI 1),(pI 11),(.ptr 13 0),(.ptr 14 0)] [(13,(.box 156 [(.ptr 5 0)])),(14,(.box 3 [(pI (((nr+1):Nat):Int))])),(5,(.box 158 [(pI kd),(.own 12),(pI 0),(pI 0),(pI 0)])),(12,(.row 78 R.length ((R.map rwE).flatten)))] 15 (pB false) [(13,(.box 156 [(.ptr 5 0)])),(14,(.box 3 [(pI (((nr+1):Nat):Int))])),(5,(.box 158 [(pI kd),(.own 12),(pI (((nr+1):Nat):Int)),(pI 1),(pI 11)])),(12,(.row 78 R.length ((R.map rwE).flatten)))],_,_,_,_,_,FC Tp 89 [(.ptr 5 0),(pI (((nr+1):Nat):Int))] [(5,(.box 158 [(pI kd),(.own 12),(pI 0),(pI 0),(pI 0)])),(12,(.row 78 R.length ((R.map rwE).flatten)))] 13 (.fn 176 [] [(.ptr 13 0),(.ptr 14 0)]) [(5,(.box 158 [(pI kd),(.own 12),(pI 0),(pI 0),(pI 0)])),(12,(.row 78 R.length ((R.map rwE).flatten))),(13,(.box 156 [(.ptr 5 0)])),(14,(.box 3 [(pI (((nr+1):Nat):Int))]))],_]) (by kernel_rfl) (gc (FMM.fc (ids:=[5,12]) (jW (k:=kd) (l:=(((nr+1):Nat):Int)) (f:=(1:Int)) (e:=(11:Int)) (n:=R.length) (cs:=((R.map rwE).flatten)) (by decide)) (by kernel_rfl)) (gc bFh (gc (FMM.fc (ids:=[13,14,5,12]) (cN 1 11 (((nr+1):Nat):Int) kd 0 0 0 R) (by kernel_rfl)) (gc (cY h4) (Au h3 (gc (fk 15 (eP xl ([32]:List UInt8) h1 h2) rfl) (gc (FMM.fcN (k:=2) rfl (ids:=[5,12]) (eV (ln:=(((nr+1):Nat):Int)) (k:=kd) (l:=(0:Int)) (f:=(0:Int)) (e:=(0:Int)) (R:=R)) (by kernel_rfl)) (gc h0 gn)))))))),by kernel_rfl,(⟨fr 149 [(1,(.ptr 0 0)),(2,(.ptr 1 0)),(3,(.ptr 2 0)),(4,(.ptr 3 0)),(5,(.ptr 4 0)),(6,(.ptr 6 0)),(7,(.ptr 7 0)),(8,(.ptr 8 0)),(9,(.ptr 9 0)),(10,(.ptr 10 0)),(24,(.ptr 5 0)),(26,(.fn 175 [] [(.ptr 11 0)]))],[some (.box 9 [(.p (aD s))]),some (.box 26 [(pI 0),(.p bK)]),some (.box 3 [(pI (((nr+1):Nat):Int))]),some (.box 3 [(pI 1)]),some (.box 27 [(pI 11)]),some (.box 158 [(pI kd),(.own 12),(pI (((nr+1):Nat):Int)),(pI 1),(pI 11)]),some (.box 156 [(.ptr 5 0)]),some (.box 3 [(pI (((nr+1):Nat):Int))]),some (.box 3 [(pI my)]),some (.box 3 [(pI (bf:Int))]),some (.box 4 [(pB dn)]),some .dead,some (.row 78 R.length ((R.map rwE).flatten))]⟩:St).t,by kernel_rfl⟩
 exact raw
theorem aYc{s:List UInt8}{R:List (List Cel)}{xl:List UInt8}(h0:inR (((nr+1):Nat):Int))(h1:xl.length<4294967281)(h2:1≤([32]:List UInt8).length)(h3:dn=false)(h4:xb=true)(h5:(((nr+1):Nat):Int)=1)(Nm:(hdM (aU xl ([32]:List UInt8))).2.2.2≠0)(h7:((hdM (aU xl ([32]:List UInt8))).2.2.2)≠0)(B1:Dv=(nr+1))(Fz:Ht=((hdM (aU xl ([32]:List UInt8))).2.1))(F3:Hs=(D7 (hdM (aU xl ([32]:List UInt8))).1)):bS Tp 13 12 eZ (jG (bP s nr my bf dn kd R.length ((R.map rwE).flatten)) 27 28 11 12 xl xb) .ret (bR (bR (bR (bR (bP s Dv Ht bf dn Hs R.length ((R.map rwE).flatten)) 5 (some (.box 158 [(pI (D7 (hdM (aU xl ([32]:List UInt8))).1)),(.own 12),(pI (((nr+1):Nat):Int)),(pI ((hdM (aU xl ([32]:List UInt8))).2.2.1)),(pI ((hdM (aU xl ([32]:List UInt8))).2.2.2))]))) 2 (some (.box 3 [(pI (((nr+1):Nat):Int))]))) 3 (some (.box 3 [(pI ((hdM (aU xl ([32]:List UInt8))).2.2.1))]))) 4 (some (.box 27 [(pI ((hdM (aU xl ([32]:List UInt8))).2.2.2))]))).m:=by
 subst B1 Fz F3
 have raw:bS Tp 13 12 eZ (jG (bP s nr my bf dn kd R.length ((R.map rwE).flatten)) 27 28 11 12 xl xb) .ret (bR (bR (bR (bR (bP s (nr+1) ((hdM (aU xl ([32]:List UInt8))).2.1) bf dn (D7 (hdM (aU xl ([32]:List UInt8))).1) R.length ((R.map rwE).flatten)) 5 (some (.box 158 [(pI (D7 (hdM (aU xl ([32]:List UInt8))).1)),(.own 12),(pI (((nr+1):Nat):Int)),(pI ((hdM (aU xl ([32]:List UInt8))).2.2.1)),(pI ((hdM (aU xl ([32]:List UInt8))).2.2.2))]))) 2 (some (.box 3 [(pI (((nr+1):Nat):Int))]))) 3 (some (.box 3 [(pI ((hdM (aU xl ([32]:List UInt8))).2.2.1))]))) 4 (some (.box 27 [(pI ((hdM (aU xl ([32]:List UInt8))).2.2.2))]))).m:=⟨⟨fr 149 [(1,(.ptr 0 0)),(2,(.ptr 1 0)),(3,(.ptr 2 0)),(4,(.ptr 3 0)),(5,(.ptr 4 0)),(6,(.ptr 6 0)),(7,(.ptr 7 0)),(8,(.ptr 8 0)),(9,(.ptr 9 0)),(10,(.ptr 10 0)),(24,(.ptr 5 0)),(26,(.fn 175 [] [(.ptr 11 0)]))],[some (.box 9 [(.p (aD s))]),some (.box 26 [(pI 0),(.p bK)]),some (.box 3 [(pI (((nr+1):Nat):Int))]),some (.box 3 [(pI ((hdM (aU xl ([32]:List UInt8))).2.2.1))]),some (.box 27 [(pI ((hdM (aU xl ([32]:List UInt8))).2.2.2))]),some (.box 158 [(pI (D7 (hdM (aU xl ([32]:List UInt8))).1)),(.own 12),(pI (((nr+1):Nat):Int)),(pI ((hdM (aU xl ([32]:List UInt8))).2.2.1)),(pI ((hdM (aU xl ([32]:List UInt8))).2.2.2))]),some (.box 156 [(.ptr 5 0)]),some (.box 3 [(pI (((nr+1):Nat):Int))]),some (.box 3 [(pI ((hdM (aU xl ([32]:List UInt8))).2.1))]),some (.box 3 [(pI (bf:Int))]),some (.box 4 [(pB dn)]),some .dead,some (.row 78 R.length ((R.map rwE).flatten))]⟩,⟨[],[12],[],[]⟩,aA.fin (g:=⟨(rng [(0,1),(11,13),(25,1),(27,109),(142,1)]),[],[],[]⟩) (o:=[.c (.fn 176 [] [(.ptr 13 0),(.ptr 14 0)]) [(5,(.box 158 [(pI kd),(.own 12),(pI 0),(pI 0),(pI 0)])),(12,(.row 78 R.length ((R.map rwE).flatten))),(13,(.box 156 [(.ptr 5 0)])),(14,(.box 3 [(pI (((nr+1):Nat):Int))]))],.c (.p (.sl ((aU xl ([32]:List UInt8)).length) (((aU xl ([32]:List UInt8)).map stE).flatten))) [],bF,bF,bF,bF,bT,.c (pI ((hdM (aU xl ([32]:List UInt8))).2.1)) [(5,(.box 158 [(pI (D7 (hdM (aU xl ([32]:List UInt8))).1)),(.own 12),(pI (((nr+1):Nat):Int)),(pI ((hdM (aU xl ([32]:List UInt8))).2.2.1)),(pI ((hdM (aU xl ([32]:List UInt8))).2.2.2))])),(12,(.row 78 R.length ((R.map rwE).flatten))),(13,(.box 156 [(.ptr 5 0)])),(14,(.box 3 [(pI (((nr+1):Nat):Int))]))],bT,.c (.tup [(.p (.agg [(aB 0),bK])),(pI (((nr+1):Nat):Int)),(pI ((hdM (aU xl ([32]:List UInt8))).2.2.1)),(pI ((hdM (aU xl ([32]:List UInt8))).2.2.2))]) [(5,(.box 158 [(pI (D7 (hdM (aU xl ([32]:List UInt8))).1)),(.own 12),(pI (((nr+1):Nat):Int)),(pI ((hdM (aU xl ([32]:List UInt8))).2.2.1)),(pI ((hdM (aU xl ([32]:List UInt8))).2.2.2))])),(12,(.row 78 R.length ((R.map rwE).flatten)))]]) (l:=[FC Tp 94 [(.ptr 5 0)] [(5,(.box 158 [(pI (D7 (hdM (aU xl ([32]:List UInt8))).1)),(.own 12),(pI (((nr+1):Nat):Int)),(pI ((hdM (aU xl ([32]:List UInt8))).2.2.1)),(pI ((hdM (aU xl ([32]:List UInt8))).2.2.2))])),(12,(.row 78 R.length ((R.map rwE).flatten)))] 15 (.tup [(.p (.agg [(aB 0),bK])),(pI (((nr+1):Nat):Int)),(pI ((hdM (aU xl ([32]:List UInt8))).2.2.1)),(pI ((hdM (aU xl ([32]:List UInt8))).2.2.2))]) [(5,(.box 158 [(pI (D7 (hdM (aU xl ([32]:List UInt8))).1)),(.own 12),(pI (((nr+1):Nat):Int)),(pI ((hdM (aU xl ([32]:List UInt8))).2.2.1)),(pI ((hdM (aU xl ([32]:List UInt8))).2.2.2))])),(12,(.row 78 R.length ((R.map rwE).flatten)))],_,FC Tp 90 [(.ptr 5 0),(.p (.sl ((aU xl ([32]:List UInt8)).length) (((aU xl ([32]:List UInt8)).map stE).flatten))),(.fn 176 [] [(.ptr 13 0),(.ptr 14 0)])] [(5,(.box 158 [(pI kd),(.own 12),(pI 0),(pI 0),(pI 0)])),(13,(.box 156 [(.ptr 5 0)])),(14,(.box 3 [(pI (((nr+1):Nat):Int))])),(12,(.row 78 R.length ((R.map rwE).flatten)))] 15 (pI ((hdM (aU xl ([32]:List UInt8))).2.1)) [(5,(.box 158 [(pI (D7 (hdM (aU xl ([32]:List UInt8))).1)),(.own 12),(pI (((nr+1):Nat):Int)),(pI ((hdM (aU xl ([32]:List UInt8))).2.2.1)),(pI ((hdM (aU xl ([32]:List UInt8))).2.2.2))])),(12,(.row 78 R.length ((R.map rwE).flatten))),(13,(.box 156 [(.ptr 5 0)])),(14,(.box 3 [(pI (((nr+1):Nat):Int))]))],_,_,_,_,_,_,FC Tp 89 [(.ptr 5 0),(pI (((nr+1):Nat):Int))] [(5,(.box 158 [(pI kd),(.own 12),(pI 0),(pI 0),(pI 0)])),(12,(.row 78 R.length ((R.map rwE).flatten)))] 13 (.fn 176 [] [(.ptr 13 0),(.ptr 14 0)]) [(5,(.box 158 [(pI kd),(.own 12),(pI 0),(pI 0),(pI 0)])),(12,(.row 78 R.length ((R.map rwE).flatten))),(13,(.box 156 [(.ptr 5 0)])),(14,(.box 3 [(pI (((nr+1):Nat):Int))]))],_]) (by kernel_rfl) (gc (FMM.fc (ids:=[5,12]) (jW (k:=(D7 (hdM (aU xl ([32]:List UInt8))).1)) (l:=(((nr+1):Nat):Int)) (f:=((hdM (aU xl ([32]:List UInt8))).2.2.1)) (e:=((hdM (aU xl ([32]:List UInt8))).2.2.2)) (n:=R.length) (cs:=((R.map rwE).flatten)) h7) (by kernel_rfl)) (gc (dE h7) (gc (FMM.fc (ids:=[5,12,13,14]) (bVo (aU xl ([32]:List UInt8)) (((nr+1):Nat):Int) kd R Nm) (by kernel_rfl)) (gc (dG h5) (gc (aV h4) (Au h3 (gc (fk 15 (eP xl ([32]:List UInt8) h1 h2) rfl) (gc (FMM.fcN (k:=2) rfl (ids:=[5,12]) (eV (ln:=(((nr+1):Nat):Int)) (k:=kd) (l:=(0:Int)) (f:=(0:Int)) (e:=(0:Int)) (R:=R)) (by kernel_rfl)) (gc h0 gn))))))))),by kernel_rfl,(⟨fr 149 [(1,(.ptr 0 0)),(2,(.ptr 1 0)),(3,(.ptr 2 0)),(4,(.ptr 3 0)),(5,(.ptr 4 0)),(6,(.ptr 6 0)),(7,(.ptr 7 0)),(8,(.ptr 8 0)),(9,(.ptr 9 0)),(10,(.ptr 10 0)),(24,(.ptr 5 0)),(26,(.fn 175 [] [(.ptr 11 0)]))],[some (.box 9 [(.p (aD s))]),some (.box 26 [(pI 0),(.p bK)]),some (.box 3 [(pI (((nr+1):Nat):Int))]),some (.box 3 [(pI ((hdM (aU xl ([32]:List UInt8))).2.2.1))]),some (.box 27 [(pI ((hdM (aU xl ([32]:List UInt8))).2.2.2))]),some (.box 158 [(pI (D7 (hdM (aU xl ([32]:List UInt8))).1)),(.own 12),(pI (((nr+1):Nat):Int)),(pI ((hdM (aU xl ([32]:List UInt8))).2.2.1)),(pI ((hdM (aU xl ([32]:List UInt8))).2.2.2))]),some (.box 156 [(.ptr 5 0)]),some (.box 3 [(pI (((nr+1):Nat):Int))]),some (.box 3 [(pI ((hdM (aU xl ([32]:List UInt8))).2.1))]),some (.box 3 [(pI (bf:Int))]),some (.box 4 [(pB dn)]),some .dead,some (.row 78 R.length ((R.map rwE).flatten))]⟩:St).t,by kernel_rfl⟩
 exact raw
theorem aYd{s:List UInt8}{R:List (List Cel)}{xl:List UInt8}(h0:inR (((nr+1):Nat):Int))(h1:xl.length<4294967281)(h2:1≤([32]:List UInt8).length)(h3:dn=false)(h4:xb=true)(h5:(((nr+1):Nat):Int)=1)(Nm:(hdM (aU xl ([32]:List UInt8))).2.2.2=0)(h7:inR (((xl.length+1):Nat):Int))(h8:inR (((bf+(xl.length+1)):Nat):Int))(B1:Dv=(nr+1))(Fz:Ht=((hdM (aU xl ([32]:List UInt8))).2.1))(F4:H9=(bf+(xl.length+1)))(F3:Hs=(D7 (hdM (aU xl ([32]:List UInt8))).1)):bS Tp 13 12 eZ (jG (bP s nr my bf dn kd R.length ((R.map rwE).flatten)) 27 28 11 12 xl xb) .normal (bP s Dv Ht H9 dn Hs R.length ((R.map rwE).flatten)).m:=by
 subst B1 Fz F4 F3
 have raw:bS Tp 13 12 eZ (jG (bP s nr my bf dn kd R.length ((R.map rwE).flatten)) 27 28 11 12 xl xb) .normal (bP s (nr+1) ((hdM (aU xl ([32]:List UInt8))).2.1) (bf+(xl.length+1)) dn (D7 (hdM (aU xl ([32]:List UInt8))).1) R.length ((R.map rwE).flatten)).m:=⟨⟨fr 149 [(1,(.ptr 0 0)),(2,(.ptr 1 0)),(3,(.ptr 2 0)),(4,(.ptr 3 0)),(5,(.ptr 4 0)),(6,(.ptr 6 0)),(7,(.ptr 7 0)),(8,(.ptr 8 0)),(9,(.ptr 9 0)),(10,(.ptr 10 0)),(24,(.ptr 5 0)),(26,(.fn 175 [] [(.ptr 11 0)]))],[some (.box 9 [(.p (aD s))]),some (.box 26 [(pI 0),(.p bK)]),some (.box 3 [(pI 0)]),some (.box 3 [(pI 0)]),some (.box 27 [(pI 0)]),some (.box 158 [(pI (D7 (hdM (aU xl ([32]:List UInt8))).1)),(.own 12),(pI 0),(pI 0),(pI 0)]),some (.box 156 [(.ptr 5 0)]),some (.box 3 [(pI (((nr+1):Nat):Int))]),some (.box 3 [(pI ((hdM (aU xl ([32]:List UInt8))).2.1))]),some (.box 3 [(pI (((bf+(xl.length+1)):Nat):Int))]),some (.box 4 [(pB dn)]),some .dead,some (.row 78 R.length ((R.map rwE).flatten))]⟩,⟨[],[12],[],[]⟩,aA.fin (g:=⟨(rng [(0,1),(11,13),(25,1),(27,109),(142,1)]),[],[],[]⟩) (o:=[.c (.fn 176 [] [(.ptr 13 0),(.ptr 14 0)]) [(5,(.box 158 [(pI kd),(.own 12),(pI 0),(pI 0),(pI 0)])),(12,(.row 78 R.length ((R.map rwE).flatten))),(13,(.box 156 [(.ptr 5 0)])),(14,(.box 3 [(pI (((nr+1):Nat):Int))]))],.c (.p (.sl ((aU xl ([32]:List UInt8)).length) (((aU xl ([32]:List UInt8)).map stE).flatten))) [],bF,bF,bF,bF,bT,.c (pI ((hdM (aU xl ([32]:List UInt8))).2.1)) [(5,(.box 158 [(pI (D7 (hdM (aU xl ([32]:List UInt8))).1)),(.own 12),(pI 0),(pI 0),(pI 0)])),(12,(.row 78 R.length ((R.map rwE).flatten))),(13,(.box 156 [(.ptr 5 0)])),(14,(.box 3 [(pI (((nr+1):Nat):Int))]))],bF]) (l:=[_,_,_,FC Tp 90 [(.ptr 5 0),(.p (.sl ((aU xl ([32]:List UInt8)).length) (((aU xl ([32]:List UInt8)).map stE).flatten))),(.fn 176 [] [(.ptr 13 0),(.ptr 14 0)])] [(5,(.box 158 [(pI kd),(.own 12),(pI 0),(pI 0),(pI 0)])),(13,(.box 156 [(.ptr 5 0)])),(14,(.box 3 [(pI (((nr+1):Nat):Int))])),(12,(.row 78 R.length ((R.map rwE).flatten)))] 15 (pI ((hdM (aU xl ([32]:List UInt8))).2.1)) [(5,(.box 158 [(pI (D7 (hdM (aU xl ([32]:List UInt8))).1)),(.own 12),(pI 0),(pI 0),(pI 0)])),(12,(.row 78 R.length ((R.map rwE).flatten))),(13,(.box 156 [(.ptr 5 0)])),(14,(.box 3 [(pI (((nr+1):Nat):Int))]))],_,_,_,_,_,_,FC Tp 89 [(.ptr 5 0),(pI (((nr+1):Nat):Int))] [(5,(.box 158 [(pI kd),(.own 12),(pI 0),(pI 0),(pI 0)])),(12,(.row 78 R.length ((R.map rwE).flatten)))] 13 (.fn 176 [] [(.ptr 13 0),(.ptr 14 0)]) [(5,(.box 158 [(pI kd),(.own 12),(pI 0),(pI 0),(pI 0)])),(12,(.row 78 R.length ((R.map rwE).flatten))),(13,(.box 156 [(.ptr 5 0)])),(14,(.box 3 [(pI (((nr+1):Nat):Int))]))],_]) (by kernel_rfl) (gc h8 (gc h7 (gc aQu (gc (FMM.fc (ids:=[5,12,13,14]) (bVp (aU xl ([32]:List UInt8)) (((nr+1):Nat):Int) kd R Nm) (by kernel_rfl)) (gc (dG h5) (gc (aV h4) (Au h3 (gc (fk 15 (eP xl ([32]:List UInt8) h1 h2) rfl) (gc (FMM.fcN (k:=2) rfl (ids:=[5,12]) (eV (ln:=(((nr+1):Nat):Int)) (k:=kd) (l:=(0:Int)) (f:=(0:Int)) (e:=(0:Int)) (R:=R)) (by kernel_rfl)) (gc h0 gn)))))))))),by kernel_rfl,(⟨fr 149 [(1,(.ptr 0 0)),(2,(.ptr 1 0)),(3,(.ptr 2 0)),(4,(.ptr 3 0)),(5,(.ptr 4 0)),(6,(.ptr 6 0)),(7,(.ptr 7 0)),(8,(.ptr 8 0)),(9,(.ptr 9 0)),(10,(.ptr 10 0)),(24,(.ptr 5 0)),(26,(.fn 175 [] [(.ptr 11 0)]))],[some (.box 9 [(.p (aD s))]),some (.box 26 [(pI 0),(.p bK)]),some (.box 3 [(pI 0)]),some (.box 3 [(pI 0)]),some (.box 27 [(pI 0)]),some (.box 158 [(pI (D7 (hdM (aU xl ([32]:List UInt8))).1)),(.own 12),(pI 0),(pI 0),(pI 0)]),some (.box 156 [(.ptr 5 0)]),some (.box 3 [(pI (((nr+1):Nat):Int))]),some (.box 3 [(pI ((hdM (aU xl ([32]:List UInt8))).2.1))]),some (.box 3 [(pI (((bf+(xl.length+1)):Nat):Int))]),some (.box 4 [(pB dn)]),some .dead,some (.row 78 R.length ((R.map rwE).flatten))]⟩:St).t,by kernel_rfl⟩
 exact raw
theorem aYe{s:List UInt8}{R:List (List Cel)}{xl:List UInt8}{Ae Bg:List Cel}{R':List (List Cel)}(h0:inR (((nr+1):Nat):Int))(h1:xl.length<4294967281)(h2:1≤([32]:List UInt8).length)(h3:dn=false)(h4:xb=true)(h5:(((nr+1):Nat):Int)≠1)(h6:inR (my+1))(h7:(((nr+1):Nat):Int)≤(my+1))(G7:∀ u∈(aU xl ([32]:List UInt8)),u.length≤90000)(G8:rdL (aJ kd) (aU xl ([32]:List UInt8)) 0 = .inl Ae)(Ez:(aU xl ([32]:List UInt8)).length=(aJ kd).length)(Cg:(0:Int)<(R.length:Int))(Bc:inR ((R.length:Int)-1))(B3:0≤((R.length:Int)-1)∧((R.length:Int)-1)<(R.length:Int))(Dh:R[((R.length:Int)-1).toNat]? = some (Bg))(Dz:aK kd≤(Bg.length:Int))(E7:aK kd≤(Ae.length:Int))(Fb:bW kd Bg Ae=(-1:Int))(Hl:[(PV.sl Ae.length ((Ae.map cE).flatten))].length=1*1∧R.length+1≤1000000)(Jz:inR (((xl.length+1):Nat):Int))(J0:inR (((bf+(xl.length+1)):Nat):Int))(B1:Dv=(nr+1))(F4:H9=(bf+(xl.length+1)))(Es:R'.length=(R.length+1))(Et:(R'.map rwE).flatten=(((R.map rwE).flatten)++[(PV.sl Ae.length ((Ae.map cE).flatten))])):bS Tp 13 12 eZ (jG (bP s nr my bf dn kd R.length ((R.map rwE).flatten)) 27 28 11 12 xl xb) .normal (bP s Dv my H9 dn kd R'.length ((R'.map rwE).flatten)).m:=by
 subst B1 F4
 have raw:bS Tp 13 12 eZ (jG (bP s nr my bf dn kd R.length ((R.map rwE).flatten)) 27 28 11 12 xl xb) .normal (bP s (nr+1) my (bf+(xl.length+1)) dn kd (R.length+1) (((R.map rwE).flatten)++[(PV.sl Ae.length ((Ae.map cE).flatten))])).m:=⟨⟨fr 149 [(1,(.ptr 0 0)),(2,(.ptr 1 0)),(3,(.ptr 2 0)),(4,(.ptr 3 0)),(5,(.ptr 4 0)),(6,(.ptr 6 0)),(7,(.ptr 7 0)),(8,(.ptr 8 0)),(9,(.ptr 9 0)),(10,(.ptr 10 0)),(24,(.ptr 5 0)),(26,(.fn 175 [] [(.ptr 11 0)]))],[some (.box 9 [(.p (aD s))]),some (.box 26 [(pI 0),(.p bK)]),some (.box 3 [(pI 0)]),some (.box 3 [(pI 0)]),some (.box 27 [(pI 0)]),some (.box 158 [(pI kd),(.own 13),(pI 0),(pI 0),(pI 0)]),some (.box 156 [(.ptr 5 0)]),some (.box 3 [(pI (((nr+1):Nat):Int))]),some (.box 3 [(pI my)]),some (.box 3 [(pI (((bf+(xl.length+1)):Nat):Int))]),some (.box 4 [(pB dn)]),some .dead,some .dead,some (.row 78 (R.length+1) (((R.map rwE).flatten)++[(PV.sl Ae.length ((Ae.map cE).flatten))]))]⟩,⟨[],[13],[],[]⟩,aA.fin (g:=⟨(rng [(0,1),(11,13),(25,1),(27,109),(142,1)]),[17],[],[]⟩) (o:=[.c (.fn 176 [] [(.ptr 13 0),(.ptr 14 0)]) [(5,(.box 158 [(pI kd),(.own 12),(pI 0),(pI 0),(pI 0)])),(12,(.row 78 R.length ((R.map rwE).flatten))),(13,(.box 156 [(.ptr 5 0)])),(14,(.box 3 [(pI (((nr+1):Nat):Int))]))],.c (.p (.sl ((aU xl ([32]:List UInt8)).length) (((aU xl ([32]:List UInt8)).map stE).flatten))) [],bF,bF,bF,bF,bF,bT,.c (.tup [(.own 15),(pB true)]) [(5,(.box 158 [(pI kd),(.own 12),(pI 0),(pI 0),(pI 0)])),(12,(.row 78 R.length ((R.map rwE).flatten))),(13,(.box 156 [(.ptr 5 0)])),(14,(.box 3 [(pI (((nr+1):Nat):Int))])),(15,(.row 80 Ae.length ((Ae.map cE).flatten)))],bT,bT,.x (.sl Bg.length ((Bg.map cE).flatten)),.c (pI (-1)) [],.c (pB true) [(13,(.box 156 [(.ptr 5 0)])),(14,(.box 3 [(pI (((nr+1):Nat):Int))])),(5,(.box 158 [(pI kd),(.own 12),(pI 0),(pI 0),(pI 0)])),(12,(.row 78 R.length ((R.map rwE).flatten)))],bF]) (l:=[_,_,_,_,FC Tp 176 [(pI 1),(pI 0),(.ptr 13 0),(.ptr 14 0)] [(13,(.box 156 [(.ptr 5 0)])),(14,(.box 3 [(pI (((nr+1):Nat):Int))])),(5,(.box 158 [(pI kd),(.own 12),(pI 0),(pI 0),(pI 0)])),(12,(.row 78 R.length ((R.map rwE).flatten)))] 25 (pB true) [(13,(.box 156 [(.ptr 5 0)])),(14,(.box 3 [(pI (((nr+1):Nat):Int))])),(5,(.box 158 [(pI kd),(.own 12),(pI 0),(pI 0),(pI 0)])),(12,(.row 78 R.length ((R.map rwE).flatten)))],0≤(0:Int)∧(0:Int)<3,inR 0,FC Tp 92 [(pI kd),(.p (.sl Bg.length ((Bg.map cE).flatten))),(.own 15)] [(15,(.row 80 Ae.length ((Ae.map cE).flatten)))] 17 (pI (-1)) [],((R.map rwE).flatten)[(((R.length:Int)-1).toNat*1)]? = some (.sl Bg.length ((Bg.map cE).flatten)),_,_,_,true=true,FC Tp 91 [(.ptr 5 0),(.p (.sl ((aU xl ([32]:List UInt8)).length) (((aU xl ([32]:List UInt8)).map stE).flatten))),(.fn 176 [] [(.ptr 13 0),(.ptr 14 0)])] [(5,(.box 158 [(pI kd),(.own 12),(pI 0),(pI 0),(pI 0)])),(13,(.box 156 [(.ptr 5 0)])),(14,(.box 3 [(pI (((nr+1):Nat):Int))])),(12,(.row 78 R.length ((R.map rwE).flatten)))] 15 (.tup [(.own 15),(pB true)]) [(5,(.box 158 [(pI kd),(.own 12),(pI 0),(pI 0),(pI 0)])),(12,(.row 78 R.length ((R.map rwE).flatten))),(13,(.box 156 [(.ptr 5 0)])),(14,(.box 3 [(pI (((nr+1):Nat):Int))])),(15,(.row 80 Ae.length ((Ae.map cE).flatten)))],_,_,_,_,_,_,_,_,FC Tp 89 [(.ptr 5 0),(pI (((nr+1):Nat):Int))] [(5,(.box 158 [(pI kd),(.own 12),(pI 0),(pI 0),(pI 0)])),(12,(.row 78 R.length ((R.map rwE).flatten)))] 13 (.fn 176 [] [(.ptr 13 0),(.ptr 14 0)]) [(5,(.box 158 [(pI kd),(.own 12),(pI 0),(pI 0),(pI 0)])),(12,(.row 78 R.length ((R.map rwE).flatten))),(13,(.box 156 [(.ptr 5 0)])),(14,(.box 3 [(pI (((nr+1):Nat):Int))]))],_]) (by kernel_rfl) (gc J0 (gc Jz (gc aQu (gc Hl (gc (FMM.fc (ids:=[13,14,5,12]) (cN 1 0 (((nr+1):Nat):Int) kd 0 0 0 R) (by kernel_rfl)) (gc (by first | decide | simp) (gc (by show _∧_;omega) (gc (fv (aNj kd Bg Ae Dz E7 Fb)) (gc (aN (E:=rwE) (i:=((R.length:Int)-1).toNat) (f:=0) (k:=1) (fun _=>rfl) Dh rfl) (gc B3 (gc Bc (gc (bX Cg) (gc rfl (gc (FMM.fcN (k:=1) rfl (ids:=[5,12,13,14]) (kS (((nr+1):Nat):Int) R 0 0 G7 G8 Ez) (by kernel_rfl)) (gc (kT h7) (gc h6 (gc (bI h5) (gc (aV h4) (Au h3 (gc (fk 15 (eP xl ([32]:List UInt8) h1 h2) rfl) (gc (FMM.fcN (k:=2) rfl (ids:=[5,12]) (eV (ln:=(((nr+1):Nat):Int)) (k:=kd) (l:=(0:Int)) (f:=(0:Int)) (e:=(0:Int)) (R:=R)) (by kernel_rfl)) (gc h0 gn)))))))))))))))))))))),by kernel_rfl,(⟨fr 149 [(1,(.ptr 0 0)),(2,(.ptr 1 0)),(3,(.ptr 2 0)),(4,(.ptr 3 0)),(5,(.ptr 4 0)),(6,(.ptr 6 0)),(7,(.ptr 7 0)),(8,(.ptr 8 0)),(9,(.ptr 9 0)),(10,(.ptr 10 0)),(24,(.ptr 5 0)),(26,(.fn 175 [] [(.ptr 11 0)]))],[some (.box 9 [(.p (aD s))]),some (.box 26 [(pI 0),(.p bK)]),some (.box 3 [(pI 0)]),some (.box 3 [(pI 0)]),some (.box 27 [(pI 0)]),some (.box 158 [(pI kd),(.own 13),(pI 0),(pI 0),(pI 0)]),some (.box 156 [(.ptr 5 0)]),some (.box 3 [(pI (((nr+1):Nat):Int))]),some (.box 3 [(pI my)]),some (.box 3 [(pI (((bf+(xl.length+1)):Nat):Int))]),some (.box 4 [(pB dn)]),some .dead,some .dead,some (.row 78 (R.length+1) (((R.map rwE).flatten)++[(PV.sl Ae.length ((Ae.map cE).flatten))]))]⟩:St).t,by kernel_rfl⟩
 exact raw.cast (by rw [Es,Et])
theorem aYf{s:List UInt8}{R:List (List Cel)}{xl:List UInt8}{Ae Bg:List Cel}{R':List (List Cel)}(h0:inR (((nr+1):Nat):Int))(h1:xl.length<4294967281)(h2:1≤([32]:List UInt8).length)(h3:dn=false)(h4:xb=true)(h5:(((nr+1):Nat):Int)≠1)(h6:inR (my+1))(h7:(((nr+1):Nat):Int)≤(my+1))(G7:∀ u∈(aU xl ([32]:List UInt8)),u.length≤90000)(G8:rdL (aJ kd) (aU xl ([32]:List UInt8)) 0 = .inl Ae)(Ez:(aU xl ([32]:List UInt8)).length=(aJ kd).length)(Cg:(0:Int)<(R.length:Int))(Bc:inR ((R.length:Int)-1))(B3:0≤((R.length:Int)-1)∧((R.length:Int)-1)<(R.length:Int))(Dh:R[((R.length:Int)-1).toNat]? = some (Bg))(Dz:aK kd≤(Bg.length:Int))(E7:aK kd≤(Ae.length:Int))(Fb:bW kd Bg Ae=0)(Hl:[(PV.sl Ae.length ((Ae.map cE).flatten))].length=1*1∧R.length+1≤1000000)(B1:Dv=(nr+1))(Es:R'.length=(R.length+1))(Et:(R'.map rwE).flatten=(((R.map rwE).flatten)++[(PV.sl Ae.length ((Ae.map cE).flatten))])):bS Tp 13 12 eZ (jG (bP s nr my bf dn kd R.length ((R.map rwE).flatten)) 27 28 11 12 xl xb) .ret (bR (bR (bR (bR (bP s Dv my bf dn kd R'.length ((R'.map rwE).flatten)) 5 (some (.box 158 [(pI kd),(.own 12),(pI (((nr+1):Nat):Int)),(pI 1),(pI 5)]))) 2 (some (.box 3 [(pI (((nr+1):Nat):Int))]))) 3 (some (.box 3 [(pI 1)]))) 4 (some (.box 27 [(pI 5)]))).m:=by
 subst B1
 have raw:bS Tp 13 12 eZ (jG (bP s nr my bf dn kd R.length ((R.map rwE).flatten)) 27 28 11 12 xl xb) .ret (bR (bR (bR (bR (bP s (nr+1) my bf dn kd (R.length+1) (((R.map rwE).flatten)++[(PV.sl Ae.length ((Ae.map cE).flatten))])) 5 (some (.box 158 [(pI kd),(.own 12),(pI (((nr+1):Nat):Int)),(pI 1),(pI 5)]))) 2 (some (.box 3 [(pI (((nr+1):Nat):Int))]))) 3 (some (.box 3 [(pI 1)]))) 4 (some (.box 27 [(pI 5)]))).m:=⟨⟨fr 149 [(1,(.ptr 0 0)),(2,(.ptr 1 0)),(3,(.ptr 2 0)),(4,(.ptr 3 0)),(5,(.ptr 4 0)),(6,(.ptr 6 0)),(7,(.ptr 7 0)),(8,(.ptr 8 0)),(9,(.ptr 9 0)),(10,(.ptr 10 0)),(24,(.ptr 5 0)),(26,(.fn 175 [] [(.ptr 11 0)]))],[some (.box 9 [(.p (aD s))]),some (.box 26 [(pI 0),(.p bK)]),some (.box 3 [(pI (((nr+1):Nat):Int))]),some (.box 3 [(pI 1)]),some (.box 27 [(pI 5)]),some (.box 158 [(pI kd),(.own 13),(pI (((nr+1):Nat):Int)),(pI 1),(pI 5)]),some (.box 156 [(.ptr 5 0)]),some (.box 3 [(pI (((nr+1):Nat):Int))]),some (.box 3 [(pI my)]),some (.box 3 [(pI (bf:Int))]),some (.box 4 [(pB dn)]),some .dead,some .dead,some (.row 78 (R.length+1) (((R.map rwE).flatten)++[(PV.sl Ae.length ((Ae.map cE).flatten))]))]⟩,⟨[],[13],[],[]⟩,aA.fin (g:=⟨(rng [(0,1),(11,13),(25,1),(27,109),(142,1)]),[17],[],[]⟩) (o:=[.c (.fn 176 [] [(.ptr 13 0),(.ptr 14 0)]) [(5,(.box 158 [(pI kd),(.own 12),(pI 0),(pI 0),(pI 0)])),(12,(.row 78 R.length ((R.map rwE).flatten))),(13,(.box 156 [(.ptr 5 0)])),(14,(.box 3 [(pI (((nr+1):Nat):Int))]))],.c (.p (.sl ((aU xl ([32]:List UInt8)).length) (((aU xl ([32]:List UInt8)).map stE).flatten))) [],bF,bF,bF,bF,bF,bT,.c (.tup [(.own 15),(pB true)]) [(5,(.box 158 [(pI kd),(.own 12),(pI 0),(pI 0),(pI 0)])),(12,(.row 78 R.length ((R.map rwE).flatten))),(13,(.box 156 [(.ptr 5 0)])),(14,(.box 3 [(pI (((nr+1):Nat):Int))])),(15,(.row 80 Ae.length ((Ae.map cE).flatten)))],bT,bT,.x (.sl Bg.length ((Bg.map cE).flatten)),.c (pI 0) [],.c (pB false) [(13,(.box 156 [(.ptr 5 0)])),(14,(.box 3 [(pI (((nr+1):Nat):Int))])),(5,(.box 158 [(pI kd),(.own 12),(pI (((nr+1):Nat):Int)),(pI 1),(pI 5)])),(12,(.row 78 R.length ((R.map rwE).flatten)))],bT,.c (.tup [(.p (.agg [(aB 0),bK])),(pI (((nr+1):Nat):Int)),(pI 1),(pI 5)]) [(5,(.box 158 [(pI kd),(.own 17),(pI (((nr+1):Nat):Int)),(pI 1),(pI 5)])),(17,(.row 78 (R.length+1) (((R.map rwE).flatten)++[(PV.sl Ae.length ((Ae.map cE).flatten))])))]]) (l:=[FC Tp 94 [(.ptr 5 0)] [(5,(.box 158 [(pI kd),(.own 17),(pI (((nr+1):Nat):Int)),(pI 1),(pI 5)])),(17,(.row 78 (R.length+1) (((R.map rwE).flatten)++[(PV.sl Ae.length ((Ae.map cE).flatten))])))] 18 (.tup [(.p (.agg [(aB 0),bK])),(pI (((nr+1):Nat):Int)),(pI 1),(pI 5)]) [(5,(.box 158 [(pI kd),(.own 17),(pI (((nr+1):Nat):Int)),(pI 1),(pI 5)])),(17,(.row 78 (R.length+1) (((R.map rwE).flatten)++[(PV.sl Ae.length ((Ae.map cE).flatten))])))],((5:Int) != 0)=true,_,FC Tp 176 [(pI 1),(pI 5),(.ptr 13 0),(.ptr 14 0)] [(13,(.box 156 [(.ptr 5 0)])),(14,(.box 3 [(pI (((nr+1):Nat):Int))])),(5,(.box 158 [(pI kd),(.own 12),(pI 0),(pI 0),(pI 0)])),(12,(.row 78 R.length ((R.map rwE).flatten)))] 25 (pB false) [(13,(.box 156 [(.ptr 5 0)])),(14,(.box 3 [(pI (((nr+1):Nat):Int))])),(5,(.box 158 [(pI kd),(.own 12),(pI (((nr+1):Nat):Int)),(pI 1),(pI 5)])),(12,(.row 78 R.length ((R.map rwE).flatten)))],0≤(1:Int)∧(1:Int)<3,inR 1,FC Tp 92 [(pI kd),(.p (.sl Bg.length ((Bg.map cE).flatten))),(.own 15)] [(15,(.row 80 Ae.length ((Ae.map cE).flatten)))] 17 (pI 0) [],((R.map rwE).flatten)[(((R.length:Int)-1).toNat*1)]? = some (.sl Bg.length ((Bg.map cE).flatten)),_,_,_,true=true,FC Tp 91 [(.ptr 5 0),(.p (.sl ((aU xl ([32]:List UInt8)).length) (((aU xl ([32]:List UInt8)).map stE).flatten))),(.fn 176 [] [(.ptr 13 0),(.ptr 14 0)])] [(5,(.box 158 [(pI kd),(.own 12),(pI 0),(pI 0),(pI 0)])),(13,(.box 156 [(.ptr 5 0)])),(14,(.box 3 [(pI (((nr+1):Nat):Int))])),(12,(.row 78 R.length ((R.map rwE).flatten)))] 15 (.tup [(.own 15),(pB true)]) [(5,(.box 158 [(pI kd),(.own 12),(pI 0),(pI 0),(pI 0)])),(12,(.row 78 R.length ((R.map rwE).flatten))),(13,(.box 156 [(.ptr 5 0)])),(14,(.box 3 [(pI (((nr+1):Nat):Int))])),(15,(.row 80 Ae.length ((Ae.map cE).flatten)))],_,_,_,_,_,_,_,_,FC Tp 89 [(.ptr 5 0),(pI (((nr+1):Nat):Int))] [(5,(.box 158 [(pI kd),(.own 12),(pI 0),(pI 0),(pI 0)])),(12,(.row 78 R.length ((R.map rwE).flatten)))] 13 (.fn 176 [] [(.ptr 13 0),(.ptr 14 0)]) [(5,(.box 158 [(pI kd),(.own 12),(pI 0),(pI 0),(pI 0)])),(12,(.row 78 R.length ((R.map rwE).flatten))),(13,(.box 156 [(.ptr 5 0)])),(14,(.box 3 [(pI (((nr+1):Nat):Int))]))],_]) (by kernel_rfl) (gc (FMM.fc (ids:=[5,17]) (jW (k:=kd) (l:=(((nr+1):Nat):Int)) (f:=(1:Int)) (e:=(5:Int)) (n:=(R.length+1)) (cs:=(((R.map rwE).flatten)++[(PV.sl Ae.length ((Ae.map cE).flatten))])) (by decide)) (by kernel_rfl)) (gc (by first | decide | simp) (gc Hl (gc (FMM.fc (ids:=[13,14,5,12]) (cN 1 5 (((nr+1):Nat):Int) kd 0 0 0 R) (by kernel_rfl)) (gc (by first | decide | simp) (gc (by show _∧_;omega) (gc (fv (aNj kd Bg Ae Dz E7 Fb)) (gc (aN (E:=rwE) (i:=((R.length:Int)-1).toNat) (f:=0) (k:=1) (fun _=>rfl) Dh rfl) (gc B3 (gc Bc (gc (bX Cg) (gc rfl (gc (FMM.fcN (k:=1) rfl (ids:=[5,12,13,14]) (kS (((nr+1):Nat):Int) R 0 0 G7 G8 Ez) (by kernel_rfl)) (gc (kT h7) (gc h6 (gc (bI h5) (gc (aV h4) (Au h3 (gc (fk 15 (eP xl ([32]:List UInt8) h1 h2) rfl) (gc (FMM.fcN (k:=2) rfl (ids:=[5,12]) (eV (ln:=(((nr+1):Nat):Int)) (k:=kd) (l:=(0:Int)) (f:=(0:Int)) (e:=(0:Int)) (R:=R)) (by kernel_rfl)) (gc h0 gn))))))))))))))))))))),by kernel_rfl,(⟨fr 149 [(1,(.ptr 0 0)),(2,(.ptr 1 0)),(3,(.ptr 2 0)),(4,(.ptr 3 0)),(5,(.ptr 4 0)),(6,(.ptr 6 0)),(7,(.ptr 7 0)),(8,(.ptr 8 0)),(9,(.ptr 9 0)),(10,(.ptr 10 0)),(24,(.ptr 5 0)),(26,(.fn 175 [] [(.ptr 11 0)]))],[some (.box 9 [(.p (aD s))]),some (.box 26 [(pI 0),(.p bK)]),some (.box 3 [(pI (((nr+1):Nat):Int))]),some (.box 3 [(pI 1)]),some (.box 27 [(pI 5)]),some (.box 158 [(pI kd),(.own 13),(pI (((nr+1):Nat):Int)),(pI 1),(pI 5)]),some (.box 156 [(.ptr 5 0)]),some (.box 3 [(pI (((nr+1):Nat):Int))]),some (.box 3 [(pI my)]),some (.box 3 [(pI (bf:Int))]),some (.box 4 [(pB dn)]),some .dead,some .dead,some (.row 78 (R.length+1) (((R.map rwE).flatten)++[(PV.sl Ae.length ((Ae.map cE).flatten))]))]⟩:St).t,by kernel_rfl⟩
 exact raw.cast (by rw [Es,Et])
theorem aYg{s:List UInt8}{R:List (List Cel)}{xl:List UInt8}{Ae Bg:List Cel}{R':List (List Cel)}(h0:inR (((nr+1):Nat):Int))(h1:xl.length<4294967281)(h2:1≤([32]:List UInt8).length)(h3:dn=false)(h4:xb=true)(h5:(((nr+1):Nat):Int)≠1)(h6:inR (my+1))(h7:(((nr+1):Nat):Int)≤(my+1))(G7:∀ u∈(aU xl ([32]:List UInt8)),u.length≤90000)(G8:rdL (aJ kd) (aU xl ([32]:List UInt8)) 0 = .inl Ae)(Ez:(aU xl ([32]:List UInt8)).length=(aJ kd).length)(Cg:(0:Int)<(R.length:Int))(Bc:inR ((R.length:Int)-1))(B3:0≤((R.length:Int)-1)∧((R.length:Int)-1)<(R.length:Int))(Dh:R[((R.length:Int)-1).toNat]? = some (Bg))(Dz:aK kd≤(Bg.length:Int))(E7:aK kd≤(Ae.length:Int))(Fb:bW kd Bg Ae=1)(Hl:[(PV.sl Ae.length ((Ae.map cE).flatten))].length=1*1∧R.length+1≤1000000)(B1:Dv=(nr+1))(Es:R'.length=(R.length+1))(Et:(R'.map rwE).flatten=(((R.map rwE).flatten)++[(PV.sl Ae.length ((Ae.map cE).flatten))])):bS Tp 13 12 eZ (jG (bP s nr my bf dn kd R.length ((R.map rwE).flatten)) 27 28 11 12 xl xb) .ret (bR (bR (bR (bR (bP s Dv my bf dn kd R'.length ((R'.map rwE).flatten)) 5 (some (.box 158 [(pI kd),(.own 12),(pI (((nr+1):Nat):Int)),(pI 1),(pI 4)]))) 2 (some (.box 3 [(pI (((nr+1):Nat):Int))]))) 3 (some (.box 3 [(pI 1)]))) 4 (some (.box 27 [(pI 4)]))).m:=by
 subst B1
 have raw:bS Tp 13 12 eZ (jG (bP s nr my bf dn kd R.length ((R.map rwE).flatten)) 27 28 11 12 xl xb) .ret (bR (bR (bR (bR (bP s (nr+1) my bf dn kd (R.length+1) (((R.map rwE).flatten)++[(PV.sl Ae.length ((Ae.map cE).flatten))])) 5 (some (.box 158 [(pI kd),(.own 12),(pI (((nr+1):Nat):Int)),(pI 1),(pI 4)]))) 2 (some (.box 3 [(pI (((nr+1):Nat):Int))]))) 3 (some (.box 3 [(pI 1)]))) 4 (some (.box 27 [(pI 4)]))).m:=⟨⟨fr 149 [(1,(.ptr 0 0)),(2,(.ptr 1 0)),(3,(.ptr 2 0)),(4,(.ptr 3 0)),(5,(.ptr 4 0)),(6,(.ptr 6 0)),(7,(.ptr 7 0)),(8,(.ptr 8 0)),(9,(.ptr 9 0)),(10,(.ptr 10 0)),(24,(.ptr 5 0)),(26,(.fn 175 [] [(.ptr 11 0)]))],[some (.box 9 [(.p (aD s))]),some (.box 26 [(pI 0),(.p bK)]),some (.box 3 [(pI (((nr+1):Nat):Int))]),some (.box 3 [(pI 1)]),some (.box 27 [(pI 4)]),some (.box 158 [(pI kd),(.own 13),(pI (((nr+1):Nat):Int)),(pI 1),(pI 4)]),some (.box 156 [(.ptr 5 0)]),some (.box 3 [(pI (((nr+1):Nat):Int))]),some (.box 3 [(pI my)]),some (.box 3 [(pI (bf:Int))]),some (.box 4 [(pB dn)]),some .dead,some .dead,some (.row 78 (R.length+1) (((R.map rwE).flatten)++[(PV.sl Ae.length ((Ae.map cE).flatten))]))]⟩,⟨[],[13],[],[]⟩,aA.fin (g:=⟨(rng [(0,1),(11,13),(25,1),(27,109),(142,1)]),[17],[],[]⟩) (o:=[.c (.fn 176 [] [(.ptr 13 0),(.ptr 14 0)]) [(5,(.box 158 [(pI kd),(.own 12),(pI 0),(pI 0),(pI 0)])),(12,(.row 78 R.length ((R.map rwE).flatten))),(13,(.box 156 [(.ptr 5 0)])),(14,(.box 3 [(pI (((nr+1):Nat):Int))]))],.c (.p (.sl ((aU xl ([32]:List UInt8)).length) (((aU xl ([32]:List UInt8)).map stE).flatten))) [],bF,bF,bF,bF,bF,bT,.c (.tup [(.own 15),(pB true)]) [(5,(.box 158 [(pI kd),(.own 12),(pI 0),(pI 0),(pI 0)])),(12,(.row 78 R.length ((R.map rwE).flatten))),(13,(.box 156 [(.ptr 5 0)])),(14,(.box 3 [(pI (((nr+1):Nat):Int))])),(15,(.row 80 Ae.length ((Ae.map cE).flatten)))],bT,bT,.x (.sl Bg.length ((Bg.map cE).flatten)),.c (pI 1) [],.c (pB false) [(13,(.box 156 [(.ptr 5 0)])),(14,(.box 3 [(pI (((nr+1):Nat):Int))])),(5,(.box 158 [(pI kd),(.own 12),(pI (((nr+1):Nat):Int)),(pI 1),(pI 4)])),(12,(.row 78 R.length ((R.map rwE).flatten)))],bT,.c (.tup [(.p (.agg [(aB 0),bK])),(pI (((nr+1):Nat):Int)),(pI 1),(pI 4)]) [(5,(.box 158 [(pI kd),(.own 17),(pI (((nr+1):Nat):Int)),(pI 1),(pI 4)])),(17,(.row 78 (R.length+1) (((R.map rwE).flatten)++[(PV.sl Ae.length ((Ae.map cE).flatten))])))]]) (l:=[FC Tp 94 [(.ptr 5 0)] [(5,(.box 158 [(pI kd),(.own 17),(pI (((nr+1):Nat):Int)),(pI 1),(pI 4)])),(17,(.row 78 (R.length+1) (((R.map rwE).flatten)++[(PV.sl Ae.length ((Ae.map cE).flatten))])))] 18 (.tup [(.p (.agg [(aB 0),bK])),(pI (((nr+1):Nat):Int)),(pI 1),(pI 4)]) [(5,(.box 158 [(pI kd),(.own 17),(pI (((nr+1):Nat):Int)),(pI 1),(pI 4)])),(17,(.row 78 (R.length+1) (((R.map rwE).flatten)++[(PV.sl Ae.length ((Ae.map cE).flatten))])))],((4:Int) != 0)=true,_,FC Tp 176 [(pI 1),(pI 4),(.ptr 13 0),(.ptr 14 0)] [(13,(.box 156 [(.ptr 5 0)])),(14,(.box 3 [(pI (((nr+1):Nat):Int))])),(5,(.box 158 [(pI kd),(.own 12),(pI 0),(pI 0),(pI 0)])),(12,(.row 78 R.length ((R.map rwE).flatten)))] 25 (pB false) [(13,(.box 156 [(.ptr 5 0)])),(14,(.box 3 [(pI (((nr+1):Nat):Int))])),(5,(.box 158 [(pI kd),(.own 12),(pI (((nr+1):Nat):Int)),(pI 1),(pI 4)])),(12,(.row 78 R.length ((R.map rwE).flatten)))],0≤(2:Int)∧(2:Int)<3,inR 2,FC Tp 92 [(pI kd),(.p (.sl Bg.length ((Bg.map cE).flatten))),(.own 15)] [(15,(.row 80 Ae.length ((Ae.map cE).flatten)))] 17 (pI 1) [],((R.map rwE).flatten)[(((R.length:Int)-1).toNat*1)]? = some (.sl Bg.length ((Bg.map cE).flatten)),_,_,_,true=true,FC Tp 91 [(.ptr 5 0),(.p (.sl ((aU xl ([32]:List UInt8)).length) (((aU xl ([32]:List UInt8)).map stE).flatten))),(.fn 176 [] [(.ptr 13 0),(.ptr 14 0)])] [(5,(.box 158 [(pI kd),(.own 12),(pI 0),(pI 0),(pI 0)])),(13,(.box 156 [(.ptr 5 0)])),(14,(.box 3 [(pI (((nr+1):Nat):Int))])),(12,(.row 78 R.length ((R.map rwE).flatten)))] 15 (.tup [(.own 15),(pB true)]) [(5,(.box 158 [(pI kd),(.own 12),(pI 0),(pI 0),(pI 0)])),(12,(.row 78 R.length ((R.map rwE).flatten))),(13,(.box 156 [(.ptr 5 0)])),(14,(.box 3 [(pI (((nr+1):Nat):Int))])),(15,(.row 80 Ae.length ((Ae.map cE).flatten)))],_,_,_,_,_,_,_,_,FC Tp 89 [(.ptr 5 0),(pI (((nr+1):Nat):Int))] [(5,(.box 158 [(pI kd),(.own 12),(pI 0),(pI 0),(pI 0)])),(12,(.row 78 R.length ((R.map rwE).flatten)))] 13 (.fn 176 [] [(.ptr 13 0),(.ptr 14 0)]) [(5,(.box 158 [(pI kd),(.own 12),(pI 0),(pI 0),(pI 0)])),(12,(.row 78 R.length ((R.map rwE).flatten))),(13,(.box 156 [(.ptr 5 0)])),(14,(.box 3 [(pI (((nr+1):Nat):Int))]))],_]) (by kernel_rfl) (gc (FMM.fc (ids:=[5,17]) (jW (k:=kd) (l:=(((nr+1):Nat):Int)) (f:=(1:Int)) (e:=(4:Int)) (n:=(R.length+1)) (cs:=(((R.map rwE).flatten)++[(PV.sl Ae.length ((Ae.map cE).flatten))])) (by decide)) (by kernel_rfl)) (gc (by first | decide | simp) (gc Hl (gc (FMM.fc (ids:=[13,14,5,12]) (cN 1 4 (((nr+1):Nat):Int) kd 0 0 0 R) (by kernel_rfl)) (gc (by first | decide | simp) (gc (by show _∧_;omega) (gc (fv (aNj kd Bg Ae Dz E7 Fb)) (gc (aN (E:=rwE) (i:=((R.length:Int)-1).toNat) (f:=0) (k:=1) (fun _=>rfl) Dh rfl) (gc B3 (gc Bc (gc (bX Cg) (gc rfl (gc (FMM.fcN (k:=1) rfl (ids:=[5,12,13,14]) (kS (((nr+1):Nat):Int) R 0 0 G7 G8 Ez) (by kernel_rfl)) (gc (kT h7) (gc h6 (gc (bI h5) (gc (aV h4) (Au h3 (gc (fk 15 (eP xl ([32]:List UInt8) h1 h2) rfl) (gc (FMM.fcN (k:=2) rfl (ids:=[5,12]) (eV (ln:=(((nr+1):Nat):Int)) (k:=kd) (l:=(0:Int)) (f:=(0:Int)) (e:=(0:Int)) (R:=R)) (by kernel_rfl)) (gc h0 gn))))))))))))))))))))),by kernel_rfl,(⟨fr 149 [(1,(.ptr 0 0)),(2,(.ptr 1 0)),(3,(.ptr 2 0)),(4,(.ptr 3 0)),(5,(.ptr 4 0)),(6,(.ptr 6 0)),(7,(.ptr 7 0)),(8,(.ptr 8 0)),(9,(.ptr 9 0)),(10,(.ptr 10 0)),(24,(.ptr 5 0)),(26,(.fn 175 [] [(.ptr 11 0)]))],[some (.box 9 [(.p (aD s))]),some (.box 26 [(pI 0),(.p bK)]),some (.box 3 [(pI (((nr+1):Nat):Int))]),some (.box 3 [(pI 1)]),some (.box 27 [(pI 4)]),some (.box 158 [(pI kd),(.own 13),(pI (((nr+1):Nat):Int)),(pI 1),(pI 4)]),some (.box 156 [(.ptr 5 0)]),some (.box 3 [(pI (((nr+1):Nat):Int))]),some (.box 3 [(pI my)]),some (.box 3 [(pI (bf:Int))]),some (.box 4 [(pB dn)]),some .dead,some .dead,some (.row 78 (R.length+1) (((R.map rwE).flatten)++[(PV.sl Ae.length ((Ae.map cE).flatten))]))]⟩:St).t,by kernel_rfl⟩
 exact raw.cast (by rw [Es,Et])
theorem aYh{s:List UInt8}{R:List (List Cel)}{xl:List UInt8}{Ae:List Cel}{R':List (List Cel)}(h0:inR (((nr+1):Nat):Int))(h1:xl.length<4294967281)(h2:1≤([32]:List UInt8).length)(h3:dn=false)(h4:xb=true)(h5:(((nr+1):Nat):Int)≠1)(h6:inR (my+1))(h7:(((nr+1):Nat):Int)≤(my+1))(G7:∀ u∈(aU xl ([32]:List UInt8)),u.length≤90000)(G8:rdL (aJ kd) (aU xl ([32]:List UInt8)) 0 = .inl Ae)(Ez:(aU xl ([32]:List UInt8)).length=(aJ kd).length)(Cg:(R.length:Int)≤0)(Bc:[(PV.sl Ae.length ((Ae.map cE).flatten))].length=1*1∧R.length+1≤1000000)(B3:inR (((xl.length+1):Nat):Int))(Dh:inR (((bf+(xl.length+1)):Nat):Int))(B1:Dv=(nr+1))(F4:H9=(bf+(xl.length+1)))(Es:R'.length=(R.length+1))(Et:(R'.map rwE).flatten=(((R.map rwE).flatten)++[(PV.sl Ae.length ((Ae.map cE).flatten))])):bS Tp 13 12 eZ (jG (bP s nr my bf dn kd R.length ((R.map rwE).flatten)) 27 28 11 12 xl xb) .normal (bP s Dv my H9 dn kd R'.length ((R'.map rwE).flatten)).m:=by
 subst B1 F4
 have raw:bS Tp 13 12 eZ (jG (bP s nr my bf dn kd R.length ((R.map rwE).flatten)) 27 28 11 12 xl xb) .normal (bP s (nr+1) my (bf+(xl.length+1)) dn kd (R.length+1) (((R.map rwE).flatten)++[(PV.sl Ae.length ((Ae.map cE).flatten))])).m:=⟨⟨fr 149 [(1,(.ptr 0 0)),(2,(.ptr 1 0)),(3,(.ptr 2 0)),(4,(.ptr 3 0)),(5,(.ptr 4 0)),(6,(.ptr 6 0)),(7,(.ptr 7 0)),(8,(.ptr 8 0)),(9,(.ptr 9 0)),(10,(.ptr 10 0)),(24,(.ptr 5 0)),(26,(.fn 175 [] [(.ptr 11 0)]))],[some (.box 9 [(.p (aD s))]),some (.box 26 [(pI 0),(.p bK)]),some (.box 3 [(pI 0)]),some (.box 3 [(pI 0)]),some (.box 27 [(pI 0)]),some (.box 158 [(pI kd),(.own 13),(pI 0),(pI 0),(pI 0)]),some (.box 156 [(.ptr 5 0)]),some (.box 3 [(pI (((nr+1):Nat):Int))]),some (.box 3 [(pI my)]),some (.box 3 [(pI (((bf+(xl.length+1)):Nat):Int))]),some (.box 4 [(pB dn)]),some .dead,some .dead,some (.row 78 (R.length+1) (((R.map rwE).flatten)++[(PV.sl Ae.length ((Ae.map cE).flatten))]))]⟩,⟨[],[13],[],[]⟩,aA.fin (g:=⟨(rng [(0,1),(11,13),(25,1),(27,109),(142,1)]),[17],[],[]⟩) (o:=[.c (.fn 176 [] [(.ptr 13 0),(.ptr 14 0)]) [(5,(.box 158 [(pI kd),(.own 12),(pI 0),(pI 0),(pI 0)])),(12,(.row 78 R.length ((R.map rwE).flatten))),(13,(.box 156 [(.ptr 5 0)])),(14,(.box 3 [(pI (((nr+1):Nat):Int))]))],.c (.p (.sl ((aU xl ([32]:List UInt8)).length) (((aU xl ([32]:List UInt8)).map stE).flatten))) [],bF,bF,bF,bF,bF,bT,.c (.tup [(.own 15),(pB true)]) [(5,(.box 158 [(pI kd),(.own 12),(pI 0),(pI 0),(pI 0)])),(12,(.row 78 R.length ((R.map rwE).flatten))),(13,(.box 156 [(.ptr 5 0)])),(14,(.box 3 [(pI (((nr+1):Nat):Int))])),(15,(.row 80 Ae.length ((Ae.map cE).flatten)))],bT,bF,bF]) (l:=[_,_,_,_,_,true=true,FC Tp 91 [(.ptr 5 0),(.p (.sl ((aU xl ([32]:List UInt8)).length) (((aU xl ([32]:List UInt8)).map stE).flatten))),(.fn 176 [] [(.ptr 13 0),(.ptr 14 0)])] [(5,(.box 158 [(pI kd),(.own 12),(pI 0),(pI 0),(pI 0)])),(13,(.box 156 [(.ptr 5 0)])),(14,(.box 3 [(pI (((nr+1):Nat):Int))])),(12,(.row 78 R.length ((R.map rwE).flatten)))] 15 (.tup [(.own 15),(pB true)]) [(5,(.box 158 [(pI kd),(.own 12),(pI 0),(pI 0),(pI 0)])),(12,(.row 78 R.length ((R.map rwE).flatten))),(13,(.box 156 [(.ptr 5 0)])),(14,(.box 3 [(pI (((nr+1):Nat):Int))])),(15,(.row 80 Ae.length ((Ae.map cE).flatten)))],_,_,_,_,_,_,_,_,FC Tp 89 [(.ptr 5 0),(pI (((nr+1):Nat):Int))] [(5,(.box 158 [(pI kd),(.own 12),(pI 0),(pI 0),(pI 0)])),(12,(.row 78 R.length ((R.map rwE).flatten)))] 13 (.fn 176 [] [(.ptr 13 0),(.ptr 14 0)]) [(5,(.box 158 [(pI kd),(.own 12),(pI 0),(pI 0),(pI 0)])),(12,(.row 78 R.length ((R.map rwE).flatten))),(13,(.box 156 [(.ptr 5 0)])),(14,(.box 3 [(pI (((nr+1):Nat):Int))]))],_]) (by kernel_rfl) (gc Dh (gc B3 (gc aQu (gc Bc (gc (aO Cg) (gc rfl (gc (FMM.fcN (k:=1) rfl (ids:=[5,12,13,14]) (kS (((nr+1):Nat):Int) R 0 0 G7 G8 Ez) (by kernel_rfl)) (gc (kT h7) (gc h6 (gc (bI h5) (gc (aV h4) (Au h3 (gc (fk 15 (eP xl ([32]:List UInt8) h1 h2) rfl) (gc (FMM.fcN (k:=2) rfl (ids:=[5,12]) (eV (ln:=(((nr+1):Nat):Int)) (k:=kd) (l:=(0:Int)) (f:=(0:Int)) (e:=(0:Int)) (R:=R)) (by kernel_rfl)) (gc h0 gn))))))))))))))),by kernel_rfl,(⟨fr 149 [(1,(.ptr 0 0)),(2,(.ptr 1 0)),(3,(.ptr 2 0)),(4,(.ptr 3 0)),(5,(.ptr 4 0)),(6,(.ptr 6 0)),(7,(.ptr 7 0)),(8,(.ptr 8 0)),(9,(.ptr 9 0)),(10,(.ptr 10 0)),(24,(.ptr 5 0)),(26,(.fn 175 [] [(.ptr 11 0)]))],[some (.box 9 [(.p (aD s))]),some (.box 26 [(pI 0),(.p bK)]),some (.box 3 [(pI 0)]),some (.box 3 [(pI 0)]),some (.box 27 [(pI 0)]),some (.box 158 [(pI kd),(.own 13),(pI 0),(pI 0),(pI 0)]),some (.box 156 [(.ptr 5 0)]),some (.box 3 [(pI (((nr+1):Nat):Int))]),some (.box 3 [(pI my)]),some (.box 3 [(pI (((bf+(xl.length+1)):Nat):Int))]),some (.box 4 [(pB dn)]),some .dead,some .dead,some (.row 78 (R.length+1) (((R.map rwE).flatten)++[(PV.sl Ae.length ((Ae.map cE).flatten))]))]⟩:St).t,by kernel_rfl⟩
 exact raw.cast (by rw [Es,Et])
theorem aYi{s:List UInt8}{R:List (List Cel)}{xl:List UInt8}{Ae:List Cel}(h0:inR (((nr+1):Nat):Int))(h1:xl.length<4294967281)(h2:1≤([32]:List UInt8).length)(h3:dn=false)(h4:xb=true)(h5:(((nr+1):Nat):Int)≠1)(h6:inR (my+1))(h7:(((nr+1):Nat):Int)≤(my+1))(G7:∀ u∈(aU xl ([32]:List UInt8)),u.length≤90000)(G8:rdL (aJ kd) (aU xl ([32]:List UInt8)) 0 = .inl Ae)(Ez:(aU xl ([32]:List UInt8)).length≠(aJ kd).length)(B1:Dv=(nr+1)):bS Tp 13 12 eZ (jG (bP s nr my bf dn kd R.length ((R.map rwE).flatten)) 27 28 11 12 xl xb) .ret (bR (bR (bR (bR (bP s Dv my bf dn kd R.length ((R.map rwE).flatten)) 5 (some (.box 158 [(pI kd),(.own 12),(pI (((nr+1):Nat):Int)),(pI (((aJ kd).length+1:Nat):Int)),(pI 11)]))) 2 (some (.box 3 [(pI (((nr+1):Nat):Int))]))) 3 (some (.box 3 [(pI (((aJ kd).length+1:Nat):Int))]))) 4 (some (.box 27 [(pI 11)]))).m:=by
 subst B1
 have raw:bS Tp 13 12 eZ (jG (bP s nr my bf dn kd R.length ((R.map rwE).flatten)) 27 28 11 12 xl xb) .ret (bR (bR (bR (bR (bP s (nr+1) my bf dn kd R.length ((R.map rwE).flatten)) 5 (some (.box 158 [(pI kd),(.own 12),(pI (((nr+1):Nat):Int)),(pI (((aJ kd).length+1:Nat):Int)),(pI 11)]))) 2 (some (.box 3 [(pI (((nr+1):Nat):Int))]))) 3 (some (.box 3 [(pI (((aJ kd).length+1:Nat):Int))]))) 4 (some (.box 27 [(pI 11)]))).m:=⟨⟨fr 149 [(1,(.ptr 0 0)),(2,(.ptr 1 0)),(3,(.ptr 2 0)),(4,(.ptr 3 0)),(5,(.ptr 4 0)),(6,(.ptr 6 0)),(7,(.ptr 7 0)),(8,(.ptr 8 0)),(9,(.ptr 9 0)),(10,(.ptr 10 0)),(24,(.ptr 5 0)),(26,(.fn 175 [] [(.ptr 11 0)]))],[some (.box 9 [(.p (aD s))]),some (.box 26 [(pI 0),(.p bK)]),some (.box 3 [(pI (((nr+1):Nat):Int))]),some (.box 3 [(pI (((aJ kd).length+1:Nat):Int))]),some (.box 27 [(pI 11)]),some (.box 158 [(pI kd),(.own 12),(pI (((nr+1):Nat):Int)),(pI (((aJ kd).length+1:Nat):Int)),(pI 11)]),some (.box 156 [(.ptr 5 0)]),some (.box 3 [(pI (((nr+1):Nat):Int))]),some (.box 3 [(pI my)]),some (.box 3 [(pI (bf:Int))]),some (.box 4 [(pB dn)]),some .dead,some (.row 78 R.length ((R.map rwE).flatten))]⟩,⟨[],[12],[],[]⟩,aA.fin (g:=⟨(rng [(0,1),(11,13),(25,1),(27,109),(142,1)]),[],[],[]⟩) (o:=[.c (.fn 176 [] [(.ptr 13 0),(.ptr 14 0)]) [(5,(.box 158 [(pI kd),(.own 12),(pI 0),(pI 0),(pI 0)])),(12,(.row 78 R.length ((R.map rwE).flatten))),(13,(.box 156 [(.ptr 5 0)])),(14,(.box 3 [(pI (((nr+1):Nat):Int))]))],.c (.p (.sl ((aU xl ([32]:List UInt8)).length) (((aU xl ([32]:List UInt8)).map stE).flatten))) [],bF,bF,bF,bF,bF,bT,.c (.tup [(.own 15),(pB false)]) [(5,(.box 158 [(pI kd),(.own 12),(pI (((nr+1):Nat):Int)),(pI (((aJ kd).length+1:Nat):Int)),(pI 11)])),(12,(.row 78 R.length ((R.map rwE).flatten))),(13,(.box 156 [(.ptr 5 0)])),(14,(.box 3 [(pI (((nr+1):Nat):Int))])),(15,(.row 80 Ae.length ((Ae.map cE).flatten)))],bF,bT,.c (.tup [(.p (.agg [(aB 0),bK])),(pI (((nr+1):Nat):Int)),(pI (((aJ kd).length+1:Nat):Int)),(pI 11)]) [(5,(.box 158 [(pI kd),(.own 12),(pI (((nr+1):Nat):Int)),(pI (((aJ kd).length+1:Nat):Int)),(pI 11)])),(12,(.row 78 R.length ((R.map rwE).flatten)))]]) (l:=[FC Tp 94 [(.ptr 5 0)] [(5,(.box 158 [(pI kd),(.own 12),(pI (((nr+1):Nat):Int)),(pI (((aJ kd).length+1:Nat):Int)),(pI 11)])),(12,(.row 78 R.length ((R.map rwE).flatten)))] 16 (.tup [(.p (.agg [(aB 0),bK])),(pI (((nr+1):Nat):Int)),(pI (((aJ kd).length+1:Nat):Int)),(pI 11)]) [(5,(.box 158 [(pI kd),(.own 12),(pI (((nr+1):Nat):Int)),(pI (((aJ kd).length+1:Nat):Int)),(pI 11)])),(12,(.row 78 R.length ((R.map rwE).flatten)))],_,false=false,FC Tp 91 [(.ptr 5 0),(.p (.sl ((aU xl ([32]:List UInt8)).length) (((aU xl ([32]:List UInt8)).map stE).flatten))),(.fn 176 [] [(.ptr 13 0),(.ptr 14 0)])] [(5,(.box 158 [(pI kd),(.own 12),(pI 0),(pI 0),(pI 0)])),(13,(.box 156 [(.ptr 5 0)])),(14,(.box 3 [(pI (((nr+1):Nat):Int))])),(12,(.row 78 R.length ((R.map rwE).flatten)))] 15 (.tup [(.own 15),(pB false)]) [(5,(.box 158 [(pI kd),(.own 12),(pI (((nr+1):Nat):Int)),(pI (((aJ kd).length+1:Nat):Int)),(pI 11)])),(12,(.row 78 R.length ((R.map rwE).flatten))),(13,(.box 156 [(.ptr 5 0)])),(14,(.box 3 [(pI (((nr+1):Nat):Int))])),(15,(.row 80 Ae.length ((Ae.map cE).flatten)))],_,_,_,_,_,_,_,_,FC Tp 89 [(.ptr 5 0),(pI (((nr+1):Nat):Int))] [(5,(.box 158 [(pI kd),(.own 12),(pI 0),(pI 0),(pI 0)])),(12,(.row 78 R.length ((R.map rwE).flatten)))] 13 (.fn 176 [] [(.ptr 13 0),(.ptr 14 0)]) [(5,(.box 158 [(pI kd),(.own 12),(pI 0),(pI 0),(pI 0)])),(12,(.row 78 R.length ((R.map rwE).flatten))),(13,(.box 156 [(.ptr 5 0)])),(14,(.box 3 [(pI (((nr+1):Nat):Int))]))],_]) (by kernel_rfl) (gc (FMM.fc (ids:=[5,12]) (jW (k:=kd) (l:=(((nr+1):Nat):Int)) (f:=(((aJ kd).length+1:Nat):Int)) (e:=(11:Int)) (n:=R.length) (cs:=((R.map rwE).flatten)) (by decide)) (by kernel_rfl)) (gc bFh (gc rfl (gc (FMM.fcN (k:=1) rfl (ids:=[5,12,13,14]) (aJl (((nr+1):Nat):Int) R 0 0 G7 G8 Ez) (by kernel_rfl)) (gc (kT h7) (gc h6 (gc (bI h5) (gc (aV h4) (Au h3 (gc (fk 15 (eP xl ([32]:List UInt8) h1 h2) rfl) (gc (FMM.fcN (k:=2) rfl (ids:=[5,12]) (eV (ln:=(((nr+1):Nat):Int)) (k:=kd) (l:=(0:Int)) (f:=(0:Int)) (e:=(0:Int)) (R:=R)) (by kernel_rfl)) (gc h0 gn)))))))))))),by kernel_rfl,(⟨fr 149 [(1,(.ptr 0 0)),(2,(.ptr 1 0)),(3,(.ptr 2 0)),(4,(.ptr 3 0)),(5,(.ptr 4 0)),(6,(.ptr 6 0)),(7,(.ptr 7 0)),(8,(.ptr 8 0)),(9,(.ptr 9 0)),(10,(.ptr 10 0)),(24,(.ptr 5 0)),(26,(.fn 175 [] [(.ptr 11 0)]))],[some (.box 9 [(.p (aD s))]),some (.box 26 [(pI 0),(.p bK)]),some (.box 3 [(pI (((nr+1):Nat):Int))]),some (.box 3 [(pI (((aJ kd).length+1:Nat):Int))]),some (.box 27 [(pI 11)]),some (.box 158 [(pI kd),(.own 12),(pI (((nr+1):Nat):Int)),(pI (((aJ kd).length+1:Nat):Int)),(pI 11)]),some (.box 156 [(.ptr 5 0)]),some (.box 3 [(pI (((nr+1):Nat):Int))]),some (.box 3 [(pI my)]),some (.box 3 [(pI (bf:Int))]),some (.box 4 [(pB dn)]),some .dead,some (.row 78 R.length ((R.map rwE).flatten))]⟩:St).t,by kernel_rfl⟩
 exact raw
theorem aNk{s:List UInt8}{R:List (List Cel)}{xl:List UInt8}{Bw Bs:Int}(h0:inR (((nr+1):Nat):Int))(h1:xl.length<4294967281)(h2:1≤([32]:List UInt8).length)(h3:dn=false)(h4:xb=true)(h5:(((nr+1):Nat):Int)≠1)(h6:inR (my+1))(h7:(((nr+1):Nat):Int)≤(my+1))(G7:∀ u∈(aU xl ([32]:List UInt8)),u.length≤90000)(G8:rdL (aJ kd) (aU xl ([32]:List UInt8)) 0 = .inr (Bw,Bs))(A5:Bs≠0)(B1:Dv=(nr+1)):bS Tp 13 12 eZ (jG (bP s nr my bf dn kd R.length ((R.map rwE).flatten)) 27 28 11 12 xl xb) .ret (bR (bR (bR (bR (bP s Dv my bf dn kd R.length ((R.map rwE).flatten)) 5 (some (.box 158 [(pI kd),(.own 12),(pI (((nr+1):Nat):Int)),(pI Bw),(pI Bs)]))) 2 (some (.box 3 [(pI (((nr+1):Nat):Int))]))) 3 (some (.box 3 [(pI Bw)]))) 4 (some (.box 27 [(pI Bs)]))).m:=by
 subst B1
 have raw:bS Tp 13 12 eZ (jG (bP s nr my bf dn kd R.length ((R.map rwE).flatten)) 27 28 11 12 xl xb) .ret (bR (bR (bR (bR (bP s (nr+1) my bf dn kd R.length ((R.map rwE).flatten)) 5 (some (.box 158 [(pI kd),(.own 12),(pI (((nr+1):Nat):Int)),(pI Bw),(pI Bs)]))) 2 (some (.box 3 [(pI (((nr+1):Nat):Int))]))) 3 (some (.box 3 [(pI Bw)]))) 4 (some (.box 27 [(pI Bs)]))).m:=⟨⟨fr 149 [(1,(.ptr 0 0)),(2,(.ptr 1 0)),(3,(.ptr 2 0)),(4,(.ptr 3 0)),(5,(.ptr 4 0)),(6,(.ptr 6 0)),(7,(.ptr 7 0)),(8,(.ptr 8 0)),(9,(.ptr 9 0)),(10,(.ptr 10 0)),(24,(.ptr 5 0)),(26,(.fn 175 [] [(.ptr 11 0)]))],[some (.box 9 [(.p (aD s))]),some (.box 26 [(pI 0),(.p bK)]),some (.box 3 [(pI (((nr+1):Nat):Int))]),some (.box 3 [(pI Bw)]),some (.box 27 [(pI Bs)]),some (.box 158 [(pI kd),(.own 12),(pI (((nr+1):Nat):Int)),(pI Bw),(pI Bs)]),some (.box 156 [(.ptr 5 0)]),some (.box 3 [(pI (((nr+1):Nat):Int))]),some (.box 3 [(pI my)]),some (.box 3 [(pI (bf:Int))]),some (.box 4 [(pB dn)]),some .dead,some (.row 78 R.length ((R.map rwE).flatten))]⟩,⟨[],[12],[],[]⟩,aA.fin (g:=⟨(rng [(0,1),(11,13),(25,1),(27,109),(142,1)]),[],[],[]⟩) (o:=[.c (.fn 176 [] [(.ptr 13 0),(.ptr 14 0)]) [(5,(.box 158 [(pI kd),(.own 12),(pI 0),(pI 0),(pI 0)])),(12,(.row 78 R.length ((R.map rwE).flatten))),(13,(.box 156 [(.ptr 5 0)])),(14,(.box 3 [(pI (((nr+1):Nat):Int))]))],.c (.p (.sl ((aU xl ([32]:List UInt8)).length) (((aU xl ([32]:List UInt8)).map stE).flatten))) [],bF,bF,bF,bF,bF,bT,.c (.tup [(.p bK),(pB false)]) [(5,(.box 158 [(pI kd),(.own 12),(pI (((nr+1):Nat):Int)),(pI Bw),(pI Bs)])),(12,(.row 78 R.length ((R.map rwE).flatten))),(13,(.box 156 [(.ptr 5 0)])),(14,(.box 3 [(pI (((nr+1):Nat):Int))]))],bF,bT,.c (.tup [(.p (.agg [(aB 0),bK])),(pI (((nr+1):Nat):Int)),(pI Bw),(pI Bs)]) [(5,(.box 158 [(pI kd),(.own 12),(pI (((nr+1):Nat):Int)),(pI Bw),(pI Bs)])),(12,(.row 78 R.length ((R.map rwE).flatten)))]]) (l:=[FC Tp 94 [(.ptr 5 0)] [(5,(.box 158 [(pI kd),(.own 12),(pI (((nr+1):Nat):Int)),(pI Bw),(pI Bs)])),(12,(.row 78 R.length ((R.map rwE).flatten)))] 15 (.tup [(.p (.agg [(aB 0),bK])),(pI (((nr+1):Nat):Int)),(pI Bw),(pI Bs)]) [(5,(.box 158 [(pI kd),(.own 12),(pI (((nr+1):Nat):Int)),(pI Bw),(pI Bs)])),(12,(.row 78 R.length ((R.map rwE).flatten)))],_,false=false,FC Tp 91 [(.ptr 5 0),(.p (.sl ((aU xl ([32]:List UInt8)).length) (((aU xl ([32]:List UInt8)).map stE).flatten))),(.fn 176 [] [(.ptr 13 0),(.ptr 14 0)])] [(5,(.box 158 [(pI kd),(.own 12),(pI 0),(pI 0),(pI 0)])),(13,(.box 156 [(.ptr 5 0)])),(14,(.box 3 [(pI (((nr+1):Nat):Int))])),(12,(.row 78 R.length ((R.map rwE).flatten)))] 15 (.tup [(.p bK),(pB false)]) [(5,(.box 158 [(pI kd),(.own 12),(pI (((nr+1):Nat):Int)),(pI Bw),(pI Bs)])),(12,(.row 78 R.length ((R.map rwE).flatten))),(13,(.box 156 [(.ptr 5 0)])),(14,(.box 3 [(pI (((nr+1):Nat):Int))]))],_,_,_,_,_,_,_,_,FC Tp 89 [(.ptr 5 0),(pI (((nr+1):Nat):Int))] [(5,(.box 158 [(pI kd),(.own 12),(pI 0),(pI 0),(pI 0)])),(12,(.row 78 R.length ((R.map rwE).flatten)))] 13 (.fn 176 [] [(.ptr 13 0),(.ptr 14 0)]) [(5,(.box 158 [(pI kd),(.own 12),(pI 0),(pI 0),(pI 0)])),(12,(.row 78 R.length ((R.map rwE).flatten))),(13,(.box 156 [(.ptr 5 0)])),(14,(.box 3 [(pI (((nr+1):Nat):Int))]))],_]) (by kernel_rfl) (gc (FMM.fc (ids:=[5,12]) (jW (k:=kd) (l:=(((nr+1):Nat):Int)) (f:=Bw) (e:=Bs) (n:=R.length) (cs:=((R.map rwE).flatten)) A5) (by kernel_rfl)) (gc (dE A5) (gc rfl (gc (FMM.fcN (k:=0) rfl (ids:=[5,12,13,14]) (aQv (((nr+1):Nat):Int) R 0 0 G7 G8).2 (by kernel_rfl)) (gc (kT h7) (gc h6 (gc (bI h5) (gc (aV h4) (Au h3 (gc (fk 15 (eP xl ([32]:List UInt8) h1 h2) rfl) (gc (FMM.fcN (k:=2) rfl (ids:=[5,12]) (eV (ln:=(((nr+1):Nat):Int)) (k:=kd) (l:=(0:Int)) (f:=(0:Int)) (e:=(0:Int)) (R:=R)) (by kernel_rfl)) (gc h0 gn)))))))))))),by kernel_rfl,(⟨fr 149 [(1,(.ptr 0 0)),(2,(.ptr 1 0)),(3,(.ptr 2 0)),(4,(.ptr 3 0)),(5,(.ptr 4 0)),(6,(.ptr 6 0)),(7,(.ptr 7 0)),(8,(.ptr 8 0)),(9,(.ptr 9 0)),(10,(.ptr 10 0)),(24,(.ptr 5 0)),(26,(.fn 175 [] [(.ptr 11 0)]))],[some (.box 9 [(.p (aD s))]),some (.box 26 [(pI 0),(.p bK)]),some (.box 3 [(pI (((nr+1):Nat):Int))]),some (.box 3 [(pI Bw)]),some (.box 27 [(pI Bs)]),some (.box 158 [(pI kd),(.own 12),(pI (((nr+1):Nat):Int)),(pI Bw),(pI Bs)]),some (.box 156 [(.ptr 5 0)]),some (.box 3 [(pI (((nr+1):Nat):Int))]),some (.box 3 [(pI my)]),some (.box 3 [(pI (bf:Int))]),some (.box 4 [(pB dn)]),some .dead,some (.row 78 R.length ((R.map rwE).flatten))]⟩:St).t,by kernel_rfl⟩
 exact raw
theorem aNl{s:List UInt8}{R:List (List Cel)}{xl:List UInt8}(h0:inR (((nr+1):Nat):Int))(h1:xl.length<4294967281)(h2:1≤([32]:List UInt8).length)(h3:dn=false)(h4:xb=true)(h5:(((nr+1):Nat):Int)≠1)(h6:inR (my+1))(h7:(my+1)<(((nr+1):Nat):Int))(h8:0≤(0:Int)∧(0:Int)≤(bf:Int)∧(bf:Int)≤(s.length:Int))(h9:(s.take bf).length≤65536)(I8:0<(aU xl ([32]:List UInt8)).length)(I9:(lsM (aU xl ([32]:List UInt8)) (bM (s.take bf))).2≠0)(Bc:((lsM (aU xl ([32]:List UInt8)) (bM (s.take bf))).2)≠0)(B1:Dv=(nr+1)):bS Tp 13 12 eZ (jG (bP s nr my bf dn kd R.length ((R.map rwE).flatten)) 27 28 11 12 xl xb) .ret (bR (bR (bR (bR (bP s Dv my bf true kd R.length ((R.map rwE).flatten)) 5 (some (.box 158 [(pI kd),(.own 12),(pI (((nr+1):Nat):Int)),(pI ((lsM (aU xl ([32]:List UInt8)) (bM (s.take bf))).1)),(pI ((lsM (aU xl ([32]:List UInt8)) (bM (s.take bf))).2))]))) 2 (some (.box 3 [(pI (((nr+1):Nat):Int))]))) 3 (some (.box 3 [(pI ((lsM (aU xl ([32]:List UInt8)) (bM (s.take bf))).1))]))) 4 (some (.box 27 [(pI ((lsM (aU xl ([32]:List UInt8)) (bM (s.take bf))).2))]))).m:=by
 subst B1
 have raw:bS Tp 13 12 eZ (jG (bP s nr my bf dn kd R.length ((R.map rwE).flatten)) 27 28 11 12 xl xb) .ret (bR (bR (bR (bR (bP s (nr+1) my bf true kd R.length ((R.map rwE).flatten)) 5 (some (.box 158 [(pI kd),(.own 12),(pI (((nr+1):Nat):Int)),(pI ((lsM (aU xl ([32]:List UInt8)) (bM (s.take bf))).1)),(pI ((lsM (aU xl ([32]:List UInt8)) (bM (s.take bf))).2))]))) 2 (some (.box 3 [(pI (((nr+1):Nat):Int))]))) 3 (some (.box 3 [(pI ((lsM (aU xl ([32]:List UInt8)) (bM (s.take bf))).1))]))) 4 (some (.box 27 [(pI ((lsM (aU xl ([32]:List UInt8)) (bM (s.take bf))).2))]))).m:=⟨⟨fr 149 [(1,(.ptr 0 0)),(2,(.ptr 1 0)),(3,(.ptr 2 0)),(4,(.ptr 3 0)),(5,(.ptr 4 0)),(6,(.ptr 6 0)),(7,(.ptr 7 0)),(8,(.ptr 8 0)),(9,(.ptr 9 0)),(10,(.ptr 10 0)),(24,(.ptr 5 0)),(26,(.fn 175 [] [(.ptr 11 0)]))],[some (.box 9 [(.p (aD s))]),some (.box 26 [(pI 0),(.p bK)]),some (.box 3 [(pI (((nr+1):Nat):Int))]),some (.box 3 [(pI ((lsM (aU xl ([32]:List UInt8)) (bM (s.take bf))).1))]),some (.box 27 [(pI ((lsM (aU xl ([32]:List UInt8)) (bM (s.take bf))).2))]),some (.box 158 [(pI kd),(.own 12),(pI (((nr+1):Nat):Int)),(pI ((lsM (aU xl ([32]:List UInt8)) (bM (s.take bf))).1)),(pI ((lsM (aU xl ([32]:List UInt8)) (bM (s.take bf))).2))]),some (.box 156 [(.ptr 5 0)]),some (.box 3 [(pI (((nr+1):Nat):Int))]),some (.box 3 [(pI my)]),some (.box 3 [(pI (bf:Int))]),some (.box 4 [(pB true)]),some .dead,some (.row 78 R.length ((R.map rwE).flatten))]⟩,⟨[],[12],[],[]⟩,aA.fin (g:=⟨(rng [(0,1),(11,13),(25,1),(27,109),(142,1)]),[],[],[(110000,0)]⟩) (o:=[.c (.fn 176 [] [(.ptr 13 0),(.ptr 14 0)]) [(5,(.box 158 [(pI kd),(.own 12),(pI 0),(pI 0),(pI 0)])),(12,(.row 78 R.length ((R.map rwE).flatten))),(13,(.box 156 [(.ptr 5 0)])),(14,(.box 3 [(pI (((nr+1):Nat):Int))]))],.c (.p (.sl ((aU xl ([32]:List UInt8)).length) (((aU xl ([32]:List UInt8)).map stE).flatten))) [],bF,bF,bF,bF,bF,bF,.c (.tup [(pI (bM (s.take bf))),(pI 0)]) [],.c (.tup []) [(13,(.box 156 [(.ptr 5 0)])),(14,(.box 3 [(pI (((nr+1):Nat):Int))])),(5,(.box 158 [(pI kd),(.own 12),(pI (((nr+1):Nat):Int)),(pI ((lsM (aU xl ([32]:List UInt8)) (bM (s.take bf))).1)),(pI ((lsM (aU xl ([32]:List UInt8)) (bM (s.take bf))).2))])),(12,(.row 78 R.length ((R.map rwE).flatten)))],bT,.c (.tup [(.p (.agg [(aB 0),bK])),(pI (((nr+1):Nat):Int)),(pI ((lsM (aU xl ([32]:List UInt8)) (bM (s.take bf))).1)),(pI ((lsM (aU xl ([32]:List UInt8)) (bM (s.take bf))).2))]) [(5,(.box 158 [(pI kd),(.own 12),(pI (((nr+1):Nat):Int)),(pI ((lsM (aU xl ([32]:List UInt8)) (bM (s.take bf))).1)),(pI ((lsM (aU xl ([32]:List UInt8)) (bM (s.take bf))).2))])),(12,(.row 78 R.length ((R.map rwE).flatten)))]]) (l:=[FC Tp 94 [(.ptr 5 0)] [(5,(.box 158 [(pI kd),(.own 12),(pI (((nr+1):Nat):Int)),(pI ((lsM (aU xl ([32]:List UInt8)) (bM (s.take bf))).1)),(pI ((lsM (aU xl ([32]:List UInt8)) (bM (s.take bf))).2))])),(12,(.row 78 R.length ((R.map rwE).flatten)))] 15 (.tup [(.p (.agg [(aB 0),bK])),(pI (((nr+1):Nat):Int)),(pI ((lsM (aU xl ([32]:List UInt8)) (bM (s.take bf))).1)),(pI ((lsM (aU xl ([32]:List UInt8)) (bM (s.take bf))).2))]) [(5,(.box 158 [(pI kd),(.own 12),(pI (((nr+1):Nat):Int)),(pI ((lsM (aU xl ([32]:List UInt8)) (bM (s.take bf))).1)),(pI ((lsM (aU xl ([32]:List UInt8)) (bM (s.take bf))).2))])),(12,(.row 78 R.length ((R.map rwE).flatten)))],_,FC Tp 93 [(.p (.sl ((aU xl ([32]:List UInt8)).length) (((aU xl ([32]:List UInt8)).map stE).flatten))),(pI (bM (s.take bf))),(.fn 176 [] [(.ptr 13 0),(.ptr 14 0)])] [(13,(.box 156 [(.ptr 5 0)])),(14,(.box 3 [(pI (((nr+1):Nat):Int))])),(5,(.box 158 [(pI kd),(.own 12),(pI 0),(pI 0),(pI 0)])),(12,(.row 78 R.length ((R.map rwE).flatten)))] 15 (.tup []) [(13,(.box 156 [(.ptr 5 0)])),(14,(.box 3 [(pI (((nr+1):Nat):Int))])),(5,(.box 158 [(pI kd),(.own 12),(pI (((nr+1):Nat):Int)),(pI ((lsM (aU xl ([32]:List UInt8)) (bM (s.take bf))).1)),(pI ((lsM (aU xl ([32]:List UInt8)) (bM (s.take bf))).2))])),(12,(.row 78 R.length ((R.map rwE).flatten)))],_,_,_,_,_,_,_,_,_,_,FC Tp 89 [(.ptr 5 0),(pI (((nr+1):Nat):Int))] [(5,(.box 158 [(pI kd),(.own 12),(pI 0),(pI 0),(pI 0)])),(12,(.row 78 R.length ((R.map rwE).flatten)))] 13 (.fn 176 [] [(.ptr 13 0),(.ptr 14 0)]) [(5,(.box 158 [(pI kd),(.own 12),(pI 0),(pI 0),(pI 0)])),(12,(.row 78 R.length ((R.map rwE).flatten))),(13,(.box 156 [(.ptr 5 0)])),(14,(.box 3 [(pI (((nr+1):Nat):Int))]))],_]) (by kernel_rfl) (gc (FMM.fc (ids:=[5,12]) (jW (k:=kd) (l:=(((nr+1):Nat):Int)) (f:=((lsM (aU xl ([32]:List UInt8)) (bM (s.take bf))).1)) (e:=((lsM (aU xl ([32]:List UInt8)) (bM (s.take bf))).2)) (n:=R.length) (cs:=((R.map rwE).flatten)) Bc) (by kernel_rfl)) (gc (dE Bc) (gc (FMM.fc (ids:=[13,14,5,12]) (bVq (aU xl ([32]:List UInt8)) (bM (s.take bf)) (((nr+1):Nat):Int) kd R I8 I9) (by kernel_rfl)) (gc (fk 15 (jA (s.take bf) h9) rfl) (gc h8 (gc (fA h7) (gc h6 (gc (bI h5) (gc (aV h4) (Au h3 (gc (fk 15 (eP xl ([32]:List UInt8) h1 h2) rfl) (gc (FMM.fcN (k:=2) rfl (ids:=[5,12]) (eV (ln:=(((nr+1):Nat):Int)) (k:=kd) (l:=(0:Int)) (f:=(0:Int)) (e:=(0:Int)) (R:=R)) (by kernel_rfl)) (gc h0 gn))))))))))))),by kernel_rfl,(⟨fr 149 [(1,(.ptr 0 0)),(2,(.ptr 1 0)),(3,(.ptr 2 0)),(4,(.ptr 3 0)),(5,(.ptr 4 0)),(6,(.ptr 6 0)),(7,(.ptr 7 0)),(8,(.ptr 8 0)),(9,(.ptr 9 0)),(10,(.ptr 10 0)),(24,(.ptr 5 0)),(26,(.fn 175 [] [(.ptr 11 0)]))],[some (.box 9 [(.p (aD s))]),some (.box 26 [(pI 0),(.p bK)]),some (.box 3 [(pI (((nr+1):Nat):Int))]),some (.box 3 [(pI ((lsM (aU xl ([32]:List UInt8)) (bM (s.take bf))).1))]),some (.box 27 [(pI ((lsM (aU xl ([32]:List UInt8)) (bM (s.take bf))).2))]),some (.box 158 [(pI kd),(.own 12),(pI (((nr+1):Nat):Int)),(pI ((lsM (aU xl ([32]:List UInt8)) (bM (s.take bf))).1)),(pI ((lsM (aU xl ([32]:List UInt8)) (bM (s.take bf))).2))]),some (.box 156 [(.ptr 5 0)]),some (.box 3 [(pI (((nr+1):Nat):Int))]),some (.box 3 [(pI my)]),some (.box 3 [(pI (bf:Int))]),some (.box 4 [(pB true)]),some .dead,some (.row 78 R.length ((R.map rwE).flatten))]⟩:St).t,by kernel_rfl⟩
 exact raw
theorem aNm{s:List UInt8}{R:List (List Cel)}{xl:List UInt8}(h0:inR (((nr+1):Nat):Int))(h1:xl.length<4294967281)(h2:1≤([32]:List UInt8).length)(h3:dn=false)(h4:xb=true)(h5:(((nr+1):Nat):Int)≠1)(h6:inR (my+1))(h7:(my+1)<(((nr+1):Nat):Int))(h8:0≤(0:Int)∧(0:Int)≤(bf:Int)∧(bf:Int)≤(s.length:Int))(h9:(s.take bf).length≤65536)(I8:0<(aU xl ([32]:List UInt8)).length)(I9:(lsM (aU xl ([32]:List UInt8)) (bM (s.take bf))).2=0)(Bc:inR (((xl.length+1):Nat):Int))(B3:inR (((bf+(xl.length+1)):Nat):Int))(B1:Dv=(nr+1))(F4:H9=(bf+(xl.length+1))):bS Tp 13 12 eZ (jG (bP s nr my bf dn kd R.length ((R.map rwE).flatten)) 27 28 11 12 xl xb) .normal (bP s Dv my H9 true kd R.length ((R.map rwE).flatten)).m:=by
 subst B1 F4
 have raw:bS Tp 13 12 eZ (jG (bP s nr my bf dn kd R.length ((R.map rwE).flatten)) 27 28 11 12 xl xb) .normal (bP s (nr+1) my (bf+(xl.length+1)) true kd R.length ((R.map rwE).flatten)).m:=⟨⟨fr 149 [(1,(.ptr 0 0)),(2,(.ptr 1 0)),(3,(.ptr 2 0)),(4,(.ptr 3 0)),(5,(.ptr 4 0)),(6,(.ptr 6 0)),(7,(.ptr 7 0)),(8,(.ptr 8 0)),(9,(.ptr 9 0)),(10,(.ptr 10 0)),(24,(.ptr 5 0)),(26,(.fn 175 [] [(.ptr 11 0)]))],[some (.box 9 [(.p (aD s))]),some (.box 26 [(pI 0),(.p bK)]),some (.box 3 [(pI 0)]),some (.box 3 [(pI 0)]),some (.box 27 [(pI 0)]),some (.box 158 [(pI kd),(.own 12),(pI 0),(pI 0),(pI 0)]),some (.box 156 [(.ptr 5 0)]),some (.box 3 [(pI (((nr+1):Nat):Int))]),some (.box 3 [(pI my)]),some (.box 3 [(pI (((bf+(xl.length+1)):Nat):Int))]),some (.box 4 [(pB true)]),some .dead,some (.row 78 R.length ((R.map rwE).flatten))]⟩,⟨[],[12],[],[]⟩,aA.fin (g:=⟨(rng [(0,1),(11,13),(25,1),(27,109),(142,1)]),[],[],[(110000,0)]⟩) (o:=[.c (.fn 176 [] [(.ptr 13 0),(.ptr 14 0)]) [(5,(.box 158 [(pI kd),(.own 12),(pI 0),(pI 0),(pI 0)])),(12,(.row 78 R.length ((R.map rwE).flatten))),(13,(.box 156 [(.ptr 5 0)])),(14,(.box 3 [(pI (((nr+1):Nat):Int))]))],.c (.p (.sl ((aU xl ([32]:List UInt8)).length) (((aU xl ([32]:List UInt8)).map stE).flatten))) [],bF,bF,bF,bF,bF,bF,.c (.tup [(pI (bM (s.take bf))),(pI 0)]) [],.c (.tup []) [(13,(.box 156 [(.ptr 5 0)])),(14,(.box 3 [(pI (((nr+1):Nat):Int))])),(5,(.box 158 [(pI kd),(.own 12),(pI 0),(pI 0),(pI 0)])),(12,(.row 78 R.length ((R.map rwE).flatten)))],bF]) (l:=[_,_,_,FC Tp 93 [(.p (.sl ((aU xl ([32]:List UInt8)).length) (((aU xl ([32]:List UInt8)).map stE).flatten))),(pI (bM (s.take bf))),(.fn 176 [] [(.ptr 13 0),(.ptr 14 0)])] [(13,(.box 156 [(.ptr 5 0)])),(14,(.box 3 [(pI (((nr+1):Nat):Int))])),(5,(.box 158 [(pI kd),(.own 12),(pI 0),(pI 0),(pI 0)])),(12,(.row 78 R.length ((R.map rwE).flatten)))] 15 (.tup []) [(13,(.box 156 [(.ptr 5 0)])),(14,(.box 3 [(pI (((nr+1):Nat):Int))])),(5,(.box 158 [(pI kd),(.own 12),(pI 0),(pI 0),(pI 0)])),(12,(.row 78 R.length ((R.map rwE).flatten)))],_,_,_,_,_,_,_,_,_,_,FC Tp 89 [(.ptr 5 0),(pI (((nr+1):Nat):Int))] [(5,(.box 158 [(pI kd),(.own 12),(pI 0),(pI 0),(pI 0)])),(12,(.row 78 R.length ((R.map rwE).flatten)))] 13 (.fn 176 [] [(.ptr 13 0),(.ptr 14 0)]) [(5,(.box 158 [(pI kd),(.own 12),(pI 0),(pI 0),(pI 0)])),(12,(.row 78 R.length ((R.map rwE).flatten))),(13,(.box 156 [(.ptr 5 0)])),(14,(.box 3 [(pI (((nr+1):Nat):Int))]))],_]) (by kernel_rfl) (gc B3 (gc Bc (gc aQu (gc (FMM.fc (ids:=[13,14,5,12]) (bVr (aU xl ([32]:List UInt8)) (bM (s.take bf)) (((nr+1):Nat):Int) kd R I8 I9) (by kernel_rfl)) (gc (fk 15 (jA (s.take bf) h9) rfl) (gc h8 (gc (fA h7) (gc h6 (gc (bI h5) (gc (aV h4) (Au h3 (gc (fk 15 (eP xl ([32]:List UInt8) h1 h2) rfl) (gc (FMM.fcN (k:=2) rfl (ids:=[5,12]) (eV (ln:=(((nr+1):Nat):Int)) (k:=kd) (l:=(0:Int)) (f:=(0:Int)) (e:=(0:Int)) (R:=R)) (by kernel_rfl)) (gc h0 gn)))))))))))))),by kernel_rfl,(⟨fr 149 [(1,(.ptr 0 0)),(2,(.ptr 1 0)),(3,(.ptr 2 0)),(4,(.ptr 3 0)),(5,(.ptr 4 0)),(6,(.ptr 6 0)),(7,(.ptr 7 0)),(8,(.ptr 8 0)),(9,(.ptr 9 0)),(10,(.ptr 10 0)),(24,(.ptr 5 0)),(26,(.fn 175 [] [(.ptr 11 0)]))],[some (.box 9 [(.p (aD s))]),some (.box 26 [(pI 0),(.p bK)]),some (.box 3 [(pI 0)]),some (.box 3 [(pI 0)]),some (.box 27 [(pI 0)]),some (.box 158 [(pI kd),(.own 12),(pI 0),(pI 0),(pI 0)]),some (.box 156 [(.ptr 5 0)]),some (.box 3 [(pI (((nr+1):Nat):Int))]),some (.box 3 [(pI my)]),some (.box 3 [(pI (((bf+(xl.length+1)):Nat):Int))]),some (.box 4 [(pB true)]),some .dead,some (.row 78 R.length ((R.map rwE).flatten))]⟩:St).t,by kernel_rfl⟩
 exact raw
end
end KV
end Go.Proofs
section
namespace Go.Proofs
open Go.RowKit
namespace KV
open Tryz
theorem aCx(sep:List UInt8):∀ (k:Nat) (s u:List UInt8),u∈Lib.splitK sep 0 k s→u.length≤s.length
 | 0,s,u,h=>by
  rw [Lib.splitK,List.mem_singleton] at h
  subst h;exact Bj _
 | k+1,s,u,h=>by
  rw [Lib.splitK] at h
  split at h
  ·rw [List.mem_singleton] at h
   subst h;exact Bj _
  ·rcases oS.1 h with rfl | h
   ·rw [uJ];omega
   ·have:=aCx sep k _ u h
    rw [uK] at this
    omega
theorem bLm{s sep u:List UInt8}(h:u∈aU s sep):u.length≤s.length:=aCx _ _ _ _ h
theorem aNg(sep:List UInt8):∀ (k:Nat) (s:List UInt8),0<(Lib.splitK sep 0 k s).length
 | 0,s=>by simp [Lib.splitK]
 | k+1,s=>by rw [Lib.splitK];split <;> simp
theorem aJj(s sep:List UInt8):0<(aU s sep).length:=aNg _ _ _
theorem tQ:∀ (ts:List Int) (us:List (List UInt8)) (i:Nat) (cs:List Cel),rdL ts us i = .inl cs→cs.length=ts.length
 | [],us,i,cs,h=>by cases h;rfl
 | t::ts,[],i,cs,h=>by cases h
 | t::ts,u::us,i,cs,h=>by
  unfold rdL at h
  split at h
  ·cases h
  ·split at h
   ·rename_i Bm h2
    cases h;rw [gO,gO,tQ ts us (i+1) Bm h2]
   ·cases h
theorem aNh:∀ (ts:List Int) (us:List (List UInt8)) (i:Nat) (p:Int × Int),rdL ts us i = .inr p→p.2≠0
 | [],us,i,p,h=>by cases h
 | t::ts,[],i,p,h=>by cases h;exact (by decide:(11:Int)≠0)
 | t::ts,u::us,i,p,h=>by
  unfold rdL at h
  split at h
  ·cases h;assumption
  ·split at h
   ·cases h
   ·rename_i p' h2
    cases h;exact aNh ts us (i+1) p h2
theorem bVn(fs:List (List UInt8)):0≤(hdM fs).2.1∧(hdM fs).2.1≤200:=by
 have h:=wT (fld fs 2) 200 (by decide)
 unfold hdM
 repeat' split
 all_goals dsimp only
 all_goals first | omega | exact ⟨h.1,h.2.1⟩
theorem aNi(a b c d e f:Int):E8 a b c d e f = -1∨E8 a b c d e f=0∨E8 a b c d e f=1:=by
 have h:∀ a b:Int,jR a b = -1∨jR a b=0∨jR a b=1:=fun a b=>by
  unfold jR
  repeat' split
  all_goals simp
 unfold E8
 repeat' split
 all_goals exact h _ _
structure PS where
 nr:Nat
 my:Int
 bf:Nat
 dn:Bool
 kd:Int
 R:List (List Cel)
def prF(s:List UInt8)(a:PS)(x:List UInt8 × Bool):Except (PS × Int × Int × Int) PS :=
 if a.dn=true∨x.2=false then .error ({ a with nr:=a.nr+1 },((a.nr+1:Nat):Int),1,11)
 else if a.nr=0 then
  (if (hdM (aU x.1 [32])).2.2.2≠0 then .error ({ a with nr:=a.nr+1,my:=(hdM (aU x.1 [32])).2.1,kd:=D7 (hdM (aU x.1 [32])).1 },((a.nr+1:Nat):Int),(hdM (aU x.1 [32])).2.2.1,(hdM (aU x.1 [32])).2.2.2)
  else .ok { a with nr:=a.nr+1,my:=(hdM (aU x.1 [32])).2.1,kd:=D7 (hdM (aU x.1 [32])).1,bf:=a.bf+(x.1.length+1) })
 else if ((a.nr+1:Nat):Int)≤a.my+1 then
  match rdL (aJ a.kd) (aU x.1 [32]) 0 with
  | .inr p => .error ({ a with nr:=a.nr+1 },((a.nr+1:Nat):Int),p.1,p.2)
  | .inl cs =>
   if (aU x.1 [32]).length≠(aJ a.kd).length then .error ({ a with nr:=a.nr+1 },((a.nr+1:Nat):Int),(((aJ a.kd).length+1:Nat):Int),11)
   else match a.R.getLast? with
    | none => .ok { a with nr:=a.nr+1,R:=a.R++[cs],bf:=a.bf+(x.1.length+1) }
    | some c =>
     if bW a.kd c cs = -1 then .ok { a with nr:=a.nr+1,R:=a.R++[cs],bf:=a.bf+(x.1.length+1) }
     else .error ({ a with nr:=a.nr+1,R:=a.R++[cs] },((a.nr+1:Nat):Int),1,if bW a.kd c cs=0 then 5 else 4)
 else if (lsM (aU x.1 [32]) (bM (s.take a.bf))).2≠0 then .error ({ a with nr:=a.nr+1,dn:=true },((a.nr+1:Nat):Int),(lsM (aU x.1 [32]) (bM (s.take a.bf))).1,(lsM (aU x.1 [32]) (bM (s.take a.bf))).2)
 else .ok { a with nr:=a.nr+1,dn:=true,bf:=a.bf+(x.1.length+1) }
def prA:PS:=⟨0,0,0,false,0,[]⟩
def prM(s:List UInt8):Int × List (List Cel) × Int × Int × Int :=
 if 65536<s.length then (0,[],0,0,10) else match itB (prF s) prA (cM s) with
  | .error e=>(0,[],e.2.1,e.2.2.1,e.2.2.2)
  | .ok a=>if a.dn=true then (a.kd,a.R,0,0,0) else (0,[],((a.nr+1:Nat):Int),1,11)
structure aXx (pre:List (List UInt8 × Bool)) (a:PS):Prop where
 nr:a.nr=pre.length
 bf:a.bf=wM pre
 ended:∀ y∈pre,y.2=true
 my:0≤a.my∧a.my≤200
 R:∀ r∈a.R,r.length=(aJ a.kd).length
 Rn:a.R.length≤a.nr
theorem aXy{s:List UInt8}{pre:List (List UInt8 × Bool)}{a a2:PS}{x:List UInt8 × Bool}(h:aXx pre a)(hf:prF s a x = .ok a2):aXx (pre++[x]) a2:=by
 obtain ⟨h1,h2,h3,h4,h5,h6⟩:=h;unfold prF at hf
 split at hf
 ·cases hf
 ·rename_i hc
  have hx:x.2=true:=by
   cases hx:x.2 with
   | true=>rfl
   | false=>exact absurd (.inr hx) hc
  have he:∀ y∈pre++[x],y.2=true:=fun y hy=>by
   rcases aAj.1 hy with hy | hy
   ·exact h3 y hy
   ·rw [List.mem_singleton] at hy;subst hy;exact hx
  have hb:a.bf+(x.1.length+1)=wM (pre++[x]):=by rw [aCh,h2]
  have hn:a.nr+1=(pre++[x]).length:=by rw [gM,h1];rfl
  split at hf
  ·rename_i h0
   split at hf
   ·cases hf
   ·cases hf
    have hR:a.R=[]:=sY (by omega)
    refine ⟨hn,hb,he,bVn _,?_,?_⟩
    ·intro r hr
     have Dr:r∈a.R:=hr;rw [hR] at Dr
     cases Dr
    ·show a.R.length≤a.nr+1
     omega
  ·split at hf
   ·split at hf
    ·cases hf
    ·rename_i cs hcs
     have hl:=tQ _ _ _ _ hcs;have hR:∀ r∈a.R++[cs],r.length=(aJ a.kd).length:=fun r hr=>by
      rcases aAj.1 hr with hr | hr
      ·exact h5 r hr
      ·rw [List.mem_singleton] at hr;subst hr;exact hl
     split at hf
     ·cases hf
     ·split at hf
      ·cases hf
       exact ⟨hn,hb,he,h4,hR,by show (a.R++[cs]).length≤a.nr+1;rw [gM,List.length_singleton];omega⟩
      ·split at hf
       ·cases hf
        exact ⟨hn,hb,he,h4,hR,by show (a.R++[cs]).length≤a.nr+1;rw [gM,List.length_singleton];omega⟩
       ·cases hf
   ·split at hf
    ·cases hf
    ·cases hf
     exact ⟨hn,hb,he,h4,h5,by show a.R.length≤a.nr+1;omega⟩
theorem zT{s:List UInt8}:∀ (l pre:List (List UInt8 × Bool)) (a a2:PS),aXx pre a→itB (prF s) a l = .ok a2→aXx (pre++l) a2
 | [],pre,a,a2,h,hi=>by cases hi;rw [List.append_nil];exact h
 | x::l,pre,a,a2,h,hi=>by
  cases hf:prF s a x with
  | error e=>simp only [itB,hf] at hi;cases hi
  | ok a' =>
   simp only [itB,hf] at hi
   have:=zT l (pre++[x]) a' a2 (aXy h hf) hi;rw [List.append_assoc] at this
   exact this
theorem bFd:aXx [] prA:=⟨rfl,rfl,fun y h=>(by simp at h),(by decide),fun r h=>(by cases h),Bj _⟩
abbrev prS(s:List UInt8)(a:PS):St:=bP s a.nr a.my a.bf a.dn a.kd a.R.length ((a.R.map rwE).flatten)
abbrev prR(s:List UInt8)(e:PS × Int × Int × Int):St:=bR (bR (bR (bR (prS s e.1) 5 (some (.box 158 [.p (aB e.1.kd),.own 12,.p (aB e.2.1),.p (aB e.2.2.1),.p (aB e.2.2.2)]))) 2 (some (.box 3 [.p (aB e.2.1)]))) 3 (some (.box 3 [.p (aB e.2.2.1)]))) 4 (some (.box 27 [.p (aB e.2.2.2)]))
theorem aQt(r:List Cel):iC (rwE r)=true:=by
 show (iC (r.map cE).flatten && true)=true;have:∀ l:List Cel,iC (l.map cE).flatten=true:=fun l=>by
  induction l with
  | nil=>rfl
  | cons c l ih=>exact ih
 rw [this];rfl
theorem aJk:∀ {l m:List PV},iC l=true→iC m=true→iC (l++m)=true
 | [],_,_,h=>h
 | x::l,m,h,h2=>by
  rw [iC,B5] at h
  rw [List.cons_append,iC,h.1,aJk h.2 h2];rfl
theorem pK:∀ R:List (List Cel),iC (R.map rwE).flatten=true
 | []=>rfl
 | r::R=>by rw [jP,uI];exact aJk (aQt r) (pK R)
theorem mR(R:List (List Cel))(c:List Cel):((R++[c]).map rwE).flatten=(R.map rwE).flatten++[PV.sl c.length ((c.map cE).flatten)]:=by simp [rwE,aM]
theorem aXz{s:List UInt8}(hs:s.length≤65536){pre:List (List UInt8 × Bool)}{x:List UInt8 × Bool}{a:PS}(hp:pre++[x] <+: cM s)(h:aXx pre a) :
  (∀ a',prF s a x = .ok a'→bS Tp 13 12 (sub (cd Tryz.f15) [1,1,1,1,0,1,0,1]) (jG (prS s a) 27 28 11 12 x.1 x.2) .normal (prS s a').m) ∧
  (∀ e,prF s a x = .error e→bS Tp 13 12 (sub (cd Tryz.f15) [1,1,1,1,0,1,0,1]) (jG (prS s a) 27 28 11 12 x.1 x.2) .ret (prR s e).m):=by
 obtain ⟨xl,xb⟩:=x;obtain ⟨nr,my,bf,dn,kd,R⟩:=a;obtain ⟨h1,h2,h3,h4,h5,h6⟩:=h;dsimp only at h1 h2 h3 h4 h5 h6
 have hfar:=aCi pre (xl,xb) s hp h3;dsimp only at hfar
 have hfg:=aPw pre;have i1:inR (((nr+1:Nat)):Int):=aW (by omega)
 have i2:inR (((xl.length+1:Nat)):Int):=aW (by omega)
 have i3:inR (((bf+(xl.length+1):Nat)):Int):=aW (by omega)
 have i4:inR (my+1):=by unfold inR;omega
 have Ga:xl.length<4294967281:=by omega
 have Fl:1≤([32]:List UInt8).length:=by decide
 have hf:∀ u∈aU xl [32],u.length≤90000:=fun u hu=>by have:=bLm hu;omega
 unfold prF;dsimp only
 by_cases hd:dn=true
 ·rw [if_pos (.inl hd)]
  refine ⟨fun _ h=>(by cases h),fun _ h => ?_⟩
  cases h;exact aYa i1 Ga Fl hd rfl
 ·have Fa:dn=false:=by simpa using hd
  by_cases hb:xb=false
  ·rw [if_pos (.inr hb)]
   refine ⟨fun _ h=>(by cases h),fun _ h => ?_⟩
   cases h;exact aYb i1 Ga Fl Fa hb rfl
  ·have Ar:xb=true:=by simpa using hb
   rw [if_neg (by simp [Fa,Ar])]
   by_cases h0:nr=0
   ·rw [if_pos h0]
    have z1:(((nr+1:Nat)):Int)=(1:Int):=by omega
    by_cases he:(hdM (aU xl [32])).2.2.2=0
    ·rw [if_neg (by simp [he])]
     refine ⟨fun _ h => ?_,fun _ h=>(by cases h)⟩
     cases h;exact aYd i1 Ga Fl Fa Ar z1 he i2 i3 rfl rfl rfl rfl
    ·rw [if_pos he]
     refine ⟨fun _ h=>(by cases h),fun _ h => ?_⟩
     cases h;exact aYc i1 Ga Fl Fa Ar z1 he he rfl rfl rfl
   ·rw [if_neg h0]
    have z2:(((nr+1:Nat)):Int)≠(1:Int):=by omega
    by_cases hm:(((nr+1:Nat)):Int)≤my+1
    ·rw [if_pos hm]
     cases hr:rdL (aJ kd) (aU xl [32]) 0 with
     | inr p =>
      obtain ⟨fd,er⟩:=p;refine ⟨fun _ h=>(by cases h),fun _ h => ?_⟩
      cases h;exact aNk i1 Ga Fl Fa Ar z2 i4 hm hf hr (aNh _ _ _ _ hr) rfl
     | inl cs =>
      have hl:=tQ _ _ _ _ hr;dsimp only
      by_cases hfl:(aU xl [32]).length=(aJ kd).length
      ·rw [if_neg (by simp [hfl])]
       have hkc:aK kd≤(cs.length:Int):=by rw [hl];exact tK kd
       cases hg:R.getLast? with
       | none =>
        have hR:R=[]:=List.getLast?_eq_none_iff.1 hg;refine ⟨fun _ h => ?_,fun _ h=>(by cases h)⟩
        cases h;subst hR;exact aYh i1 Ga Fl Fa Ar z2 i4 hm hf hr hfl (by simp) (by simp) i2 i3 rfl rfl rfl (by simp [rwE,aM])
       | some c =>
        have hRn:0<R.length:=by
         cases R with
         | nil=>simp at hg
         | cons y l=>simp
        have hc:R[R.length-1]? = some c:=by rw [List.getLast?_eq_getElem?] at hg;exact hg
        have hat:R[((R.length:Int)-(1:Int)).toNat]? = some c:=by
         rw [show ((R.length:Int)-(1:Int)).toNat=R.length-1 by omega];exact hc
        have hkl:aK kd≤(c.length:Int):=by rw [h5 c (Cn hc)];exact tK kd
        have i5:inR ((R.length:Int)-(1:Int)):=by unfold inR;omega
        have z3:(0:Int)<(R.length:Int):=by omega
        have z4:0≤((R.length:Int)-(1:Int))∧((R.length:Int)-(1:Int))<(R.length:Int):=by omega
        have hap:[(PV.sl cs.length ((cs.map cE).flatten))].length=1*1∧R.length+1≤1000000:=⟨rfl,by omega⟩
        dsimp only
        rcases aNi (aL kd c 0) (aL kd c 1) (aL kd c 2) (aL kd cs 0) (aL kd cs 1) (aL kd cs 2) with hk | hk | hk
        ·have F9:bW kd c cs = -1:=hk
         rw [if_pos F9];refine ⟨fun _ h => ?_,fun _ h=>(by cases h)⟩
         cases h;exact aYe i1 Ga Fl Fa Ar z2 i4 hm hf hr hfl z3 i5 z4 hat hkl hkc F9 hap i2 i3 rfl rfl (by simp) (mR R cs)
        ·have F9:bW kd c cs=0:=hk
         rw [if_neg (by rw [F9];decide),if_pos F9]
         refine ⟨fun _ h=>(by cases h),fun _ h => ?_⟩
         cases h;exact aYf i1 Ga Fl Fa Ar z2 i4 hm hf hr hfl z3 i5 z4 hat hkl hkc F9 hap rfl (by simp) (mR R cs)
        ·have F9:bW kd c cs=1:=hk
         rw [if_neg (by rw [F9];decide),if_neg (by rw [F9];decide)]
         refine ⟨fun _ h=>(by cases h),fun _ h => ?_⟩
         cases h;exact aYg i1 Ga Fl Fa Ar z2 i4 hm hf hr hfl z3 i5 z4 hat hkl hkc F9 hap rfl (by simp) (mR R cs)
      ·rw [if_pos hfl]
       refine ⟨fun _ h=>(by cases h),fun _ h => ?_⟩
       cases h;exact aYi i1 Ga Fl Fa Ar z2 i4 hm hf hr hfl rfl
    ·rw [if_neg hm]
     have z5:(my+(1:Int))<(((nr+1:Nat)):Int):=by omega
     have z6:0≤(0:Int)∧(0:Int)≤(bf:Int)∧(bf:Int)≤(s.length:Int):=by omega
     have hbf:(bf:Int)≤(s.length:Int):=by omega
     have htk:(s.take bf).length≤65536:=by rw [uJ];omega
     by_cases hz:(lsM (aU xl [32]) (bM (s.take bf))).2=0
     ·rw [if_neg (by simp [hz])]
      refine ⟨fun _ h => ?_,fun _ h=>(by cases h)⟩
      cases h;exact aNm i1 Ga Fl Fa Ar z2 i4 z5 z6 htk (aJj _ _) hz i2 i3 rfl rfl
     ·rw [if_pos hz]
      refine ⟨fun _ h=>(by cases h),fun _ h => ?_⟩
      cases h;exact aNl i1 Ga Fl Fa Ar z2 i4 z5 z6 htk (aJj _ _) hz hz rfl
theorem bFe{s:List UInt8}(hs:s.length≤65536) :
  (∀ a,itB (prF s) prA (cM s) = .ok a→aA Tp 0 (sub (cd Tryz.f15) [1,1,1,1,0,1,0]) (pL s) .normal (prS s a))∧(∀ e,itB (prF s) prA (cM s) = .error e→aA Tp 0 (sub (cd Tryz.f15) [1,1,1,1,0,1,0]) (pL s) .ret (prR s e)):=by
 refine zJ (k:=0) (kb:=13) (kk:=12) (gi:=26) (p1:=27) (p2:=28) (bx:=11) (g0:=⟨[],[12],[],[(105001,78),(110000,0)]⟩) s (by omega) (pL s) (prS s) (prR s) (pL s).t (prF s) prA
  (s2T 27 28 11 12) (Iv 27 28 11 12) (asg := .seq (aMf 6 27 11 9 "read.go:128") (aMf 7 28 12 4 "read.go:128")) (body := sub (cd Tryz.f15) [1, 1, 1, 1, 0, 1, 0, 1]) (by kernel_rfl) rfl rfl rfl (by show 12 ≤ 12; omega) ⟨(pL s).t, by kernel_rfl⟩ (fun _ => rfl) (fun _ => rfl)
  (fun a => .no (by rfl)) (fun e => .no (by rfl)) (fun a=>(eK (by rfl)).2) (fun e=>(eK (by rfl)).2) (eK (by rfl)).2 (fun a => ?_) (fun e => ?_) (fun a=>by show 13≤13;omega) (by kernel_rfl)
  (fun a x l K W h=>Mp a x l K W h) (fun a x C M W h=>bJf (fun _=>rfl) (fun _=>rfl) a x h) (fun _ _=>rfl) (fun pre x a hp hi=>aXz hs hp (by have:=zT pre [] prA a bFd hi;exact this))
 ·show (iC (a.R.map rwE).flatten && true)=true
  rw [pK];rfl
 ·show (iC (e.1.R.map rwE).flatten && true)=true
  rw [pK];rfl
theorem bFf(s:List UInt8){base:Nat}:FV Tp 15 [.p (aD s)] base (.tup [.p (.agg [aB (prM s).1,cD (prM s).2.1]),.p (aB (prM s).2.2.1),.p (aB (prM s).2.2.2.1),.p (aB (prM s).2.2.2.2)]) []:=by
 refine FV.frz ?_ (by rfl)
 unfold prM
 by_cases hs:65536<s.length
 ·rw [if_pos hs]
  exact FMM.wk (bVs (by omega)) rfl
 ·rw [if_neg hs]
  have hL:=bFe (s:=s) (by omega)
  cases hi:itB (prF s) prA (cM s) with
  | error e =>
   exact FMM.wk (bVv (by omega) (hL.2 e hi)) rfl
  | ok a =>
   have hok:=zT (cM s) [] prA a bFd hi;have hnr:a.nr≤65536:=by
    have h1:=hok.nr;rw [List.nil_append] at h1
    have:=rV _ s (Bj _);omega
   dsimp only
   by_cases hd:a.dn=true
   ·rw [if_pos hd]
    have:=bVu (s:=s) (by omega) (hL.1 a hi) hd
    rw [fO] at this
    exact this
   ·rw [if_neg hd]
    exact FMM.wk (bVt (by omega) (hL.1 a hi) (by simpa using hd) (aW (by omega)) rfl) rfl
end KV
end Go.Proofs
end
section
namespace Go.Proofs
open Go.RowKit Go.Maps
namespace KV
open Tryz
set_option maxRecDepth 1000000
abbrev k3V(a b c:Int):Value := .agg #[.int .i64 a,.int .i64 b,.int .i64 c]
theorem I5:Tryz.prog.underlying 186=some (.array 3 3):=by kernel_rfl
theorem u3:Tryz.prog.underlying 3=some (.int .i64):=by kernel_rfl
theorem H8:Tryz.prog.keyType 186=true:=by kernel_rfl
theorem Nh:Tryz.prog.cellsOf 186=3:=by kernel_rfl
theorem c3:Tryz.prog.cellsOf 3=1:=by kernel_rfl
theorem laid:laidOutB Tp=true:=by kernel_rfl
theorem tsz:Nat.ble (Tryz.prog.types.size+2) 10000=true:=by kernel_rfl
theorem Ki:Nat.ble 187 Tryz.prog.types.size=true:=by kernel_rfl
theorem D3:Keyed Tp 186:=Keyed.of_law (deep_law_gate laid (Nat.le_of_ble_eq_true tsz) (Nat.le_of_ble_eq_true Ki) H8 (by rw [I5]))
theorem Ni(a b c:Int):(k3V a b c).formed Tp 186=true:=by kernel_rfl
theorem Kj{d:Nat}{a:Int}(ha:(Lit.int .i64 a).wf=true):Tryz.prog.keyLits (d+1) 3 [.int .i64 a]=some [.int .i64 a]:=by
 rw [Program.keyLits]
 rotate_left
 ·exact .i64
 ·exact u3
 simp [ha]
theorem Hr{d:Nat}{a b c:Int}(ha:(Lit.int .i64 a).wf=true)(hb:(Lit.int .i64 b).wf=true)(hc:(Lit.int .i64 c).wf=true):Tryz.prog.keyLits (d+2) 186 [.int .i64 a,.int .i64 b,.int .i64 c]=some [.int .i64 a,.int .i64 b,.int .i64 c]:=by
 have h:∀ x∈[a,b,c],Tryz.prog.keyLits (d+1) 3 [.int .i64 x]=some [.int .i64 x]:=fun x hx=>by
  simp at hx
  rcases hx with rfl | rfl | rfl <;> exact Kj (by assumption)
 have h0:=h a (by simp)
 have h1:=h b (by simp)
 have h2:=h c (by simp)
 rw [Program.keyLits]
 rotate_left
 ·exact 3
 ·exact 3
 ·exact I5
 simp [Nh,c3,List.range_succ,h0,h1,h2]
theorem bVm{a b c:Int}(ha:(Lit.int .i64 a).wf=true)(hb:(Lit.int .i64 b).wf=true)(hc:(Lit.int .i64 c).wf=true):∃ l,keyOf Tp 186 (k3V a b c)=some l:=by
 obtain ⟨d,hd⟩:∃ d,Tryz.prog.types.size+1=d+2:=⟨Tryz.prog.types.size-1,by have:=Nat.le_of_ble_eq_true Ki;omega⟩
 unfold keyOf;rw [I5];simp only [H8,Ni,Bool.and_self,if_true,hd];have:(k3V a b c).cells.toList=[.int .i64 a,.int .i64 b,.int .i64 c]:=rfl;rw [this,Hr ha hb hc];exact ⟨_,rfl⟩
theorem I4{a:Int}(h : -1000000000≤a∧a≤1000000000):(Lit.int .i64 a).wf=true:=by
 have e1:IntKind.i64.min = -9223372036854775808:=rfl;have e2:IntKind.i64.max=9223372036854775807:=rfl;simp only [Lit.wf,e1,e2,B5,decide_eq_true_eq];omega
end KV
end Go.Proofs
end
namespace Go.Proofs
namespace KV
open Tryz
section
variable {k:Int}{i base:Nat}

noncomputable abbrev bFc:Code:=sub (cd Tryz.f149) [1,1,0,1,0,0]
theorem bVh{r:List Cel}(h0:(r.length:Int)=0):FMM Tp 150 [(.p (.sl r.length ((r.map cE).flatten)))] [] (.p bK) []:=FMM.fi 0 gE func150 [bT] (gc (dG h0) gn)
theorem bVi{r:List Cel}(h0:(r.length:Int)≠0)(h1:0≤(r.length:Int)∧(r.length:Int)≤(r.length:Int)∧(r.length:Int)≤1000000)(h2:((r.map cE).flatten).length=r.length*2∧r.length=r.length):FMM Tp 150 [(.p (.sl r.length ((r.map cE).flatten)))] [] (.p (.sl r.length ((r.map cE).flatten))) []:=FMM.fi 0 ⟨[],[],[0],[]⟩ func150 [bF] (gc h2 (gc h1 (gc (bI h0) gn)))
theorem bVj{r t:List Cel}(h0:(0:Int)<(r.length:Int)):FV Tp 106 [(.p (.agg [(.sl r.length ((r.map cE).flatten)),(.sl t.length ((t.map cE).flatten))]))] base (.p (.sl r.length ((r.map cE).flatten))) []:=FV.fi func106 [bT] (g0 h0)
theorem bVk{r t:List Cel}(h0:(r.length:Int)≤0):FV Tp 106 [(.p (.agg [(.sl r.length ((r.map cE).flatten)),(.sl t.length ((t.map cE).flatten))]))] base (.p (.sl t.length ((t.map cE).flatten))) []:=FV.fi func106 [bF] (gc (aO h0) gn)
abbrev iG(k:Int)(r:List Cel):Value:=k3V (aL k r 0) (aL k r 1) (aL k r 2)
def bN(k:Int)(L:List (List Cel)):List (Value × PV):=L.map fun r=>(iG k r,aM r)
def pJ(k:Int)(R:List (List Cel))(i:Nat)(me:List (Value × PV))(mk:Nat):St:=⟨fr 22 [(1,(.ptr 0 0)),(2,(.p (.v (.map none)))),(3,(.mp 1)),(8,(.p (.sl R.length (R.map aM)))),(9,(pI (R.length:Int))),(10,(pI (i:Int)))],[some (.box 26 [(pI k),(.p (.sl R.length (R.map aM)))]),some (.mp me mk)]⟩
theorem bVl{R:List (List Cel)}{Aq:Nat}{Cv:List (List Cel)}(Ay:aF Tp 0 bFc (pJ k R 0 [] 0) (.exit 0) (pJ k R Aq ((bN k) Cv) Cv.length)):FMM Tp 149 [(.p (.agg [(aB k),(.sl R.length (R.map aM))]))] [] (.mp 0) [some (.mp ((bN k) Cv) Cv.length)]:=FMM.fi 0 ⟨[],[1],[],[]⟩ func149 [Ay.k 8 (gI [0,1,4,4,11,10] [0,1])] (gc Ay.code gn)
theorem aXv{R m:List (List Cel)}{Ab:List Cel}{i':Nat}{m':List (List Cel)}(h0:(i:Int)<(R.length:Int))(h1:R[i]? = some Ab)(h2:aK k≤(Ab.length:Int))(h3:eG Tp 186 ((bN k) m) (k3V (aL k Ab 0) (aL k Ab 1) (aL k Ab 2)))(h4:(gL ((bN k) m) (k3V (aL k Ab 0) (aL k Ab 1) (aL k Ab 2)))=false)(h5:ce i)(Ai:i'=(i+1))(Eu:(bN k) m'=(((bN k) m)++[((k3V (aL k Ab 0) (aL k Ab 1) (aL k Ab 2)),(.sl Ab.length ((Ab.map cE).flatten)))]))(Ev:m'.length=(m.length+1)):aA Tp 0 bFc (pJ k R i ((bN k) m) m.length) .normal (pJ k R i' ((bN k) m') m'.length):=by
 subst Ai;have k1:=fk 2 (eC k Ab h2) rfl;rw [Eu,Ev];exact aA.fi (gI [0,1,4,4,11,10] [0,1]) [bT,.x (.sl Ab.length ((Ab.map cE).flatten)),k1.o,bF] (gc h5 (gc h4 (gc h3 (gc k1 (gc (atm aM h1) (gc (ixn aM h1) (g0 h0)))))))
theorem aXw{R m:List (List Cel)}(h0:(R.length:Int)≤(i:Int)):aA Tp 0 bFc (pJ k R i ((bN k) m) m.length) (.exit 0) (pJ k R i ((bN k) m) m.length):=aA.fi (gI [0,1,4,4,11,10] [0,1]) [bF] (gc (aO h0) gn)
end
end KV
end Go.Proofs
section
namespace Go.Proofs
open Go.RowKit Go.Maps
namespace KV
open Tryz
set_option maxRecDepth 1000000
theorem FMM.wkp{P:Program}{f:Nat}{args:List AV}{M M':Mem}{x:PV}(h:FMM P f args M (.p x) M'):FMM P f args M (.p (wkP x)) M':=fun C w us hus hM n=>by
 refine (h C w us hus hM n).mono ?_;rintro e w' ⟨u,rfl,C',hF,Ee,hr⟩;exact ⟨u,rfl,C',hF,Ee,aFn hr⟩
theorem cQ.wk{C:Cx}{M:Mem}{w:World}:∀ {args:List AV} {us:List Value},cQ C M w args us→cQ C M w (args.map Kh) us
 | [],_,h=>by cases h;exact .nil
 | x::l,_,h=>by
  cases h with
  | cons _ _ u us h1 h2=>exact .cons _ _ _ _ (aFn h1) h2.wk
theorem FV.argwk{P:Program}{f base:Nat}{args An:List AV}{y:AV}{L:Upd}(h:FV P f An base y L)(e:args.map Kh=An):FV P f args base y L:=by
 obtain ⟨r,M1,h1,h2⟩:=h;refine ⟨r,M1,fun C w us hus hM n => ?_,h2⟩
 subst e;exact h1 C w us hus.wk hM n
theorem aF.count{P:Program}{k:Nat}{b:Code}{e:Ex}{R:St}(N:Nat)(S:Nat→St)(hs:∀ i,i<N→aA P k b (S i) .normal (S (i+1)))(hx:aA P k b (S N) e R)(he:e ≠ .normal):aF P k b (S 0) e R:=by
 have key:∀ d i,i+d=N→aF P k b (S i) e R:=by
  intro d
  induction d with
  | zero =>
   intro i hi;obtain rfl:i=N:=by omega
   exact .exit hx he
  | succ d ih=>intro i hi;exact .step (hs i (by omega)) (ih (i+1) (by omega))
 exact key N 0 (by omega)

theorem pH(r:List Cel)(h:r.length≤1000000){base:Nat}:FV Tp 150 [.p (aM r)] base (.p (aM r)) []:=by
 refine FV.frz ?_ rfl
 by_cases h0:r.length=0
 ·have:r=[]:=sY h0
  subst this;exact FMM.wkp (bVh (r:=[]) (by simp))
 ·exact bVi (by omega) (by omega) ⟨bWm r,rfl⟩
def Az(k:Int)(r:List Cel):List Int:=[aL k r 0,aL k r 1,aL k r 2]
def jZ(k:Int)(r:List Cel):Prop:=∀ x∈Az k r,-1000000000≤x∧x≤1000000000
instance (k:Int) (r:List Cel):Decidable (jZ k r):=by unfold jZ;infer_instance
theorem kJ{k:Int}{r:List Cel}(h:jZ k r):∃ l,keyOf Tp 186 (iG k r)=some l :=
 bVm (I4 (h _ (by simp [Az]))) (I4 (h _ (by simp [Az]))) (I4 (h _ (by simp [Az])))
theorem aFl{k:Int}{r t:List Cel}(h:Az k r=Az k t):iG k r=iG k t:=by
 unfold Az at h
 simp only [List.cons.injEq,and_true] at h
 unfold iG;rw [h.1,h.2.1,h.2.2]
theorem tP{k:Int}{L:List (List Cel)}{r:List Cel}(hL:∀ x∈L,jZ k x)(hr:jZ k r)(hn:(L.map (Az k)).Nodup):eG Tp 186 (bN k L) (iG k r):=by
 refine ⟨D3,fun e he => ?_,kJ hr,fun e he h => ?_,?_⟩
 ·obtain ⟨x,hx,rfl⟩:=tB.1 he
  exact kJ (hL x hx)
 ·obtain ⟨x,hx,rfl⟩:=tB.1 he
  exact aFl h
 ·unfold bN
  rw [aAl];exact hn
theorem mP(k:Int)(L:List (List Cel))(r:List Cel):gL (bN k L) (iG k r)=L.any fun x=>decide (Az k x=Az k r):=by
 unfold gL bN;rw [List.any_map];rfl
def kA(k:Int)(L:List (List Cel))(r:List Cel):Option (List Cel):=L.find? fun x=>decide (Az k x=Az k r)
theorem qC(k:Int)(L:List (List Cel))(r:List Cel):gG (bN k L) (iG k r)=(kA k L r).map aM:=by
 unfold gG bN kA;rw [List.find?_map];have e:((fun e:Value × PV=>decide (jM e.1=jM (iG k r))) ∘ fun r=>(iG k r,aM r))=fun x=>decide (Az k x=Az k r):=rfl
 rw [e];cases List.find? (fun x=>decide (Az k x=Az k r)) L <;> rfl
theorem mQ{k:Int}{L:List (List Cel)}{r:List Cel}:(L.any fun x=>decide (Az k x=Az k r))=(kA k L r).isSome:=by
 unfold kA;rw [Bool.eq_iff_iff,List.find?_isSome,List.any_eq_true]
theorem aCw(k:Int)(L:List (List Cel))(r:List Cel):bN k (L++[r])=bN k L++[(iG k r,aM r)]:=by
 unfold bN;rw [uL];rfl
structure fP (k:Int) (R:List (List Cel)):Prop where
 n:R.length≤1000
 len:∀ x∈R,aK k≤(x.length:Int)∧x.length≤1000
 ky:∀ x∈R,jZ k x
 nd:(R.map (Az k)).Nodup
theorem aNf{k:Int}{R:List (List Cel)}(h:fP k R):FMM Tp 149 [.p (.agg [aB k,cD R])] [] (.mp 0) [some (.mp (bN k R) R.length)]:=by
 have hn:=h.n;have L:=aF.count (P:=Tp) (k:=0) (b:=(sub (cd Tryz.f149) bp)) (e := .exit 0) (R:=pJ k R R.length (bN k R) R.length) R.length (fun i=>pJ k R i (bN k (R.take i)) (R.take i).length)
  (fun i hi=>by
   have hx:R[i]? = some R[i]:=Ca hi;have et:R.take (i+1)=R.take i++[R[i]]:=by rw [List.take_add_one,hx];rfl
   have hm:=gP hi;have hnt:((R.take i).map (Az k)).Nodup:=by rw [List.map_take];exact h.nd.sublist (List.take_sublist i _)
   have hno:((R.take i).any fun x=>decide (Az k x=Az k R[i]))=false:=by
    rw [List.any_eq_false];intro y hy hd;obtain ⟨j,hj,e⟩:=List.mem_iff_getElem.1 hy;rw [uJ] at hj
    rw [List.getElem_take] at e
    have hd:=of_decide_eq_true hd;rw [← e] at hd
    have:=List.pairwise_iff_getElem.1 h.nd j i (by rw [oC];omega) (by rw [oC];omega) (by omega)
    rw [iA,iA] at this
    exact this hd
   exact aXv (m:=R.take i) (m':=R.take (i+1)) (by omega) hx (h.len _ hm).1 (tP (fun x hx=>h.ky x (List.mem_of_mem_take hx)) (h.ky _ hm) hnt) (by rw [mP];exact hno) (aW (by omega)) rfl (by rw [et];exact aCw k (R.take i) R[i]) (by simp;omega))
  (by rw [List.take_length];exact aXw (by omega)) (by simp)
 exact bVl L
end KV
end Go.Proofs
end
namespace Go.Proofs
namespace KV
open Tryz
section
variable {j k j' r0 G1:Int}{i i' Aq:Nat}

noncomputable abbrev wA:Code:=sub (cd Tryz.f242) [1,0,0,1,0,0,1,0,0]
noncomputable abbrev aCv:Code:=sub (cd Tryz.f242) [1,0,0]
noncomputable abbrev aQs:Code:=sub (cd Tryz.f266) [1,0,0,1,0,0,1,0,0]
theorem bEm:inR (1:Int):=by unfold inR;omega
section
variable{r t:List Cel}(h0:aK k≤(r.length:Int))(h1:aK k≤(t.length:Int))(Am:r0=(bW k r t))
include h0 h1 Am
theorem bYz{R:List (List Cel)}:FMM Tp 151 [(.p (.sl r.length ((r.map cE).flatten))),(.p (.sl t.length ((t.map cE).flatten))),(.ptr 0 0)] [some (.box 26 [(pI k),(.p (.sl R.length (R.map aM)))])] (pI r0) [some (.box 26 [(pI k),(.p (.sl R.length (R.map aM)))])]:=by
 subst Am;have k1:=fk 1 (lS k r t h0 h1) rfl;exact FMM.fi 1 gE func151 [k1.o] (gc k1 gn)
theorem bZa:FMM Tp 168 [(.p (.sl r.length ((r.map cE).flatten))),(.p (.sl t.length ((t.map cE).flatten))),(.ptr 0 0)] [some (.box 23 [(pI k)])] (pI r0) [some (.box 23 [(pI k)])]:=by
 subst Am;have k1:=fk 1 (lS k r t h0 h1) rfl;exact FMM.fi 1 gE func168 [k1.o] (gc k1 gn)
end
theorem bNa(r t:List Cel)(k:Int)(R:List (List Cel))(h1:aK k≤(r.length:Int))(h2:aK k≤(t.length:Int)):FMM Tp 151 [.p (.sl r.length ((r.map cE).flatten)),.p (.sl t.length ((t.map cE).flatten)),.ptr 0 0] [some (.box 26 [(pI k),(.p (.sl R.length (R.map aM)))])] (pI (bW k r t)) [some (.box 26 [(pI k),(.p (.sl R.length (R.map aM)))])]:=bYz h1 h2 rfl
theorem bNb(r t:List Cel)(k:Int)(h1:aK k≤(r.length:Int))(h2:aK k≤(t.length:Int)):FMM Tp 168 [.p (.sl r.length ((r.map cE).flatten)),.p (.sl t.length ((t.map cE).flatten)),.ptr 0 0] [some (.box 23 [(pI k)])] (pI (bW k r t)) [some (.box 23 [(pI k)])]:=bZa h1 h2 rfl
abbrev Chg:=List Cel × List Cel
def chE(c:Chg):List PV:=[aM c.1,aM c.2]
def crM(c:Chg):List Cel:=if 0<c.1.length then c.1 else c.2
theorem lX(r t:List Cel){base:Nat}:FV Tp 106 [.p (.agg [.sl r.length ((r.map cE).flatten),.sl t.length ((t.map cE).flatten)])] base (.p (.sl (crM (r,t)).length (((crM (r,t)).map cE).flatten))) []:=by
 unfold crM
 by_cases h:0<r.length
 ·rw [if_pos h];exact bVj (by omega)
 ·rw [if_neg h];exact bVk (by omega)
theorem bZb{b a d c:List Cel}(h0:aK k≤((crM (b,a)).length:Int))(h1:aK k≤((crM (d,c)).length:Int))(Am:r0=(bW k (crM (b,a)) (crM (d,c)))):FMM Tp 185 [(.p (.agg [(.sl b.length ((b.map cE).flatten)),(.sl a.length ((a.map cE).flatten))])),(.p (.agg [(.sl d.length ((d.map cE).flatten)),(.sl c.length ((c.map cE).flatten))])),(.ptr 0 0)] [some (.box 23 [(pI k)])] (pI r0) [some (.box 23 [(pI k)])]:=by
 subst Am;have k1:=fk 3 (lX b a) rfl;have k2:=fk 11 (lX d c) rfl;have k3:=fk 19 (lS k (crM (b,a)) (crM (d,c)) h0 h1) rfl;exact FMM.fi 1 gE func185 [k1.o,k2.o,k3.o] (gc k3 (gc k2 (gc k1 gn)))
theorem bNc(x y:Chg)(k:Int)(h1:aK k≤((crM x).length:Int))(h2:aK k≤((crM y).length:Int)):FMM Tp 185 [.p (.agg [aM x.1,aM x.2]),.p (.agg [aM y.1,aM y.2]),.ptr 0 0] [some (.box 23 [(pI k)])] (pI (bW k (crM x) (crM y))) [some (.box 23 [(pI k)])]:=bZb h1 h2 rfl
def wB(D:List (List Cel))(k:Int)(R:List (List Cel))(i En:Nat)(Ec:List PV):St:=⟨fr 53 [(0,(.own 0)),(1,(pI 0)),(2,(pI (D.length:Int))),(3,(.fn 151 [] [(.ptr 1 0)])),(8,(pI (i:Int)))],[some (.row 78 En Ec),some (.box 26 [(pI k),(.p (.sl R.length (R.map aM)))])]⟩
theorem bZc{D R E'1:List (List Cel)}(Ay:aF Tp 2 aCv (wB D k R 1 D.length ((D.map rwE).flatten)) (.exit 0) (wB D k R Aq E'1.length ((E'1.map rwE).flatten))):FMM Tp 242 [(.own 0),(pI 0),(pI (D.length:Int)),(.fn 151 [] [(.ptr 1 0)])] [some (.row 78 D.length ((D.map rwE).flatten)),some (.box 26 [(pI k),(.p (.sl R.length (R.map aM)))])] (.tup []) [some (.row 78 E'1.length ((E'1.map rwE).flatten)),some (.box 26 [(pI k),(.p (.sl R.length (R.map aM)))])]:=FMM.fi 2 gE func242 [Ay.k 3 (gZ c7)] (gc Ay.code (gc bEm gn))
def qV(D:List (List Cel))(k:Int)(R:List (List Cel))(i:Nat)(j:Int)(Gn:Nat)(Gc:List PV):St:=⟨fr 53 [(0,(.own 0)),(1,(pI 0)),(2,(pI (D.length:Int))),(3,(.fn 151 [] [(.ptr 1 0)])),(8,(pI (i:Int))),(9,(pI j)),(12,(pI (i:Int))),(13,(pI (D.length:Int))),(14,(pB (decide ((i:Int)<(D.length:Int))))),(17,(pI (i:Int)))],[some (.row 78 Gn Gc),some (.box 26 [(pI k),(.p (.sl R.length (R.map aM)))])]⟩
theorem bEn{D R E G'101 E':List (List Cel)}(h0:(i:Int)<(D.length:Int))(Ao:aF Tp 2 wA (qV D k R i (i:Int) E.length ((E.map rwE).flatten)) (.exit 2) (qV D k R i G1 G'101.length ((G'101.map rwE).flatten)))(h2:ce i)(Ai:i'=(i+1))(D5:E'.length=G'101.length)(D6:(E'.map rwE).flatten=((G'101.map rwE).flatten)):aA Tp 2 aCv (wB D k R i E.length ((E.map rwE).flatten)) .normal (wB D k R i' E'.length ((E'.map rwE).flatten)):=by
 subst Ai;rw [D5,D6];exact aA.fi (gZ c7) [bT,Ao.k 5 (gZ bg)] (gc h2 (gc Ao.code (g0 h0)))
theorem bEo{D R E:List (List Cel)}(h0:(D.length:Int)≤(i:Int)):aA Tp 2 aCv (wB D k R i E.length ((E.map rwE).flatten)) (.exit 0) (wB D k R i E.length ((E.map rwE).flatten)):=aA.fi (gZ c7) [bF] (gc (aO h0) gn)
section
variable{G:List (List Cel)}{A4 A0:List Cel}(h0:(0:Int)<j)(h1:0≤j∧j<(G.length:Int))(h2:G[j.toNat]? = some (A4))(h3:inR (j-1))(h4:0≤(j-1)∧(j-1)<(G.length:Int))(h5:G[(j-1).toNat]? = some (A0))(G2:aK k≤(A4.length:Int))(G3:aK k≤(A0.length:Int))
include h0 h1 h2 h3 h4 h5 G2 G3
theorem bEp{D R G':List (List Cel)}(h8:(bW k A4 A0)<0)(h9:(j.toNat*1)<((G.map rwE).flatten).length)(A5:((j-1).toNat*1)<(((G.map rwE).flatten).set (j.toNat*1) (.sl A0.length ((A0.map cE).flatten))).length)(Ci:j'=(j-1))(G4:G'.length=G.length)(G5:(G'.map rwE).flatten=((((G.map rwE).flatten).set (j.toNat*1) (.sl A0.length ((A0.map cE).flatten))).set ((j-1).toNat*1) (.sl A4.length ((A4.map cE).flatten)))):aA Tp 2 wA (qV D k R i j G.length ((G.map rwE).flatten)) .normal (qV D k R i j' G'.length ((G'.map rwE).flatten)):=by
 subst Ci;have k1:=mq [1] 2 (bNa A4 A0 k R G2 G3);rw [G4,G5];exact aA.fi (gZ bg) (rT 5++[.x (.sl A4.length ((A4.map cE).flatten))]++rT 5++[.x (.sl A0.length ((A0.map cE).flatten)),bT,k1.o,bT,bT,bT,.x (.sl A0.length ((A0.map cE).flatten)),.x (.sl A4.length ((A4.map cE).flatten))]) (gc h3 (gc A5 (gc h4 (gc h9 (gc h1 (gt (((G.map rwE).flatten)[(j.toNat*1)]? = some (.sl A4.length ((A4.map cE).flatten))) (aN (E:=rwE) (i:=j.toNat) (f:=0) (k:=1) (fun _=>rfl) h2 rfl) (gc h1 (gt (((G.map rwE).flatten)[((j-1).toNat*1)]? = some (.sl A0.length ((A0.map cE).flatten))) (aN (E:=rwE) (i:=(j-1).toNat) (f:=0) (k:=1) (fun _=>rfl) h5 rfl) (gc h4 (A1 h3 (gc (bX h8) (A1 (bX h0) (gc k1 (gc (bX h0) (gt (((G.map rwE).flatten)[((j-1).toNat*1)]? = some (.sl A0.length ((A0.map cE).flatten))) (aN (E:=rwE) (i:=(j-1).toNat) (f:=0) (k:=1) (fun _=>rfl) h5 rfl) (gc (bX h0) (gc h4 (gc (bX h0) (gc h3 (Au (bX h0) (gt (((G.map rwE).flatten)[(j.toNat*1)]? = some (.sl A4.length ((A4.map cE).flatten))) (aN (E:=rwE) (i:=j.toNat) (f:=0) (k:=1) (fun _=>rfl) h2 rfl) (gc (bX h0) (gc h1 (Au (bX h0) (g0 h0)))))))))))))))))))))))))
theorem bEq{D R:List (List Cel)}(h8:(0:Int)≤(bW k A4 A0)):aA Tp 2 wA (qV D k R i j G.length ((G.map rwE).flatten)) (.exit 2) (qV D k R i j G.length ((G.map rwE).flatten)):=have k1:=mq [1] 2 (bNa A4 A0 k R G2 G3);aA.fi (gZ bg) (rT 5++[.x (.sl A4.length ((A4.map cE).flatten))]++rT 5++[.x (.sl A0.length ((A0.map cE).flatten)),bT,k1.o,bT,bT,bF]) (gc (aO h8) (A1 (bX h0) (gc k1 (gc (bX h0) (gt (((G.map rwE).flatten)[((j-1).toNat*1)]? = some (.sl A0.length ((A0.map cE).flatten))) (aN (E:=rwE) (i:=(j-1).toNat) (f:=0) (k:=1) (fun _=>rfl) h5 rfl) (gc (bX h0) (gc h4 (gc (bX h0) (gc h3 (Au (bX h0) (gt (((G.map rwE).flatten)[(j.toNat*1)]? = some (.sl A4.length ((A4.map cE).flatten))) (aN (E:=rwE) (i:=j.toNat) (f:=0) (k:=1) (fun _=>rfl) h2 rfl) (gc (bX h0) (gc h1 (Au (bX h0) (g0 h0)))))))))))))))
end
theorem bEr{D R G:List (List Cel)}(h0:j≤0):aA Tp 2 wA (qV D k R i j G.length ((G.map rwE).flatten)) (.exit 2) (qV D k R i j G.length ((G.map rwE).flatten)):=aA.fi (gZ bg) (rF 13) (Hw (aO h0) (Cr (aO h0) gn))
def wC(D:List (List Cel))(k:Int)(i En:Nat)(Ec:List PV):St:=⟨fr 53 [(0,(.own 0)),(1,(pI 0)),(2,(pI (D.length:Int))),(3,(.fn 168 [] [(.ptr 1 0)])),(8,(pI (i:Int)))],[some (.row 78 En Ec),some (.box 23 [(pI k)])]⟩
theorem bZd{D E'1:List (List Cel)}(Ay:aF Tp 2 aCv (wC D k 1 D.length ((D.map rwE).flatten)) (.exit 0) (wC D k Aq E'1.length ((E'1.map rwE).flatten))):FMM Tp 242 [(.own 0),(pI 0),(pI (D.length:Int)),(.fn 168 [] [(.ptr 1 0)])] [some (.row 78 D.length ((D.map rwE).flatten)),some (.box 23 [(pI k)])] (.tup []) [some (.row 78 E'1.length ((E'1.map rwE).flatten)),some (.box 23 [(pI k)])]:=FMM.fi 2 gE func242 [Ay.k 3 (gZ c7)] (gc Ay.code (gc bEm gn))
def qW(D:List (List Cel))(k:Int)(i:Nat)(j:Int)(Gn:Nat)(Gc:List PV):St:=⟨fr 53 [(0,(.own 0)),(1,(pI 0)),(2,(pI (D.length:Int))),(3,(.fn 168 [] [(.ptr 1 0)])),(8,(pI (i:Int))),(9,(pI j)),(12,(pI (i:Int))),(13,(pI (D.length:Int))),(14,(pB (decide ((i:Int)<(D.length:Int))))),(17,(pI (i:Int)))],[some (.row 78 Gn Gc),some (.box 23 [(pI k)])]⟩
theorem bEs{D E G'101 E':List (List Cel)}(h0:(i:Int)<(D.length:Int))(Ao:aF Tp 2 wA (qW D k i (i:Int) E.length ((E.map rwE).flatten)) (.exit 2) (qW D k i G1 G'101.length ((G'101.map rwE).flatten)))(h2:ce i)(Ai:i'=(i+1))(D5:E'.length=G'101.length)(D6:(E'.map rwE).flatten=((G'101.map rwE).flatten)):aA Tp 2 aCv (wC D k i E.length ((E.map rwE).flatten)) .normal (wC D k i' E'.length ((E'.map rwE).flatten)):=by
 subst Ai;rw [D5,D6];exact aA.fi (gZ c7) [bT,Ao.k 5 (gZ bg)] (gc h2 (gc Ao.code (g0 h0)))
theorem bEt{D E:List (List Cel)}(h0:(D.length:Int)≤(i:Int)):aA Tp 2 aCv (wC D k i E.length ((E.map rwE).flatten)) (.exit 0) (wC D k i E.length ((E.map rwE).flatten)):=aA.fi (gZ c7) [bF] (gc (aO h0) gn)
section
variable{G:List (List Cel)}{A4 A0:List Cel}(h0:(0:Int)<j)(h1:0≤j∧j<(G.length:Int))(h2:G[j.toNat]? = some (A4))(h3:inR (j-1))(h4:0≤(j-1)∧(j-1)<(G.length:Int))(h5:G[(j-1).toNat]? = some (A0))(G2:aK k≤(A4.length:Int))(G3:aK k≤(A0.length:Int))
include h0 h1 h2 h3 h4 h5 G2 G3
theorem bEu{D G':List (List Cel)}(h8:(bW k A4 A0)<0)(h9:(j.toNat*1)<((G.map rwE).flatten).length)(A5:((j-1).toNat*1)<(((G.map rwE).flatten).set (j.toNat*1) (.sl A0.length ((A0.map cE).flatten))).length)(Ci:j'=(j-1))(G4:G'.length=G.length)(G5:(G'.map rwE).flatten=((((G.map rwE).flatten).set (j.toNat*1) (.sl A0.length ((A0.map cE).flatten))).set ((j-1).toNat*1) (.sl A4.length ((A4.map cE).flatten)))):aA Tp 2 wA (qW D k i j G.length ((G.map rwE).flatten)) .normal (qW D k i j' G'.length ((G'.map rwE).flatten)):=by
 subst Ci;have k1:=mq [1] 2 (bNb A4 A0 k G2 G3);rw [G4,G5];exact aA.fi (gZ bg) (rT 5++[.x (.sl A4.length ((A4.map cE).flatten))]++rT 5++[.x (.sl A0.length ((A0.map cE).flatten)),bT,k1.o,bT,bT,bT,.x (.sl A0.length ((A0.map cE).flatten)),.x (.sl A4.length ((A4.map cE).flatten))]) (gc h3 (gc A5 (gc h4 (gc h9 (gc h1 (gt (((G.map rwE).flatten)[(j.toNat*1)]? = some (.sl A4.length ((A4.map cE).flatten))) (aN (E:=rwE) (i:=j.toNat) (f:=0) (k:=1) (fun _=>rfl) h2 rfl) (gc h1 (gt (((G.map rwE).flatten)[((j-1).toNat*1)]? = some (.sl A0.length ((A0.map cE).flatten))) (aN (E:=rwE) (i:=(j-1).toNat) (f:=0) (k:=1) (fun _=>rfl) h5 rfl) (gc h4 (A1 h3 (gc (bX h8) (A1 (bX h0) (gc k1 (gc (bX h0) (gt (((G.map rwE).flatten)[((j-1).toNat*1)]? = some (.sl A0.length ((A0.map cE).flatten))) (aN (E:=rwE) (i:=(j-1).toNat) (f:=0) (k:=1) (fun _=>rfl) h5 rfl) (gc (bX h0) (gc h4 (gc (bX h0) (gc h3 (Au (bX h0) (gt (((G.map rwE).flatten)[(j.toNat*1)]? = some (.sl A4.length ((A4.map cE).flatten))) (aN (E:=rwE) (i:=j.toNat) (f:=0) (k:=1) (fun _=>rfl) h2 rfl) (gc (bX h0) (gc h1 (Au (bX h0) (g0 h0)))))))))))))))))))))))))
theorem bEv{D:List (List Cel)}(h8:(0:Int)≤(bW k A4 A0)):aA Tp 2 wA (qW D k i j G.length ((G.map rwE).flatten)) (.exit 2) (qW D k i j G.length ((G.map rwE).flatten)):=have k1:=mq [1] 2 (bNb A4 A0 k G2 G3);aA.fi (gZ bg) (rT 5++[.x (.sl A4.length ((A4.map cE).flatten))]++rT 5++[.x (.sl A0.length ((A0.map cE).flatten)),bT,k1.o,bT,bT,bF]) (gc (aO h8) (A1 (bX h0) (gc k1 (gc (bX h0) (gt (((G.map rwE).flatten)[((j-1).toNat*1)]? = some (.sl A0.length ((A0.map cE).flatten))) (aN (E:=rwE) (i:=(j-1).toNat) (f:=0) (k:=1) (fun _=>rfl) h5 rfl) (gc (bX h0) (gc h4 (gc (bX h0) (gc h3 (Au (bX h0) (gt (((G.map rwE).flatten)[(j.toNat*1)]? = some (.sl A4.length ((A4.map cE).flatten))) (aN (E:=rwE) (i:=j.toNat) (f:=0) (k:=1) (fun _=>rfl) h2 rfl) (gc (bX h0) (gc h1 (Au (bX h0) (g0 h0)))))))))))))))
end
theorem bEw{D G:List (List Cel)}(h0:j≤0):aA Tp 2 wA (qW D k i j G.length ((G.map rwE).flatten)) (.exit 2) (qW D k i j G.length ((G.map rwE).flatten)):=aA.fi (gZ bg) (rF 13) (Hw (aO h0) (Cr (aO h0) gn))
def wD(D:List (List Cel × List Cel))(k:Int)(i En:Nat)(Ec:List PV):St:=⟨fr 53 [(0,(.own 0)),(1,(pI 0)),(2,(pI (D.length:Int))),(3,(.fn 185 [] [(.ptr 1 0)])),(8,(pI (i:Int)))],[some (.row 112 En Ec),some (.box 23 [(pI k)])]⟩
theorem bZe{D E'1:List (List Cel × List Cel)}(Ay:aF Tp 2 (sub (cd Tryz.f266) [1,0,0]) (wD D k 1 D.length ((D.map chE).flatten)) (.exit 0) (wD D k Aq E'1.length ((E'1.map chE).flatten))):FMM Tp 266 [(.own 0),(pI 0),(pI (D.length:Int)),(.fn 185 [] [(.ptr 1 0)])] [some (.row 112 D.length ((D.map chE).flatten)),some (.box 23 [(pI k)])] (.tup []) [some (.row 112 E'1.length ((E'1.map chE).flatten)),some (.box 23 [(pI k)])]:=FMM.fi 2 gE func266 [Ay.k 3 (gZ c7)] (gc Ay.code (gc bEm gn))
def qX(D:List (List Cel × List Cel))(k:Int)(i:Nat)(j:Int)(Gn:Nat)(Gc:List PV):St:=⟨fr 53 [(0,(.own 0)),(1,(pI 0)),(2,(pI (D.length:Int))),(3,(.fn 185 [] [(.ptr 1 0)])),(8,(pI (i:Int))),(9,(pI j)),(12,(pI (i:Int))),(13,(pI (D.length:Int))),(14,(pB (decide ((i:Int)<(D.length:Int))))),(17,(pI (i:Int)))],[some (.row 112 Gn Gc),some (.box 23 [(pI k)])]⟩
theorem bEx{D E G'101 E':List (List Cel × List Cel)}(h0:(i:Int)<(D.length:Int))(Ao:aF Tp 2 aQs (qX D k i (i:Int) E.length ((E.map chE).flatten)) (.exit 2) (qX D k i G1 G'101.length ((G'101.map chE).flatten)))(h2:ce i)(Ai:i'=(i+1))(D5:E'.length=G'101.length)(D6:(E'.map chE).flatten=((G'101.map chE).flatten)):aA Tp 2 (sub (cd Tryz.f266) [1,0,0]) (wD D k i E.length ((E.map chE).flatten)) .normal (wD D k i' E'.length ((E'.map chE).flatten)):=by
 subst Ai;rw [D5,D6];exact aA.fi (gZ c7) [bT,Ao.k 5 (gZ bg)] (gc h2 (gc Ao.code (g0 h0)))
theorem bEy{D E:List (List Cel × List Cel)}(h0:(D.length:Int)≤(i:Int)):aA Tp 2 (sub (cd Tryz.f266) [1,0,0]) (wD D k i E.length ((E.map chE).flatten)) (.exit 0) (wD D k i E.length ((E.map chE).flatten)):=aA.fi (gZ c7) [bF] (gc (aO h0) gn)
section
variable{G:List (List Cel × List Cel)}{A2 A3 Be Bf:List Cel}(h0:(0:Int)<j)(h1:0≤j∧j<(G.length:Int))(h2:G[j.toNat]? = some (A2,A3))(h3:inR (j-1))(h4:0≤(j-1)∧(j-1)<(G.length:Int))(h5:G[(j-1).toNat]? = some (Be,Bf))(G2:aK k≤((crM (A2,A3)).length:Int))(G3:aK k≤((crM (Be,Bf)).length:Int))
include h0 h1 h2 h3 h4 h5 G2 G3
theorem bEz{D G':List (List Cel × List Cel)}(h8:(bW k (crM (A2,A3)) (crM (Be,Bf)))<0)(h9:[(PV.sl Be.length ((Be.map cE).flatten)),(.sl Bf.length ((Bf.map cE).flatten))].length=2∧(j.toNat*2)+2≤((G.map chE).flatten).length)(A5:[(PV.sl A2.length ((A2.map cE).flatten)),(.sl A3.length ((A3.map cE).flatten))].length=2∧((j-1).toNat*2)+2≤(((G.map chE).flatten).take (j.toNat*2)++[(PV.sl Be.length ((Be.map cE).flatten)),(.sl Bf.length ((Bf.map cE).flatten))]++((G.map chE).flatten).drop ((j.toNat*2)+2)).length)(Ci:j'=(j-1))(G4:G'.length=G.length)(G5:(G'.map chE).flatten=((((G.map chE).flatten).take (j.toNat*2)++[(PV.sl Be.length ((Be.map cE).flatten)),(.sl Bf.length ((Bf.map cE).flatten))]++((G.map chE).flatten).drop ((j.toNat*2)+2)).take ((j-1).toNat*2)++[(PV.sl A2.length ((A2.map cE).flatten)),(.sl A3.length ((A3.map cE).flatten))]++(((G.map chE).flatten).take (j.toNat*2)++[(PV.sl Be.length ((Be.map cE).flatten)),(.sl Bf.length ((Bf.map cE).flatten))]++((G.map chE).flatten).drop ((j.toNat*2)+2)).drop (((j-1).toNat*2)+2))):aA Tp 2 aQs (qX D k i j G.length ((G.map chE).flatten)) .normal (qX D k i j' G'.length ((G'.map chE).flatten)):=by
 subst Ci;have k1:=mq [1] 2 (bNc (A2,A3) (Be,Bf) k G2 G3);rw [G4,G5];exact aA.fi (gZ bg) (rT 5++[.x (.agg [(.sl A2.length ((A2.map cE).flatten)),(.sl A3.length ((A3.map cE).flatten))])]++rT 5++[.x (.agg [(.sl Be.length ((Be.map cE).flatten)),(.sl Bf.length ((Bf.map cE).flatten))]),bT,k1.o,bT,bT,bT,.x (.agg [(.sl Be.length ((Be.map cE).flatten)),(.sl Bf.length ((Bf.map cE).flatten))]),.x (.agg [(.sl A2.length ((A2.map cE).flatten)),(.sl A3.length ((A3.map cE).flatten))])]) (gc h3 (gc A5 (gc h4 (gc h9 (gc h1 (gc (bE (E:=chE) (i:=j.toNat) (k:=2) (fun _=>rfl) h2 rfl) (gc (bZ (E:=chE) (i:=j.toNat) (k:=2) (fun _=>rfl) h2) (gc h1 (gc (bE (E:=chE) (i:=(j-1).toNat) (k:=2) (fun _=>rfl) h5 rfl) (gc (bZ (E:=chE) (i:=(j-1).toNat) (k:=2) (fun _=>rfl) h5) (gc h4 (A1 h3 (gc (bX h8) (A1 (bX h0) (gc k1 (gc (bX h0) (gc (bE (E:=chE) (i:=(j-1).toNat) (k:=2) (fun _=>rfl) h5 rfl) (gc (bZ (E:=chE) (i:=(j-1).toNat) (k:=2) (fun _=>rfl) h5) (gc (bX h0) (gc h4 (gc (bX h0) (gc h3 (Au (bX h0) (gc (bE (E:=chE) (i:=j.toNat) (k:=2) (fun _=>rfl) h2 rfl) (gc (bZ (E:=chE) (i:=j.toNat) (k:=2) (fun _=>rfl) h2) (gc (bX h0) (gc h1 (Au (bX h0) (g0 h0)))))))))))))))))))))))))))))
theorem bFa{D:List (List Cel × List Cel)}(h8:(0:Int)≤(bW k (crM (A2,A3)) (crM (Be,Bf)))):aA Tp 2 aQs (qX D k i j G.length ((G.map chE).flatten)) (.exit 2) (qX D k i j G.length ((G.map chE).flatten)):=have k1:=mq [1] 2 (bNc (A2,A3) (Be,Bf) k G2 G3);aA.fi (gZ bg) (rT 5++[.x (.agg [(.sl A2.length ((A2.map cE).flatten)),(.sl A3.length ((A3.map cE).flatten))])]++rT 5++[.x (.agg [(.sl Be.length ((Be.map cE).flatten)),(.sl Bf.length ((Bf.map cE).flatten))]),bT,k1.o,bT,bT,bF]) (gc (aO h8) (A1 (bX h0) (gc k1 (gc (bX h0) (gc (bE (E:=chE) (i:=(j-1).toNat) (k:=2) (fun _=>rfl) h5 rfl) (gc (bZ (E:=chE) (i:=(j-1).toNat) (k:=2) (fun _=>rfl) h5) (gc (bX h0) (gc h4 (gc (bX h0) (gc h3 (Au (bX h0) (gc (bE (E:=chE) (i:=j.toNat) (k:=2) (fun _=>rfl) h2 rfl) (gc (bZ (E:=chE) (i:=j.toNat) (k:=2) (fun _=>rfl) h2) (gc (bX h0) (gc h1 (Au (bX h0) (g0 h0)))))))))))))))))
end
theorem bFb{D G:List (List Cel × List Cel)}(h0:j≤0):aA Tp 2 aQs (qX D k i j G.length ((G.map chE).flatten)) (.exit 2) (qX D k i j G.length ((G.map chE).flatten)):=aA.fi (gZ bg) (rF 13) (Hw (aO h0) (Cr (aO h0) gn))
end
section

def gA{α:Type}(c:α→α→Int):Nat→List α→List α
 | 0,D=>D
 | j+1,D=>match D[j+1]?,D[j]? with
  | some x,some y=>if c x y<0 then gA c j ((D.set (j+1) y).set j x) else D
  | _,_=>D
def zS{α:Type}(c:α→α→Int):Nat→Nat→List α→List α
 | 0,_,D=>D
 | n+1,i,D=>zS c n (i+1) (gA c i D)
def isG{α:Type}(c:α→α→Int)(D:List α):List α:=zS c (D.length-1) 1 D
theorem qA{α:Type}(c:α→α→Int):∀ (j:Nat) (D:List α),(gA c j D).length=D.length
 | 0,D=>rfl
 | j+1,D=>by
  unfold gA
  split
  ·split
   ·rw [qA c j];simp
   ·rfl
  ·rfl
theorem qB{α:Type}(c:α→α→Int){z:α}:∀ (j:Nat) (D:List α),z∈gA c j D→z∈D
 | 0,D,h=>h
 | j+1,D,h=>by
  unfold gA at h
  split at h
  ·rename_i x y hx hy
   split at h
   ·have h1:=qB c j _ h
    rcases List.mem_or_eq_of_mem_set h1 with h2 | rfl
    ·rcases List.mem_or_eq_of_mem_set h2 with h3 | rfl
     ·exact h3
     ·exact Cn hy
    ·exact Cn hx
   ·exact h
  ·exact h
theorem bLl{α:Type}{E:α→List PV}{k:Nat}(hE:∀ a,(E a).length=k){l:List α}{i:Nat}(hi:i<l.length)(e:α):((l.set i e).map E).flatten=((l.map E).flatten).take (i*k)++E e++((l.map E).flatten).drop (i*k+k):=by
 have h1:l.set i e=l.take i++e::l.drop (i+1):=by rw [List.set_eq_take_append_cons_drop,if_pos hi]
 have h2:l=l.take i++l[i]::l.drop (i+1):=by rw [← List.drop_eq_getElem_cons hi,bBv]
 have hlen:((l.take i).map E).flatten.length=i*k:=by rw [pZ hE,uJ];congr 1;omega
 have h3:(l.map E).flatten=((l.take i).map E).flatten++(E l[i]++((l.drop (i+1)).map E).flatten):=by
  have e2:=congrArg (fun l=>(l.map E).flatten) h2
  simp only [uL,jP,bHo,uI] at e2
  exact e2
 rw [h1,h3,← hlen,List.take_left,uL,jP,bHo,uI];have hd:(((l.take i).map E).flatten++(E l[i]++((l.drop (i+1)).map E).flatten)).drop (((l.take i).map E).flatten.length+k)=((l.drop (i+1)).map E).flatten:=by
  rw [← hE l[i],← gM,← List.append_assoc,List.drop_left]
 rw [hd,List.append_assoc]
def gQ(k:Int)(x y:Chg):Int:=bW k (crM x) (crM y)
theorem bMx{D:List (List Cel)}{k:Int}{R:List (List Cel)}{i:Nat}:∀ (j:Nat) (G:List (List Cel)),j<G.length→G.length≤12→(∀ x∈G,aK k≤(x.length:Int))→∃ j',aF Tp 2 (sub (cd Tryz.f242) b8) (qV D k R i (j:Int) G.length ((G.map rwE).flatten)) (.exit 2) (qV D k R i j' (gA (bW k) j G).length (((gA (bW k) j G).map rwE).flatten))
 | 0,G,hj,hg,hk=>⟨_,.exit (bEr (by omega)) (by simp)⟩
 | j+1,G,hj,hg,hk=>by
  have hx:G[j+1]? = some G[j+1]:=Ca hj;have hy:G[j]? = some (G[j]'(by omega)):=Ca (by omega)
  have kx:=hk _ (gP hj);have ky:=hk _ (gP (show j<G.length by omega))
  have z1:(0:Int)<((j+1:Nat):Int):=by omega
  have z2:0≤((j+1:Nat):Int)∧((j+1:Nat):Int)<(G.length:Int):=by omega
  have z3:inR (((j+1:Nat):Int)-(1:Int)):=by unfold inR;omega
  have z4:0≤(((j+1:Nat):Int)-(1:Int))∧(((j+1:Nat):Int)-(1:Int))<(G.length:Int):=by omega
  have e1:((j+1:Nat):Int).toNat=j+1:=by omega
  have e2:(((j+1:Nat):Int)-(1:Int)).toNat=j:=by omega
  have e3:(((j+1:Nat):Int)-(1:Int))=(j:Int):=by omega
  generalize G[j+1]=x at hx kx
  generalize G[j]'(by omega)=y at hy ky
  unfold gA;rw [hx,hy];dsimp only
  by_cases hc:bW k x y<0
  ·rw [if_pos hc]
   obtain ⟨j',L⟩:=bMx (D:=D) (k:=k) (R:=R) (i:=i) j ((G.set (j+1) y).set j x) (by simp;omega) (by simp;omega) (fun z hz=>by
    rcases List.mem_or_eq_of_mem_set hz with h2 | rfl
    ·rcases List.mem_or_eq_of_mem_set h2 with h3 | rfl
     ·exact hk z h3
     ·exact ky
    ·exact kx)
   refine ⟨j',.step (bEp z1 z2 (by rw [e1];exact hx) z3 z4 (by rw [e2];exact hy) kx ky hc (by rw [e1,fO];simp;omega) (by rw [e1,e2,fO];simp;omega) e3.symm (by simp) ?_) L⟩
   rw [e1,e2];rw [fO,fO,List.map_set,List.map_set,Nat.mul_one,Nat.mul_one];rfl
  ·rw [if_neg hc]
   exact ⟨_,.exit (bEq z1 z2 (by rw [e1];exact hx) z3 z4 (by rw [e2];exact hy) kx ky (Int.not_lt.1 hc)) (by simp)⟩
theorem bEi{D:List (List Cel)}{k:Int}{R:List (List Cel)}(Bc:D.length≤12):∀ (n i:Nat) (E:List (List Cel)),i+n=D.length→E.length=D.length→(∀ x∈E,aK k≤(x.length:Int))→aF Tp 2 (sub (cd Tryz.f242) [1,0,0]) (wB D k R i E.length ((E.map rwE).flatten)) (.exit 0) (wB D k R D.length (zS (bW k) n i E).length (((zS (bW k) n i E).map rwE).flatten))
 | 0,i,E,hi,hl,hk=>by
  have:i=D.length:=by omega
  subst this;exact .exit (bEo (by omega)) (by simp)
 | n+1,i,E,hi,hl,hk=>by
  obtain ⟨j',L⟩:=bMx (D:=D) (k:=k) (R:=R) (i:=i) i E (by omega) (by omega) hk
  have h1:=qA (bW k) i E;unfold zS;exact .step (bEn (G'101:=gA (bW k) i E) (E':=gA (bW k) i E) (by omega) L (aW (by omega)) rfl rfl rfl) (bEi Bc n (i+1) _ (by omega) (by omega) (fun x hx=>hk x (qB _ _ _ hx)))
theorem bYw{D:List (List Cel)}{k:Int}{R:List (List Cel)}(Bc:D.length≤12)(h1:1≤D.length)(hk:∀ x∈D,aK k≤(x.length:Int)):FMM Tp 242 [.own 0,.p (aB 0),.p (aB (D.length:Nat)),.fn 151 [] [.ptr 1 0]] [some (.row 78 D.length ((D.map rwE).flatten)),some (.box 26 [(.p (aB k)),(.p (.sl R.length (R.map aM)))])] (.tup []) [some (.row 78 ((isG (bW k) D).length) (((isG (bW k) D).map rwE).flatten)),some (.box 26 [(.p (aB k)),(.p (.sl R.length (R.map aM)))])]:=by
 exact bZc (E'1:=isG (bW k) D) (bEi (k:=k) (R:=R) Bc (D.length-1) 1 D (by omega) rfl hk)
theorem bMy{D:List (List Cel)}{k:Int}{i:Nat}:∀ (j:Nat) (G:List (List Cel)),j<G.length→G.length≤12→(∀ x∈G,aK k≤(x.length:Int))→∃ j',aF Tp 2 (sub (cd Tryz.f242) b8) (qW D k i (j:Int) G.length ((G.map rwE).flatten)) (.exit 2) (qW D k i j' (gA (bW k) j G).length (((gA (bW k) j G).map rwE).flatten))
 | 0,G,hj,hg,hk=>⟨_,.exit (bEw (by omega)) (by simp)⟩
 | j+1,G,hj,hg,hk=>by
  have hx:G[j+1]? = some G[j+1]:=Ca hj;have hy:G[j]? = some (G[j]'(by omega)):=Ca (by omega)
  have kx:=hk _ (gP hj);have ky:=hk _ (gP (show j<G.length by omega))
  have z1:(0:Int)<((j+1:Nat):Int):=by omega
  have z2:0≤((j+1:Nat):Int)∧((j+1:Nat):Int)<(G.length:Int):=by omega
  have z3:inR (((j+1:Nat):Int)-(1:Int)):=by unfold inR;omega
  have z4:0≤(((j+1:Nat):Int)-(1:Int))∧(((j+1:Nat):Int)-(1:Int))<(G.length:Int):=by omega
  have e1:((j+1:Nat):Int).toNat=j+1:=by omega
  have e2:(((j+1:Nat):Int)-(1:Int)).toNat=j:=by omega
  have e3:(((j+1:Nat):Int)-(1:Int))=(j:Int):=by omega
  generalize G[j+1]=x at hx kx
  generalize G[j]'(by omega)=y at hy ky
  unfold gA;rw [hx,hy];dsimp only
  by_cases hc:bW k x y<0
  ·rw [if_pos hc]
   obtain ⟨j',L⟩:=bMy (D:=D) (k:=k) (i:=i) j ((G.set (j+1) y).set j x) (by simp;omega) (by simp;omega) (fun z hz=>by
    rcases List.mem_or_eq_of_mem_set hz with h2 | rfl
    ·rcases List.mem_or_eq_of_mem_set h2 with h3 | rfl
     ·exact hk z h3
     ·exact ky
    ·exact kx)
   refine ⟨j',.step (bEu z1 z2 (by rw [e1];exact hx) z3 z4 (by rw [e2];exact hy) kx ky hc (by rw [e1,fO];simp;omega) (by rw [e1,e2,fO];simp;omega) e3.symm (by simp) ?_) L⟩
   rw [e1,e2];rw [fO,fO,List.map_set,List.map_set,Nat.mul_one,Nat.mul_one];rfl
  ·rw [if_neg hc]
   exact ⟨_,.exit (bEv z1 z2 (by rw [e1];exact hx) z3 z4 (by rw [e2];exact hy) kx ky (Int.not_lt.1 hc)) (by simp)⟩
theorem bEj{D:List (List Cel)}{k:Int}(Bc:D.length≤12):∀ (n i:Nat) (E:List (List Cel)),i+n=D.length→E.length=D.length→(∀ x∈E,aK k≤(x.length:Int))→aF Tp 2 (sub (cd Tryz.f242) [1,0,0]) (wC D k i E.length ((E.map rwE).flatten)) (.exit 0) (wC D k D.length (zS (bW k) n i E).length (((zS (bW k) n i E).map rwE).flatten))
 | 0,i,E,hi,hl,hk=>by
  have:i=D.length:=by omega
  subst this;exact .exit (bEt (by omega)) (by simp)
 | n+1,i,E,hi,hl,hk=>by
  obtain ⟨j',L⟩:=bMy (D:=D) (k:=k) (i:=i) i E (by omega) (by omega) hk
  have h1:=qA (bW k) i E;unfold zS;exact .step (bEs (G'101:=gA (bW k) i E) (E':=gA (bW k) i E) (by omega) L (aW (by omega)) rfl rfl rfl) (bEj Bc n (i+1) _ (by omega) (by omega) (fun x hx=>hk x (qB _ _ _ hx)))
theorem bYx{D:List (List Cel)}{k:Int}(Bc:D.length≤12)(h1:1≤D.length)(hk:∀ x∈D,aK k≤(x.length:Int)):FMM Tp 242 [.own 0,.p (aB 0),.p (aB (D.length:Nat)),.fn 168 [] [.ptr 1 0]] [some (.row 78 D.length ((D.map rwE).flatten)),some (.box 23 [(.p (aB k))])] (.tup []) [some (.row 78 ((isG (bW k) D).length) (((isG (bW k) D).map rwE).flatten)),some (.box 23 [(.p (aB k))])]:=by
 exact bZd (E'1:=isG (bW k) D) (bEj (k:=k) Bc (D.length-1) 1 D (by omega) rfl hk)
theorem aFk{G:List Chg}{j:Nat}(y:Chg)(hj:j<G.length):((G.set j y).map chE).flatten=(G.map chE).flatten.take (j*2)++[aM y.1,aM y.2]++(G.map chE).flatten.drop (j*2+2):=bLl (E:=chE) (k:=2) (fun _=>rfl) hj y
theorem bVg{G:List Chg}{j:Nat}{y:Chg}(hj:j+1<G.length):j*2+2≤((G.map chE).flatten.take ((j+1)*2)++[aM y.1,aM y.2]++(G.map chE).flatten.drop ((j+1)*2+2)).length:=by
 rw [← aFk y hj,pZ (E:=chE) (k:=2) (fun _=>rfl),aLt];omega
theorem bEk{G:List Chg}{j:Nat}{x y:Chg}(hj:j+1<G.length):(((G.set (j+1) y).set j x).map chE).flatten=((G.map chE).flatten.take ((j+1)*2)++[aM y.1,aM y.2]++(G.map chE).flatten.drop ((j+1)*2+2)).take (j*2)++[aM x.1,aM x.2]++((G.map chE).flatten.take ((j+1)*2)++[aM y.1,aM y.2]++(G.map chE).flatten.drop ((j+1)*2+2)).drop (j*2+2):=by
 rw [← aFk y hj,aFk x (by simp;omega)]
theorem bMz{D:List Chg}{k:Int}{i:Nat}:∀ (j:Nat) (G:List Chg),j<G.length→G.length≤12→(∀ x∈G,aK k≤((crM x).length:Int))→∃ j',aF Tp 2 (sub (cd Tryz.f266) b8) (qX D k i (j:Int) G.length ((G.map chE).flatten)) (.exit 2) (qX D k i j' (gA (gQ k) j G).length (((gA (gQ k) j G).map chE).flatten))
 | 0,G,hj,hg,hk=>⟨_,.exit (bFb (by omega)) (by simp)⟩
 | j+1,G,hj,hg,hk=>by
  have hx:G[j+1]? = some G[j+1]:=Ca hj;have hy:G[j]? = some (G[j]'(by omega)):=Ca (by omega)
  have kx:=hk _ (gP hj);have ky:=hk _ (gP (show j<G.length by omega))
  have z1:(0:Int)<((j+1:Nat):Int):=by omega
  have z2:0≤((j+1:Nat):Int)∧((j+1:Nat):Int)<(G.length:Int):=by omega
  have z3:inR (((j+1:Nat):Int)-(1:Int)):=by unfold inR;omega
  have z4:0≤(((j+1:Nat):Int)-(1:Int))∧(((j+1:Nat):Int)-(1:Int))<(G.length:Int):=by omega
  have e1:((j+1:Nat):Int).toNat=j+1:=by omega
  have e2:(((j+1:Nat):Int)-(1:Int)).toNat=j:=by omega
  have e3:(((j+1:Nat):Int)-(1:Int))=(j:Int):=by omega
  generalize G[j+1]=x at hx kx
  generalize G[j]'(by omega)=y at hy ky
  unfold gA;rw [hx,hy];dsimp only;obtain ⟨xb,xa⟩:=x;obtain ⟨yb,ya⟩:=y
  by_cases hc:gQ k (xb,xa) (yb,ya)<0
  ·rw [if_pos hc]
   obtain ⟨j',L⟩:=bMz (D:=D) (k:=k) (i:=i) j ((G.set (j+1) (yb,ya)).set j (xb,xa)) (by simp;omega) (by simp;omega) (fun z hz=>by
    rcases List.mem_or_eq_of_mem_set hz with h2 | rfl
    ·rcases List.mem_or_eq_of_mem_set h2 with h3 | rfl
     ·exact hk z h3
     ·exact ky
    ·exact kx)
   refine ⟨j',.step (bEz z1 z2 (by rw [e1];exact hx) z3 z4 (by rw [e2];exact hy) kx ky hc ⟨rfl,by rw [e1,pZ (E:=chE) (k:=2) (fun _=>rfl)];omega⟩ ⟨rfl,by rw [e1,e2];exact bVg (y:=(yb,ya)) hj⟩ e3.symm (by simp) ?_) L⟩
   rw [e1,e2];exact bEk (x:=(xb,xa)) (y:=(yb,ya)) hj
  ·rw [if_neg hc]
   exact ⟨_,.exit (bFa z1 z2 (by rw [e1];exact hx) z3 z4 (by rw [e2];exact hy) kx ky (Int.not_lt.1 hc)) (by simp)⟩
theorem bEl{D:List Chg}{k:Int}(Bc:D.length≤12):∀ (n i:Nat) (E:List Chg),i+n=D.length→E.length=D.length→(∀ x∈E,aK k≤((crM x).length:Int))→aF Tp 2 (sub (cd Tryz.f266) [1,0,0]) (wD D k i E.length ((E.map chE).flatten)) (.exit 0) (wD D k D.length (zS (gQ k) n i E).length (((zS (gQ k) n i E).map chE).flatten))
 | 0,i,E,hi,hl,hk=>by
  have:i=D.length:=by omega
  subst this;exact .exit (bEy (by omega)) (by simp)
 | n+1,i,E,hi,hl,hk=>by
  obtain ⟨j',L⟩:=bMz (D:=D) (k:=k) (i:=i) i E (by omega) (by omega) hk
  have h1:=qA (gQ k) i E;unfold zS;exact .step (bEx (G'101:=gA (gQ k) i E) (E':=gA (gQ k) i E) (by omega) L (aW (by omega)) rfl rfl rfl) (bEl Bc n (i+1) _ (by omega) (by omega) (fun x hx=>hk x (qB _ _ _ hx)))
theorem bYy{D:List Chg}{k:Int}(Bc:D.length≤12)(h1:1≤D.length)(hk:∀ x∈D,aK k≤((crM x).length:Int)):FMM Tp 266 [.own 0,.p (aB 0),.p (aB (D.length:Nat)),.fn 185 [] [.ptr 1 0]] [some (.row 112 D.length ((D.map chE).flatten)),some (.box 23 [(.p (aB k))])] (.tup []) [some (.row 112 ((isG (gQ k) D).length) (((isG (gQ k) D).map chE).flatten)),some (.box 23 [(.p (aB k))])]:=by
 exact bZe (E'1:=isG (gQ k) D) (bEl (k:=k) Bc (D.length-1) 1 D (by omega) rfl hk)
end
section
variable {k l:Int}

noncomputable abbrev aQr:Code:=sub (cd Tryz.f200) [1,1,0,0]
theorem bUr{D:List (List Cel)}{k:Int}{R:List (List Cel)}{n:Int}(hn:n=(D.length:Int))(Bc:D.length≤12)(h1:1≤D.length)(hk:∀ x∈D,aK k≤(x.length:Int)):FMM Tp 242 [.own 0,.p (aB 0),.p (aB n),.fn 151 [] [.ptr 1 0]] [some (.row 78 D.length ((D.map rwE).flatten)),some (.box 26 [(pI k),(.p (.sl R.length (R.map aM)))])] (.tup []) [some (.row 78 ((isG (bW k) D).length) (((isG (bW k) D).map rwE).flatten)),some (.box 26 [(pI k),(.p (.sl R.length (R.map aM)))])]:=by
 subst hn;exact bYw Bc h1 hk
theorem bUs{D:List (List Cel)}{k n:Int}(hn:n=(D.length:Int))(Bc:D.length≤12)(h1:1≤D.length)(hk:∀ x∈D,aK k≤(x.length:Int)):FMM Tp 242 [.own 0,.p (aB 0),.p (aB n),.fn 168 [] [.ptr 1 0]] [some (.row 78 D.length ((D.map rwE).flatten)),some (.box 23 [(pI k)])] (.tup []) [some (.row 78 ((isG (bW k) D).length) (((isG (bW k) D).map rwE).flatten)),some (.box 23 [(pI k)])]:=by
 subst hn;exact bYx Bc h1 hk
theorem bUt{D:List (List Cel × List Cel)}{k n:Int}(hn:n=(D.length:Int))(Bc:D.length≤12)(h1:1≤D.length)(hk:∀ x∈D,aK k≤((crM x).length:Int)):FMM Tp 266 [.own 0,.p (aB 0),.p (aB n),.fn 185 [] [.ptr 1 0]] [some (.row 112 D.length ((D.map chE).flatten)),some (.box 23 [(pI k)])] (.tup []) [some (.row 112 ((isG (gQ k) D).length) (((isG (gQ k) D).map chE).flatten)),some (.box 23 [(pI k)])]:=by
 subst hn;exact bYy Bc h1 hk
theorem aFg(x:Int)(h:0≤x∧x≤12){base:Nat}:FV Tp 201 [.p (.v (.int .u64 x))] base (pI ((Lib.bitLen x.toNat:Nat):Int)) []:=FV.ofc rfl fun C w us hus hM=>by
 obtain rfl:=Ib rfl hus;refine (Tryz.bits_Len x w h.1 (by omega)).mono ?_
 rintro e w' ⟨rfl,rfl⟩;exact ⟨_,rfl,⟨rfl,rfl,rfl,Bj _,fun _ _=>rfl⟩,.p _ _ (.v _)⟩
theorem Fy{n:Nat}(h:n≤12):0≤IntKind.wrap .u64 (n:Int)∧IntKind.wrap .u64 (n:Int)≤12:=by
 have:IntKind.u64.wrap (n:Int)=n:=by simp [IntKind.wrap,IntKind.bits,IntKind.signed];omega
 rw [this];omega
def aFh(D:List (List Cel))(k:Int)(R:List (List Cel))(l:Int)(En:Nat)(Ec:List PV):St:=⟨fr 148 [(0,(.own 0)),(1,(pI 0)),(2,(pI (D.length:Int))),(3,(pI l)),(4,(.fn 151 [] [(.ptr 1 0)]))],[some (.row 78 En Ec),some (.box 26 [(pI k),(.p (.sl R.length (R.map aM)))])]⟩
theorem bUu{D R E'0:List (List Cel)}(Ay:aF Tp 2 aQr (aFh D k R l D.length ((D.map rwE).flatten)) .ret (aFh D k R l E'0.length ((E'0.map rwE).flatten))):FMM Tp 200 [(.own 0),(pI 0),(pI (D.length:Int)),(pI l),(.fn 151 [] [(.ptr 1 0)])] [some (.row 78 D.length ((D.map rwE).flatten)),some (.box 26 [(pI k),(.p (.sl R.length (R.map aM)))])] (.tup []) [some (.row 78 E'0.length ((E'0.map rwE).flatten)),some (.box 26 [(pI k),(.p (.sl R.length (R.map aM)))])]:=FMM.fi 2 gE func200 [Ay.k 5 (gZ [5,143])] (gc Ay.code gn)
theorem aXs{D R E E':List (List Cel)}(h0:inR ((D.length:Int)-0))(h1:((D.length:Int)-0)≤12)(Df:E.length≤12)(Fg:1≤E.length)(Il:∀ x∈E,aK k≤(x.length:Int))(Hk:(D.length:Int)=(E.length:Int))(D5:E'.length=(isG (bW k) E).length)(D6:(E'.map rwE).flatten=(((isG (bW k) E).map rwE).flatten)):aA Tp 2 aQr (aFh D k R l E.length ((E.map rwE).flatten)) .ret (aFh D k R l E'.length ((E'.map rwE).flatten)):=by
 have k1:=mq [0,1] 2 (bUr (D:=E) (k:=k) (R:=R) Hk Df Fg Il);rw [D5,D6];exact aA.fi (gZ [5,143]) [bT,k1.o] (gc k1 (gc (kT h1) (gc h0 gn)))
def aFi(D:List (List Cel))(k l:Int)(En:Nat)(Ec:List PV):St:=⟨fr 148 [(0,(.own 0)),(1,(pI 0)),(2,(pI (D.length:Int))),(3,(pI l)),(4,(.fn 168 [] [(.ptr 1 0)]))],[some (.row 78 En Ec),some (.box 23 [(pI k)])]⟩
theorem bUv{D E'0:List (List Cel)}(Ay:aF Tp 2 aQr (aFi D k l D.length ((D.map rwE).flatten)) .ret (aFi D k l E'0.length ((E'0.map rwE).flatten))):FMM Tp 200 [(.own 0),(pI 0),(pI (D.length:Int)),(pI l),(.fn 168 [] [(.ptr 1 0)])] [some (.row 78 D.length ((D.map rwE).flatten)),some (.box 23 [(pI k)])] (.tup []) [some (.row 78 E'0.length ((E'0.map rwE).flatten)),some (.box 23 [(pI k)])]:=FMM.fi 2 gE func200 [Ay.k 5 (gZ [5,143])] (gc Ay.code gn)
theorem aXt{D E E':List (List Cel)}(h0:inR ((D.length:Int)-0))(h1:((D.length:Int)-0)≤12)(Df:E.length≤12)(Fg:1≤E.length)(Il:∀ x∈E,aK k≤(x.length:Int))(Hk:(D.length:Int)=(E.length:Int))(D5:E'.length=(isG (bW k) E).length)(D6:(E'.map rwE).flatten=(((isG (bW k) E).map rwE).flatten)):aA Tp 2 aQr (aFi D k l E.length ((E.map rwE).flatten)) .ret (aFi D k l E'.length ((E'.map rwE).flatten)):=by
 have k1:=mq [0,1] 2 (bUs (D:=E) (k:=k) Hk Df Fg Il);rw [D5,D6];exact aA.fi (gZ [5,143]) [bT,k1.o] (gc k1 (gc (kT h1) (gc h0 gn)))
def aFj(D:List (List Cel × List Cel))(k l:Int)(En:Nat)(Ec:List PV):St:=⟨fr 148 [(0,(.own 0)),(1,(pI 0)),(2,(pI (D.length:Int))),(3,(pI l)),(4,(.fn 185 [] [(.ptr 1 0)]))],[some (.row 112 En Ec),some (.box 23 [(pI k)])]⟩
theorem bUw{D E'0:List (List Cel × List Cel)}(Ay:aF Tp 2 (sub (cd Tryz.f222) [1,1,0,0]) (aFj D k l D.length ((D.map chE).flatten)) .ret (aFj D k l E'0.length ((E'0.map chE).flatten))):FMM Tp 222 [(.own 0),(pI 0),(pI (D.length:Int)),(pI l),(.fn 185 [] [(.ptr 1 0)])] [some (.row 112 D.length ((D.map chE).flatten)),some (.box 23 [(pI k)])] (.tup []) [some (.row 112 E'0.length ((E'0.map chE).flatten)),some (.box 23 [(pI k)])]:=FMM.fi 2 gE func222 [Ay.k 5 (gZ [5,143])] (gc Ay.code gn)
theorem aXu{D E E':List (List Cel × List Cel)}(h0:inR ((D.length:Int)-0))(h1:((D.length:Int)-0)≤12)(Df:E.length≤12)(Fg:1≤E.length)(Il:∀ x∈E,aK k≤((crM x).length:Int))(Hk:(D.length:Int)=(E.length:Int))(D5:E'.length=(isG (gQ k) E).length)(D6:(E'.map chE).flatten=(((isG (gQ k) E).map chE).flatten)):aA Tp 2 (sub (cd Tryz.f222) [1,1,0,0]) (aFj D k l E.length ((E.map chE).flatten)) .ret (aFj D k l E'.length ((E'.map chE).flatten)):=by
 have k1:=mq [0,1] 2 (bUt (D:=E) (k:=k) Hk Df Fg Il);rw [D5,D6];exact aA.fi (gZ [5,143]) [bT,k1.o] (gc k1 (gc (kT h1) (gc h0 gn)))
theorem bUx{D:List (List Cel)}{k:Int}{R:List (List Cel)}(l:Int)(Bc:D.length≤12)(h1:1≤D.length)(hk:∀ x∈D,aK k≤(x.length:Int)):FMM Tp 200 [.own 0,.p (aB 0),.p (aB (D.length:Int)),.p (aB l),.fn 151 [] [.ptr 1 0]] [some (.row 78 D.length ((D.map rwE).flatten)),some (.box 26 [(pI k),(.p (.sl R.length (R.map aM)))])] (.tup []) [some (.row 78 ((isG (bW k) D).length) (((isG (bW k) D).map rwE).flatten)),some (.box 26 [(pI k),(.p (.sl R.length (R.map aM)))])] :=
 bUu (E'0:=isG (bW k) D) (.exit (aXs (E':=isG (bW k) D) (by show _∧_;omega) (by omega) Bc h1 hk rfl rfl rfl) (by simp))
abbrev bLk(D:List (List Cel)):=IntKind.wrap .u64 (D.length:Int)
theorem bUy{D R:List (List Cel)}(Gb:0≤(IntKind.wrap .u64 (D.length:Int))∧(IntKind.wrap .u64 (D.length:Int))≤12)(C9:D.length≤12)(Df:1≤D.length)(Fg:∀ x∈D,aK k≤(x.length:Int)):FMM Tp 137 [(.own 0),(.fn 151 [] [(.ptr 1 0)])] [some (.row 78 D.length ((D.map rwE).flatten)),some (.box 26 [(pI k),(.p (.sl R.length (R.map aM)))])] (.tup []) [some (.row 78 ((isG (bW k) D).length) (((isG (bW k) D).map rwE).flatten)),some (.box 26 [(pI k),(.p (.sl R.length (R.map aM)))])]:=have k1:=fk 2 (aFg (bLk D) Gb) rfl;have k2:=mq [0,1] 2 (bUx (D:=D) (k:=k) (R:=R) ((Lib.bitLen (bLk D).toNat:Nat):Int) C9 Df Fg);FMM.fi 2 gE func137 [k1.o,k2.o] (gc k2 (gc k1 gn))
theorem bUz{D:List (List Cel)}{k:Int}{R:List (List Cel)}(Bc:D.length≤12)(h1:1≤D.length)(hk:∀ x∈D,aK k≤(x.length:Int)):FMM Tp 137 [.own 0,.fn 151 [] [.ptr 1 0]] [some (.row 78 D.length ((D.map rwE).flatten)),some (.box 26 [(pI k),(.p (.sl R.length (R.map aM)))])] (.tup []) [some (.row 78 ((isG (bW k) D).length) (((isG (bW k) D).map rwE).flatten)),some (.box 26 [(pI k),(.p (.sl R.length (R.map aM)))])]:=bUy (Fy Bc) Bc h1 hk
theorem bVa{D:List (List Cel)}{k:Int}(l:Int)(Bc:D.length≤12)(h1:1≤D.length)(hk:∀ x∈D,aK k≤(x.length:Int)):FMM Tp 200 [.own 0,.p (aB 0),.p (aB (D.length:Int)),.p (aB l),.fn 168 [] [.ptr 1 0]] [some (.row 78 D.length ((D.map rwE).flatten)),some (.box 23 [(pI k)])] (.tup []) [some (.row 78 ((isG (bW k) D).length) (((isG (bW k) D).map rwE).flatten)),some (.box 23 [(pI k)])] :=
 bUv (E'0:=isG (bW k) D) (.exit (aXt (E':=isG (bW k) D) (by show _∧_;omega) (by omega) Bc h1 hk rfl rfl rfl) (by simp))
theorem bVb{D:List (List Cel)}(Gb:0≤(IntKind.wrap .u64 (D.length:Int))∧(IntKind.wrap .u64 (D.length:Int))≤12)(C9:D.length≤12)(Df:1≤D.length)(Fg:∀ x∈D,aK k≤(x.length:Int)):FMM Tp 137 [(.own 0),(.fn 168 [] [(.ptr 1 0)])] [some (.row 78 D.length ((D.map rwE).flatten)),some (.box 23 [(pI k)])] (.tup []) [some (.row 78 ((isG (bW k) D).length) (((isG (bW k) D).map rwE).flatten)),some (.box 23 [(pI k)])]:=have k1:=fk 2 (aFg (bLk D) Gb) rfl;have k2:=mq [0,1] 2 (bVa (D:=D) (k:=k) ((Lib.bitLen (bLk D).toNat:Nat):Int) C9 Df Fg);FMM.fi 2 gE func137 [k1.o,k2.o] (gc k2 (gc k1 gn))
theorem bVc{D:List (List Cel)}{k:Int}(Bc:D.length≤12)(h1:1≤D.length)(hk:∀ x∈D,aK k≤(x.length:Int)):FMM Tp 137 [.own 0,.fn 168 [] [.ptr 1 0]] [some (.row 78 D.length ((D.map rwE).flatten)),some (.box 23 [(pI k)])] (.tup []) [some (.row 78 ((isG (bW k) D).length) (((isG (bW k) D).map rwE).flatten)),some (.box 23 [(pI k)])]:=bVb (Fy Bc) Bc h1 hk
theorem bVd{D:List (List Cel × List Cel)}{k:Int}(l:Int)(Bc:D.length≤12)(h1:1≤D.length)(hk:∀ x∈D,aK k≤((crM x).length:Int)):FMM Tp 222 [.own 0,.p (aB 0),.p (aB (D.length:Int)),.p (aB l),.fn 185 [] [.ptr 1 0]] [some (.row 112 D.length ((D.map chE).flatten)),some (.box 23 [(pI k)])] (.tup []) [some (.row 112 ((isG (gQ k) D).length) (((isG (gQ k) D).map chE).flatten)),some (.box 23 [(pI k)])] :=
 bUw (E'0:=isG (gQ k) D) (.exit (aXu (E':=isG (gQ k) D) (by show _∧_;omega) (by omega) Bc h1 hk rfl rfl rfl) (by simp))
theorem bVe{D:List (List Cel × List Cel)}(Gb:0≤(IntKind.wrap .u64 (D.length:Int))∧(IntKind.wrap .u64 (D.length:Int))≤12)(C9:D.length≤12)(Df:1≤D.length)(Fg:∀ x∈D,aK k≤((crM x).length:Int)):FMM Tp 184 [(.own 0),(.fn 185 [] [(.ptr 1 0)])] [some (.row 112 D.length ((D.map chE).flatten)),some (.box 23 [(pI k)])] (.tup []) [some (.row 112 ((isG (gQ k) D).length) (((isG (gQ k) D).map chE).flatten)),some (.box 23 [(pI k)])]:=have k1:=fk 2 (aFg (IntKind.wrap .u64 (D.length:Int)) Gb) rfl;have k2:=mq [0,1] 2 (bVd (D:=D) (k:=k) ((Lib.bitLen (IntKind.wrap .u64 (D.length:Int)).toNat:Nat):Int) C9 Df Fg);FMM.fi 2 gE func184 [k1.o,k2.o] (gc k2 (gc k1 gn))
theorem bVf{D:List (List Cel × List Cel)}{k:Int}(Bc:D.length≤12)(h1:1≤D.length)(hk:∀ x∈D,aK k≤((crM x).length:Int)):FMM Tp 184 [.own 0,.fn 185 [] [.ptr 1 0]] [some (.row 112 D.length ((D.map chE).flatten)),some (.box 23 [(pI k)])] (.tup []) [some (.row 112 ((isG (gQ k) D).length) (((isG (gQ k) D).map chE).flatten)),some (.box 23 [(pI k)])]:=bVe (Fy Bc) Bc h1 hk
end
end KV
end Go.Proofs
section
namespace Go.Proofs
open Go.RowKit
namespace KV
open Tryz
variable {P:Program} {C:Cx} {w:World} {ty n:Nat} {cs Bm:List PV}
theorem eN{o:AO}{id:Nat}{x:AO}(h:([some x]:Mem)[id]? = some (some o)):id=0∧o=x:=by
 cases id with
 | zero=>simp at h;exact ⟨rfl,h.symm⟩
 | succ i=>simp at h
theorem aZs{x:AV}{u:Value}(h:Rep C [some (.row ty n cs)] w x u):Rep C [some (.row ty n Bm)] w x u:=by
 have ex:∀ {id:Nat},(∃ o:AO,([some (.row ty n cs)]:Mem)[id]? = some (some o))→∃ o:AO,([some (.row ty n Bm)]:Mem)[id]? = some (some o):=fun ⟨o,h⟩=>by
  obtain ⟨rfl,_⟩:=eN h;exact ⟨_,rfl⟩
 induction h with
 | p x u h=>exact .p x u h
 | any u=>exact .any u
 | kb b=>exact .kb b
 | yld l=>exact .yld l
 | own id u h0 ha h =>
  refine .own id u h0 (ex ha) fun C6 n' c hm => ?_
  obtain ⟨rfl,e⟩:=eN hm;cases e;exact h _ _ cs rfl
 | arr id off n u h0 ha h =>
  refine .arr id off n u h0 (ex ha) fun o hm hl => ?_
  obtain ⟨rfl,e⟩:=eN hm;exact h _ rfl rfl
 | ptr id off u h0 ha h hp =>
  refine .ptr id off u h0 (ex ha) (fun o hm hl => ?_) hp
  obtain ⟨rfl,e⟩:=eN hm;exact h _ rfl rfl
 | mp id u h0 ha h =>
  refine .mp id u h0 (ex ha) fun o hm hl => ?_
  obtain ⟨rfl,e⟩:=eN hm;exact h _ rfl rfl
 | pa id q u h0 ha h =>
  refine .pa id q u h0 (ex ha) fun o hm hl => ?_
  obtain ⟨rfl,e⟩:=eN hm;exact h _ rfl rfl
 | rp cs off b o us h1 h2 h3=>exact .rp cs off b o us h1 h2 h3
 | agg cs vs h0 h1 _ ih=>exact .agg cs vs h0 h1 ih
 | tup cs vs h1 _ ih=>exact .tup cs vs h1 ih
 | fn f cs ds us vs h1 h2 _ _ Gf Gg=>exact .fn f cs ds us vs h1 h2 Gf Gg
theorem zY:∀ {args:List AV} {us:List Value},cQ C [some (.row ty n cs)] w args us→cQ C [some (.row ty n Bm)] w args us
 | [],_,h=>by cases h;exact .nil
 | x::l,_,h=>by
  cases h with
  | cons _ _ u us h1 h2=>exact .cons _ _ _ _ (aZs h1) (zY h2)
theorem aZt(hM:aX P C [some (.row ty n cs)] w):aX P C [some (.row ty n (cs.map wkP))] w:=by
 refine ⟨fun id t' n' c hm => ?_,fun id t' c hm => ?_,fun id e c hm => ?_,fun i i' o o' b h1 l1 h2 l2 e1 e2 => ?_,fun id o b h l e => ?_,hM.Fs,fun id o b h l e => ?_,hM.lib⟩
 ·obtain ⟨rfl,e⟩:=eN hm
  cases e
  rcases hM.row 0 _ _ _ rfl with ⟨h1,h2,h3⟩ | ⟨b,arr,i,q1,q2,q3,q4,q5,q6,q7,q8,q9⟩
  ·exact .inl ⟨h1,h2,by rw [h3];rfl⟩
  ·refine .inr ⟨b,arr,i,q1,q2,q3,q4,by rw [oC];exact q5,q6,q7,fun j hj => ?_,fun j hj=>q9 j (by simpa using hj)⟩
   rw [iA];exact aRa (q8 j (by simpa using hj))
 ·obtain ⟨_,e⟩:=eN hm;cases e
 ·obtain ⟨_,e⟩:=eN hm;cases e
 ·obtain ⟨rfl,_⟩:=eN h1
  obtain ⟨rfl,_⟩:=eN h2;rfl
 ·obtain ⟨rfl,_⟩:=eN h
  exact hM.nF 0 _ b rfl rfl e
 ·obtain ⟨rfl,_⟩:=eN h
  exact hM.lt 0 _ b rfl rfl e
theorem bGk{C':Cx}{M':Mem}{w':World}(f:Fr C [some (.row ty n Bm)] w C' M' w'):Fr C [some (.row ty n cs)] w C' M' w':=by
 refine ⟨f.os,f.tape,f.out,f.size,fun b hb hn=>f.keep b hb fun id o h l e => ?_,fun id o h => ?_,fun id o h t' n' c hm => ?_,fun id o h o' hm hl => ?_,fun id o b h l e => ?_,f.F1,fun b h => ?_⟩
 ·obtain ⟨rfl,_⟩:=eN h
  exact hn 0 _ rfl rfl e
 ·obtain ⟨rfl,_⟩:=eN h
  exact f.ids 0 _ rfl
 ·obtain ⟨rfl,_⟩:=eN h
  obtain ⟨_,e⟩:=f.row 0 _ rfl _ _ _ hm;cases e;exact ⟨cs,rfl⟩
 ·obtain ⟨rfl,rfl⟩:=eN h
  rfl
 ·rcases f.new id o b h l e with h1 | ⟨D9,o0,h1,h2,h3⟩
  ·exact .inl h1
  ·obtain ⟨rfl,_⟩:=eN h1
   exact .inr ⟨0,_,rfl,rfl,h3⟩
 ·rcases f.F2 b h with h1 | h1 | ⟨D9,o0,h1,h2,h3⟩
  ·exact .inl h1
  ·exact .inr (.inl h1)
  ·obtain ⟨rfl,_⟩:=eN h1
   exact .inr (.inr ⟨0,_,rfl,rfl,h3⟩)
theorem FMM.rowwk{f:Nat}{args:List AV}{r:AV}{M':Mem}(h:FMM P f args [some (.row ty n (cs.map wkP))] r M'):FMM P f args [some (.row ty n cs)] r M':=fun C w us hus hM k=>by
 refine (h C w us (zY hus) (aZt hM) k).mono ?_;rintro e w' ⟨u,rfl,C',hF,Ee,hr⟩;exact ⟨u,rfl,C',bGk hF,Ee,hr⟩
end KV
end Go.Proofs
end
namespace Go.Proofs
namespace KV
open Tryz
section
variable {e k:Int}{i j i' j' qn K8:Nat}

noncomputable abbrev aJh:Code:=sub (cd Tryz.f104) [1,1,1,0,1,0,0]
noncomputable abbrev aJi:Code:=sub (cd Tryz.f104) [1,1,1,1,0,1,0,0]
theorem bUp{D:List (List Cel × List Cel)}(G9:D.length≤12)(C9:1≤D.length)(Df:∀ x∈D,aK k≤((crM x).length:Int)):FMM Tp 109 [(pI k),(.own 0)] [some (.row 112 D.length ((D.map chE).flatten))] (.own 0) [some (.row 112 ((isG (gQ k) D).length) (((isG (gQ k) D).map chE).flatten))]:=have k1:=mq [0,1] 2 (bVf (D:=D) (k:=k) G9 C9 Df);FMM.fi 1 gE func109 [k1.o] (gc k1 gn)
theorem bYv{k:Int}{n:Nat}{cs:List PV}{D:List Chg}(hn:n=D.length)(hc:cs.map wkP=(D.map chE).flatten)(Bc:D.length≤12)(h1:1≤D.length)(hk:∀ x∈D,aK k≤((crM x).length:Int)):FMM Tp 109 [.p (aB k),.own 0] [some (.row 112 n cs)] (.own 0) [some (.row 112 (isG (gQ k) D).length (((isG (gQ k) D).map chE).flatten))]:=by
 subst hn;refine FMM.rowwk ?_;rw [hc];exact bUp Bc h1 hk
def jU(k:Int)(A:List (List Cel))(e:Int)(B:List (List Cel))(i on:Nat)(oc:List PV):St:=⟨fr 69 [(2,(.ptr 0 0)),(3,(.ptr 1 0)),(4,(.p bK)),(5,(.mp 2)),(6,(.mp 3)),(7,(.own 4)),(18,(.p (.sl A.length (A.map aM)))),(19,(pI (A.length:Int))),(20,(pI (i:Int)))],[some (.box 26 [(pI k),(.p (.sl A.length (A.map aM)))]),some (.box 26 [(pI e),(.p (.sl B.length (B.map aM)))]),some (.mp (bN k A) A.length),some (.mp (bN e B) B.length),some (.row 112 on oc)]⟩
def jV(k:Int)(A B:List (List Cel))(j qn:Nat)(qc:List PV):St:=⟨fr 69 [(2,(.ptr 0 0)),(4,(.p bK)),(5,(.mp 1)),(7,(.own 2)),(44,(.p (.sl B.length (B.map aM)))),(45,(pI (B.length:Int))),(46,(pI (j:Int)))],[some (.box 26 [(pI k),(.p (.sl A.length (A.map aM)))]),some (.mp (bN k A) A.length),some (.row 112 qn qc)]⟩
theorem bUq{A B:List (List Cel)}{Aq:Nat}{Al:List (List Cel × List Cel)}{Kb Ke:Nat}{Kf:List PV}{D4:List (List Cel × List Cel)}(P5:fP k A)(K6:fP e B)(Bh:aF Tp 0 aJh (jU k A e B 0 0 []) (.exit 0) (jU k A e B Aq Al.length ((Al.map chE).flatten)))(Eg:aF Tp 0 aJi (jV k A B 0 Al.length ((Al.map chE).flatten)) (.exit 2) (jV k A B Kb Ke Kf))(Js:Ke=D4.length)(P6:Kf.map wkP=(D4.map chE).flatten)(Ml:D4.length≤12)(M9:1≤D4.length)(Na:∀ x∈D4,aK k≤((crM x).length:Int)):FMM Tp 104 [(.p (.agg [(aB k),(.sl A.length (A.map aM))])),(.p (.agg [(aB e),(.sl B.length (B.map aM))]))] [] (.p (.sl ((isG (gQ k) D4).length) (((isG (gQ k) D4).map chE).flatten))) []:=have k1:=mq [2] 3 (bYv (k:=k) (D:=D4) Js P6 Ml M9 Na);FMM.fi 0 ⟨[],[],[2],[]⟩ func104 [.c (.mp 2) [(2,(.mp (bN k A) A.length))],.c (.mp 10) [(10,(.mp (bN e B) B.length))],Bh.k 6 (gN b6 [0,1,2,10,11] [(7,112)]),Eg.k 4 (gI ar [0,2,4]),k1.o] (gc k1 (gc Eg.code (gc Bh.code (gt (FC Tp 149 [(.p (.agg [(aB e),(.sl B.length (B.map aM))]))] [] 10 (.mp 10) [(10,(.mp (bN e B) B.length))]) (FMM.fcN (k:=1) rfl (ids:=[]) (aNf K6) (by kernel_rfl)) (gt (FC Tp 149 [(.p (.agg [(aB k),(.sl A.length (A.map aM))]))] [] 2 (.mp 2) [(2,(.mp (bN k A) A.length))]) (FMM.fcN (k:=1) rfl (ids:=[]) (aNf P5) (by kernel_rfl)) gn)))))
section
variable{A B:List (List Cel)}{Ab B9:List Cel}(h0:(i:Int)<(A.length:Int))(h1:A[i]? = some Ab)(h2:aK k≤(Ab.length:Int))(h3:eG Tp 186 (bN e B) (k3V (aL k Ab 0) (aL k Ab 1) (aL k Ab 2)))(h4:(gL (bN e B) (k3V (aL k Ab 0) (aL k Ab 1) (aL k Ab 2)))=true)(h5:gG (bN e B) (k3V (aL k Ab 0) (aL k Ab 1) (aL k Ab 2))=some (.sl B9.length ((B9.map cE).flatten)))(Ho:Ab.length≤100000)
include h0 h1 h2 h3 h4 h5 Ho
theorem aXk{o o':List (List Cel × List Cel)}(h7:(decide (Ab=B9))=false)(Ng:Ab.length≤1000000)(P7:B9.length≤1000000)(A5:[(PV.sl Ab.length ((Ab.map cE).flatten)),(.sl B9.length ((B9.map cE).flatten))].length=1*2∧o.length+1≤1000000)(Cg:ce i)(Ai:i'=(i+1))(Dj:o'.length=(o.length+1))(Dk:(o'.map chE).flatten=(((o.map chE).flatten)++[(PV.sl Ab.length ((Ab.map cE).flatten)),(.sl B9.length ((B9.map cE).flatten))])):aA Tp 0 aJh (jU k A e B i o.length ((o.map chE).flatten)) .normal (jU k A e B i' o'.length ((o'.map chE).flatten)):=by
 subst Ai;have k1:=fk 5 (eC k Ab h2) rfl;have k2:=fk 5 (pM Ab B9 Ho) rfl;have k3:=fk 5 (pH Ab Ng) rfl;have k4:=fk 5 (pH B9 P7) rfl;rw [Dj,Dk];exact aA.fi (gI b6 [0,1,2,3,6]) [bT,.x (.sl Ab.length ((Ab.map cE).flatten)),k1.o,bT,.x (.sl B9.length ((B9.map cE).flatten)),k2.o,bT,k3.o,k4.o] (gc Cg (gc A5 (gt ([(PV.sl Ab.length ((Ab.map cE).flatten)),(.sl B9.length ((B9.map cE).flatten))].length=2) (by first | decide | simp) (gc k4 (gc k3 (gc (cY h7) (gc k2 (gc h5 (gc h4 (gc h3 (gc k1 (gc (atm aM h1) (gc (ixn aM h1) (g0 h0))))))))))))))
theorem aXl{o:List (List Cel × List Cel)}(h7:(decide (Ab=B9))=true)(h8:ce i)(Ai:i'=(i+1)):aA Tp 0 aJh (jU k A e B i o.length ((o.map chE).flatten)) .normal (jU k A e B i' o.length ((o.map chE).flatten)):=by
 subst Ai;have k1:=fk 5 (eC k Ab h2) rfl;have k2:=fk 5 (pM Ab B9 Ho) rfl;exact aA.fi (gI b6 bv) [bT,.x (.sl Ab.length ((Ab.map cE).flatten)),k1.o,bT,.x (.sl B9.length ((B9.map cE).flatten)),k2.o,bF] (gc h8 (gc (aV h7) (gc k2 (gc h5 (gc h4 (gc h3 (gc k1 (gc (atm aM h1) (gc (ixn aM h1) (g0 h0))))))))))
end
theorem aXm{A B:List (List Cel)}{o:List (List Cel × List Cel)}{Ab:List Cel}{o':List (List Cel × List Cel)}(h0:(i:Int)<(A.length:Int))(h1:A[i]? = some Ab)(h2:aK k≤(Ab.length:Int))(h3:eG Tp 186 (bN e B) (k3V (aL k Ab 0) (aL k Ab 1) (aL k Ab 2)))(h4:(gL (bN e B) (k3V (aL k Ab 0) (aL k Ab 1) (aL k Ab 2)))=false)(I1:Ab.length≤100000)(h6:(decide (Ab=([]:List Cel)))=false)(Kc:Ab.length≤1000000)(Ng:([]:List Cel).length≤1000000)(h9:[(PV.sl Ab.length ((Ab.map cE).flatten)),(.sl 0 [])].length=1*2∧o.length+1≤1000000)(A5:ce i)(Ai:i'=(i+1))(Dj:o'.length=(o.length+1))(Dk:(o'.map chE).flatten=(((o.map chE).flatten)++[(PV.sl Ab.length ((Ab.map cE).flatten)),(.sl 0 [])])):aA Tp 0 aJh (jU k A e B i o.length ((o.map chE).flatten)) .normal (jU k A e B i' o'.length ((o'.map chE).flatten)):=by
 subst Ai;have k1:=fk 5 (eC k Ab h2) rfl;have k2:=fk 5 (pH Ab Kc) rfl;rw [Dj,Dk];exact aA.fi (gI b6 [0,1,2,3,6]) [bT,.x (.sl Ab.length ((Ab.map cE).flatten)),k1.o,bF,.c (pB (decide (Ab=([]:List Cel)))) [],bT,k2.o,.c (.p (.sl 0 [])) []] (gc A5 (gc h9 (gt ([(PV.sl Ab.length ((Ab.map cE).flatten)),(.sl 0 [])].length=2) (by first | decide | simp) (gt (FC Tp 150 [(.p bK)] [] 5 (.p (.sl 0 [])) []) (FV.fc (FV.argwk (pH ([]:List Cel) Ng) rfl) rfl) (gc k2 (gc (cY h6) (gt (FC Tp 107 [(.p (.sl Ab.length ((Ab.map cE).flatten))),(.p bK)] [] 5 (pB (decide (Ab=([]:List Cel)))) []) (FV.fc (FV.argwk (pM Ab ([]:List Cel) I1) rfl) rfl) (gc h4 (gc h3 (gc k1 (gc (atm aM h1) (gc (ixn aM h1) (g0 h0)))))))))))))
theorem aXn{A B:List (List Cel)}{o:List (List Cel × List Cel)}(h0:(A.length:Int)≤(i:Int)):aA Tp 0 aJh (jU k A e B i o.length ((o.map chE).flatten)) (.exit 0) (jU k A e B i o.length ((o.map chE).flatten)):=aA.fi (gI b6 bv) [bF] (gc (aO h0) gn)
section
variable{A B:List (List Cel)}{Ac Bp:List Cel}(h0:(j:Int)<(B.length:Int))(h1:B[j]? = some Ac)(h2:aK k≤(Ac.length:Int))(h3:eG Tp 186 (bN k A) (k3V (aL k Ac 0) (aL k Ac 1) (aL k Ac 2)))(h4:(gL (bN k A) (k3V (aL k Ac 0) (aL k Ac 1) (aL k Ac 2)))=true)(h5:gG (bN k A) (k3V (aL k Ac 0) (aL k Ac 1) (aL k Ac 2))=some (.sl Bp.length ((Bp.map cE).flatten)))
include h0 h1 h2 h3 h4 h5
theorem aXo{qc Kg:List PV}(h6:(Bp.length:Int)=0)(Kc:Ac.length≤1000000)(h8:[bK,(.sl Ac.length ((Ac.map cE).flatten))].length=1*2∧qn+1≤1000000)(h9:ce j)(Ci:j'=(j+1))(I2:K8=(qn+1))(I3:Kg=(qc++[bK,(.sl Ac.length ((Ac.map cE).flatten))])):aA Tp 0 aJi (jV k A B j qn qc) .normal (jV k A B j' K8 Kg):=by
 subst Ci I2 I3;have k1:=fk 3 (eC k Ac h2) rfl;have k2:=fk 3 (pH Ac Kc) rfl;exact aA.fi (gI ar [0,1,4]) [bT,.x (.sl Ac.length ((Ac.map cE).flatten)),k1.o,bT,.x (.sl Bp.length ((Bp.map cE).flatten)),bT,k2.o] (gc h9 (gc h8 (gt ([bK,(.sl Ac.length ((Ac.map cE).flatten))].length=2) (by first | decide | simp) (gc k2 (gc (dG h6) (gc h5 (gc h4 (gc h3 (gc k1 (gc (atm aM h1) (gc (ixn aM h1) (g0 h0))))))))))))
theorem aXp{qc:List PV}(h6:(Bp.length:Int)≠0)(h7:ce j)(Ci:j'=(j+1)):aA Tp 0 aJi (jV k A B j qn qc) .normal (jV k A B j' qn qc):=by
 subst Ci;have k1:=fk 3 (eC k Ac h2) rfl;exact aA.fi (gI ar [0,1,2]) [bT,.x (.sl Ac.length ((Ac.map cE).flatten)),k1.o,bT,.x (.sl Bp.length ((Bp.map cE).flatten)),bF] (gc h7 (gc (bI h6) (gc h5 (gc h4 (gc h3 (gc k1 (gc (atm aM h1) (gc (ixn aM h1) (g0 h0)))))))))
end
theorem aXq{A B:List (List Cel)}{qc:List PV}{Ac:List Cel}{Kg:List PV}(h0:(j:Int)<(B.length:Int))(h1:B[j]? = some Ac)(h2:aK k≤(Ac.length:Int))(h3:eG Tp 186 (bN k A) (k3V (aL k Ac 0) (aL k Ac 1) (aL k Ac 2)))(h4:(gL (bN k A) (k3V (aL k Ac 0) (aL k Ac 1) (aL k Ac 2)))=false)(I1:Ac.length≤1000000)(h6:[bK,(.sl Ac.length ((Ac.map cE).flatten))].length=1*2∧qn+1≤1000000)(h7:ce j)(Ci:j'=(j+1))(I2:K8=(qn+1))(I3:Kg=(qc++[bK,(.sl Ac.length ((Ac.map cE).flatten))])):aA Tp 0 aJi (jV k A B j qn qc) .normal (jV k A B j' K8 Kg):=by
 subst Ci I2 I3;have k1:=fk 3 (eC k Ac h2) rfl;have k2:=fk 3 (pH Ac I1) rfl;exact aA.fi (gI ar [0,1,4]) [bT,.x (.sl Ac.length ((Ac.map cE).flatten)),k1.o,bF,bT,k2.o] (gc h7 (gc h6 (gt ([bK,(.sl Ac.length ((Ac.map cE).flatten))].length=2) (by first | decide | simp) (gc k2 (gt (((0:Int) == 0)=true) (by first | decide | simp) (gc h4 (gc h3 (gc k1 (gc (atm aM h1) (gc (ixn aM h1) (g0 h0)))))))))))
theorem aXr{A B:List (List Cel)}{qc:List PV}(h0:(B.length:Int)≤(j:Int)):aA Tp 0 aJi (jV k A B j qn qc) (.exit 2) (jV k A B j qn qc):=aA.fi (gI ar [0,1,2]) [bF] (gc (aO h0) gn)
end
end KV
end Go.Proofs
section
namespace Go.Proofs
open Go.RowKit
namespace KV
open Tryz
set_option maxRecDepth 1000000
def mO(k:Int)(B:List (List Cel))(r:List Cel):Option Chg:=if r=(kA k B r).getD [] then none else some (r,(kA k B r).getD [])
def rX(k:Int)(A:List (List Cel))(r:List Cel):Option Chg:=if ((kA k A r).getD []).length=0 then some ([],r) else none
def dfL(k:Int)(A B:List (List Cel)):List Chg:=A.filterMap (mO k B)++B.filterMap (rX k A)
def dfM(k:Int)(A B:List (List Cel)):List Chg:=isG (gQ k) (dfL k A B)
theorem aCu(k:Int):1≤aK k:=by
 unfold aK
 repeat' split
 all_goals decide
theorem bLi{k:Int}{L:List (List Cel)}{r y:List Cel}(h:kA k L r=some y):y∈L:=bHn h
theorem bEg{k:Int}{A B:List (List Cel)}(hA:fP k A)(hB:fP k B):∀ x∈dfL k A B,aK k≤((crM x).length:Int):=by
 have hp:=aCu k;intro x hx
 rcases aAj.1 hx with hx | hx
 ·obtain ⟨r,hr,he⟩:=List.mem_filterMap.1 hx
  unfold mO at he
  split at he
  ·cases he
  ·cases he
   have:=(hA.len r hr).1;unfold crM;rw [if_pos (by show 0<r.length;omega)];exact this
 ·obtain ⟨r,hr,he⟩:=List.mem_filterMap.1 hx
  unfold rX at he
  split at he
  ·cases he
   have:=(hB.len r hr).1;unfold crM;rw [if_neg (by simp)];exact this
  ·cases he
theorem bUo(c:Chg):(chE c).map wkP=chE c:=rfl
theorem bLj(L:List Chg):((L.map chE).flatten).map wkP=(L.map chE).flatten:=by
 induction L with
 | nil=>rfl
 | cons c L ih=>rw [jP,uI,uL,ih,bUo]
def nlE(c:Chg):List PV:=[bK,aM c.2]
theorem bYu{k:Int}{A:List (List Cel)}:∀ B:List (List Cel),(((B.filterMap (rX k A)).map nlE).flatten).map wkP=((B.filterMap (rX k A)).map chE).flatten:=fun B=>by
 have:∀ L:List Chg,(∀ c∈L,c.1=[])→((L.map nlE).flatten).map wkP=(L.map chE).flatten:=fun L hL=>by
  induction L with
  | nil=>rfl
  | cons c L ih =>
   rw [jP,jP,uI,uI,uL,ih (fun x hx=>hL x (by simp [hx]))]
   congr 1
   have h:=hL c (by simp)
   obtain ⟨a,b⟩:=c;dsimp only at h
   subst h;rfl
 refine this _ fun c hc => ?_
 obtain ⟨r,_,he⟩:=List.mem_filterMap.1 hc;unfold rX at he
 split at he
 ·cases he;rfl
 ·cases he
theorem aJg(L:List Chg)(c:Chg):((L++[c]).map chE).flatten=(L.map chE).flatten++chE c:=by simp
theorem bEh(L:List Chg)(c:Chg):((L++[c]).map nlE).flatten=(L.map nlE).flatten++nlE c:=by simp
theorem tN{α β:Type}(f:α→Option β){l:List α}{i:Nat}{x:α}(h:l[i]? = some x):(l.take (i+1)).filterMap f=(l.take i).filterMap f++(f x).toList:=by
 rw [List.take_add_one,h];rw [List.filterMap_append];cases hf:f x <;> simp [hf]
theorem zR{α β:Type}(f:α→Option β)(l:List α)(i:Nat):((l.take i).filterMap f).length≤l.length:=iB (List.length_filterMap_le _ _) (by simp;omega)
theorem aNe{k:Int}{A B:List (List Cel)}(hA:fP k A)(hB:fP k B)(Bc:(dfL k A B).length≤12)(h1:1≤(dfL k A B).length) :
  FMM Tp 104 [.p (.agg [aB k,cD A]),.p (.agg [aB k,cD B])] [] (.p (.sl (dfM k A B).length ((dfM k A B).map chE).flatten)) []:=by
 have hAn:=hA.n;have hBn:=hB.n;have L1:=aF.count (P:=Tp) (k:=0) (b:=(sub (cd Tryz.f104) bh)) (e := .exit 0) (R:=jU k A k B A.length (A.filterMap (mO k B)).length (((A.filterMap (mO k B)).map chE).flatten)) A.length
  (fun i=>jU k A k B i ((A.take i).filterMap (mO k B)).length ((((A.take i).filterMap (mO k B)).map chE).flatten))
  (fun i hi=>by
   have hx:A[i]? = some A[i]:=Ca hi;have hm:=gP hi;have hl:=hA.len _ hm;have hK:eG Tp 186 (bN k B) (iG k A[i]):=tP hB.ky (hA.ky _ hm) hB.nd;have hfl:=zR (mO k B) A i;rw [tN (mO k B) hx];generalize A[i]=x at hx hm hl hK
   have hhit:=mP k B x;have hlook:=qC k B x;rw [mQ] at hhit
   have hf:mO k B x=if x=(kA k B x).getD [] then none else some (x,(kA k B x).getD []):=rfl
   rw [hf];generalize (A.take i).filterMap (mO k B)=o at hfl
   cases hlk:kA k B x with
   | some y =>
    rw [hlk] at hhit hlook
    have hy:=hB.len y (bLi hlk)
    by_cases he:x=y
    ·rw [Option.getD_some,if_pos he,Option.toList_none,List.append_nil]
     exact aXl (by omega) hx hl.1 hK hhit hlook (by omega) (by simp [he]) (aW (by omega)) rfl
    ·rw [Option.getD_some,if_neg he]
     exact aXk (o':=o++[(x,y)]) (by omega) hx hl.1 hK hhit hlook (by omega) (by simp [he]) (by omega) (by omega) ⟨rfl,by omega⟩ (aW (by omega)) rfl (by simp) (aJg o (x,y))
   | none =>
    rw [hlk] at hhit hlook
    have hp:=aCu k;have he:¬ x=[]:=fun e=>by rw [e] at hl;simp at hl;omega
    rw [Option.getD_none,if_neg he];exact aXm (o':=o++[(x,[])]) (by omega) hx hl.1 hK hhit (by omega) (by simp [he]) (by omega) (by simp) ⟨rfl,by omega⟩ (aW (by omega)) rfl (by simp) (aJg o (x,[])))
  (by rw [List.take_length];exact aXn (by omega)) (by simp)
 have L2:=aF.count (P:=Tp) (k:=0) (b:=(sub (cd Tryz.f104) b9)) (e := .exit 2) (R:=jV k A B B.length (dfL k A B).length (((A.filterMap (mO k B)).map chE).flatten++((B.filterMap (rX k A)).map nlE).flatten)) B.length
  (fun j=>jV k A B j ((A.filterMap (mO k B)).length+((B.take j).filterMap (rX k A)).length) (((A.filterMap (mO k B)).map chE).flatten++(((B.take j).filterMap (rX k A)).map nlE).flatten))
  (fun j hj=>by
   have hx:B[j]? = some B[j]:=Ca hj;have hm:=gP hj;have hl:=hB.len _ hm;have hK:eG Tp 186 (bN k A) (iG k B[j]):=tP hA.ky (hB.ky _ hm) hA.nd;have hfl:=zR (rX k A) B j;have hfa:(A.filterMap (mO k B)).length≤A.length:=List.length_filterMap_le _ _;rw [tN (rX k A) hx];generalize B[j]=x at hx hm hl hK
   have hhit:=mP k A x;have hlook:=qC k A x;rw [mQ] at hhit
   have hf:rX k A x=if ((kA k A x).getD []).length=0 then some ([],x) else none:=rfl
   rw [hf];generalize (B.take j).filterMap (rX k A)=q at hfl
   generalize A.filterMap (mO k B)=o at hfa
   have hap:((o.map chE).flatten++(q.map nlE).flatten)++[bK,aM x]=(o.map chE).flatten++((q++[([],x)]).map nlE).flatten:=by rw [bEh,List.append_assoc];rfl
   cases hlk:kA k A x with
   | some y =>
    rw [hlk] at hhit hlook
    by_cases he:y.length=0
    ·rw [Option.getD_some,if_pos he]
     refine aXo (by omega) hx hl.1 hK hhit hlook (by omega) (by omega) ⟨rfl,by omega⟩ (aW (by omega)) rfl ?_ hap.symm
     show o.length+(q++[(([]:List Cel),x)]).length=_;rw [gM,List.length_singleton];omega
    ·rw [Option.getD_some,if_neg he,Option.toList_none,List.append_nil]
     exact aXp (by omega) hx hl.1 hK hhit hlook (by omega) (aW (by omega)) rfl
   | none =>
    rw [hlk] at hhit hlook
    rw [Option.getD_none,if_pos (by simp)]
    refine aXq (by omega) hx hl.1 hK hhit (by omega) ⟨rfl,by omega⟩ (aW (by omega)) rfl ?_ hap.symm
    show o.length+(q++[(([]:List Cel),x)]).length=_;rw [gM,List.length_singleton];omega)
  (by
   rw [List.take_length];have:(dfL k A B).length=(A.filterMap (mO k B)).length+(B.filterMap (rX k A)).length:=by unfold dfL;rw [gM]
   rw [this];exact aXr (by omega)) (by simp)
 have e0:((A.filterMap (mO k B)).length+((B.take 0).filterMap (rX k A)).length)=(A.filterMap (mO k B)).length:=by simp
 have e1:(((A.filterMap (mO k B)).map chE).flatten++(((B.take 0).filterMap (rX k A)).map nlE).flatten)=((A.filterMap (mO k B)).map chE).flatten:=by simp
 rw [e0,e1] at L2
 refine bUq (D4:=dfL k A B) hA hB L1 L2 rfl ?_ Bc h1 (bEg hA hB);unfold dfL;rw [uL,bLj,bYu,uL,bHo]
end KV
end Go.Proofs
end
namespace Go.Proofs
namespace KV
open Tryz
section
variable {k:Int}{q q':Nat}

noncomputable abbrev aQq:Code:=sub (cd Tryz.f56) [1,0,1,0,0]
def pG(k:Int)(A B:List (List Cel))(q:Nat):St:=⟨fr 29 [(2,(.ptr 0 0)),(3,(.ptr 1 0)),(11,(.p (.agg [(aB k),(.sl A.length (A.map aM)),(aB k),(.sl B.length (B.map aM))]))),(12,(pI (q:Int)))],[some (.box 26 [(pI k),(.p (.sl A.length (A.map aM)))]),some (.box 26 [(pI k),(.p (.sl B.length (B.map aM)))])]⟩
theorem bUm{A B:List (List Cel)}{G0:Nat}(Ay:aF Tp 0 aQq (pG k A B 0) (.exit 0) (pG k A B G0))(h1:k=k)(I0:fP k A)(P3:fP k B)(M5:(dfL k A B).length≤12)(P4:1≤(dfL k A B).length):FMM Tp 56 [(.p (.agg [(aB k),(.sl A.length (A.map aM))])),(.p (.agg [(aB k),(.sl B.length (B.map aM))]))] [] (.tup [(.p (.sl ((dfM k A B).length) (((dfM k A B).map chE).flatten))),(pI 0)]) []:=have k1:=fk 2 (FV.frz (aNe I0 P3 M5 P4) rfl) rfl;FMM.fi 0 gE func56 [Ay.k 6 (gI bm [0,1]),bF,k1.o] (gc k1 (gc (bB h1) (gc Ay.code gn)))
theorem aXh{A B:List (List Cel)}(Av:q=0)(h1:(eQ k A)=0)(Ey:q'=1):aA Tp 0 aQq (pG k A B q) .normal (pG k A B q'):=by
 subst Av;subst Ey;exact aA.fi (gI bm [0,1]) [bT,.c (pI (eQ k A)) [],bF] (gt (inR 1) (by show _∧_;omega) (gc (bB h1) (gc (fk 3 (iD k A) rfl) (gt (0+2≤[(aB k),(.sl A.length (A.map aM)),(aB k),(.sl B.length (B.map aM))].length) (by first | decide | simp) (gt (0≤(0:Int)∧(0:Int)<2) (by first | decide | simp) (gt ((decide ((0:Int)<2))=true) (by first | decide | simp) gn))))))
theorem aXi{A B:List (List Cel)}(Av:q=1)(h1:(eQ k B)=0)(Ey:q'=2):aA Tp 0 aQq (pG k A B q) .normal (pG k A B q'):=by
 subst Av;subst Ey;exact aA.fi (gI bm [0,1]) [bT,.c (pI (eQ k B)) [],bF] (gt (inR 2) (by show _∧_;omega) (gc (bB h1) (gc (fk 3 (iD k B) rfl) (gt (2+2≤[(aB k),(.sl A.length (A.map aM)),(aB k),(.sl B.length (B.map aM))].length) (by first | decide | simp) (gt (0≤(1:Int)∧(1:Int)<2) (by first | decide | simp) (gt ((decide ((1:Int)<2))=true) (by first | decide | simp) gn))))))
theorem aXj{A B:List (List Cel)}(Av:q=2)(Ey:q'=2):aA Tp 0 aQq (pG k A B q) (.exit 0) (pG k A B q'):=by
 subst Av;subst Ey;exact aA.fi (gI bm [0,1]) [bF] (gt ((decide ((2:Int)<2))=false) (by first | decide | simp) gn)
theorem bUn{k:Int}{A B:List (List Cel)}(cA:eQ k A=0)(cB:eQ k B=0)(hA:fP k A)(hB:fP k B)(Bc:(dfL k A B).length≤12)(h1:1≤(dfL k A B).length){base:Nat}:FV Tp 56 [.p (.agg [aB k,cD A]),.p (.agg [aB k,cD B])] base (.tup [.p (.sl (dfM k A B).length (((dfM k A B).map chE).flatten)),.p (aB 0)]) [] :=
 FV.frz (bUm (.step (aXh rfl cA rfl) (.step (aXi rfl cB rfl) (.exit (aXj rfl rfl) (by simp)))) rfl hA hB Bc h1) rfl
end
section
variable {r0:Bool}{k:Int}{i j i' Aq base:Nat}

noncomputable abbrev oA:Code:=sub (cd Tryz.f254) [1,0,1,0,0]
noncomputable abbrev bEe:Code:=sub (cd Tryz.f53) [1,1,1,0,1,0,0]
noncomputable abbrev bEf:Code:=pS (cd Tryz.f53) 6 [0,1,0,0]
theorem bUe{c:Chg}(Am:r0=(decide (((crM c).length:Int) > 0))):FV Tp 144 [(.p (.agg [(.sl c.1.length ((c.1.map cE).flatten)),(.sl c.2.length ((c.2.map cE).flatten))]))] base (pB r0) []:=by
 subst Am;have k1:=fk 1 (lX c.1 c.2) rfl;exact FV.fi func144 [k1.o] (gc k1 gn)
def neC(c:Chg):Bool:=decide (((crM c).length:Int) > 0)
theorem bUf(c:Chg){base:Nat}:FV Tp 144 [.p (.agg [aM c.1,aM c.2])] base (pB (neC c)) []:=bUe rfl
theorem bUg{c:Chg}(h0:(c.1.length:Int)=0):FV Tp 146 [(.p (.agg [(.sl c.1.length ((c.1.map cE).flatten)),(.sl c.2.length ((c.2.map cE).flatten))])),(.rp [(aB k)] 0)] base (pB true) []:=FV.fi func146 (rT 5) (Cr (dG h0) gn)
theorem bUh{c:Chg}(h0:(c.1.length:Int)≠0)(h1:(c.2.length:Int)=0):FV Tp 146 [(.p (.agg [(.sl c.1.length ((c.1.map cE).flatten)),(.sl c.2.length ((c.2.map cE).flatten))])),(.rp [(aB k)] 0)] base (pB true) []:=FV.fi func146 (rF 5++rT 10) (Hw (dG h1) (A1 (dG h1) (Cr (bI h0) gn)))
section
variable{c:Chg}(h0:(c.1.length:Int)≠0)(h1:(c.2.length:Int)≠0)(h2:aK k≤(c.1.length:Int))(h3:aK k≤(c.2.length:Int))
include h0 h1 h2 h3
theorem bUi(h4:(bW k c.1 c.2)=0)(I1:c.1.length≤100000)(Am:r0=(!(decide (c.1=c.2)))):FV Tp 146 [(.p (.agg [(.sl c.1.length ((c.1.map cE).flatten)),(.sl c.2.length ((c.2.map cE).flatten))])),(.rp [(aB k)] 0)] base (pB r0) []:=by
 subst Am;have k1:=fk 1 (lS k c.1 c.2 h2 h3) rfl;have k2:=fk 1 (pM c.1 c.2 I1) rfl;exact FV.fi func146 (rF 6++[.x (aB k)]++rF 5++[k1.o,bF,bF]++rT 5++[k2.o,bT,bF,bT,bF]) (gc (bI h1) (gc (dG h4) (gc (bI h1) (gc (dG h4) (gc k2 (Cr (dG h4) (A1 (bI h1) (gc k1 (Cr (bI h1) (gr (aB k) (gc (bI h1) (Cr (bI h0) gn))))))))))))
theorem bUj(h4:(bW k c.1 c.2)≠0):FV Tp 146 [(.p (.agg [(.sl c.1.length ((c.1.map cE).flatten)),(.sl c.2.length ((c.2.map cE).flatten))])),(.rp [(aB k)] 0)] base (pB false) []:=have k1:=fk 1 (lS k c.1 c.2 h2 h3) rfl;FV.fi func146 (rF 6++[.x (aB k)]++rF 5++[k1.o]++rF 11) (gc (bI h1) (gc (bI h4) (gc (bI h1) (F6 (bI h4) (A1 (bI h1) (gc k1 (Cr (bI h1) (gr (aB k) (gc (bI h1) (Cr (bI h0) gn))))))))))
end
theorem bKr{x:Chg}(Am:r0=(!(neC x))):FMM Tp 205 [(.p (.agg [(.sl x.1.length ((x.1.map cE).flatten)),(.sl x.2.length ((x.2.map cE).flatten))])),(.ptr 0 0)] [some (.box 243 [(.fn 144 [] [])])] (pB r0) [some (.box 243 [(.fn 144 [] [])])]:=by
 subst Am;exact FMM.fi 1 gE func205 [.c (pB (neC x)) []] (gc (fk 2 (bUf x) rfl) gn)
theorem aQo(x:Chg)  : FMM Tp 205 [.p (.agg [aM x.1,aM x.2]),.ptr 0 0] [some (.box 243 [(.fn 144 [] [])])] (pB (!(neC x))) [some (.box 243 [(.fn 144 [] [])])]:=bKr rfl
def fM(l:List (List Cel × List Cel))(i:Nat):St:=⟨fr 19 [(0,(.p (.sl l.length ((l.map chE).flatten)))),(1,(.fn 205 [] [(.ptr 0 0)])),(7,(pI (l.length:Int))),(8,(pI (i:Int)))],[some (.box 243 [(.fn 144 [] [])])]⟩
theorem bKs{l:List (List Cel × List Cel)}(Ay:aF Tp 1 oA (fM l 0) (.exit 0) (fM l Aq)):FMM Tp 254 [(.p (.sl l.length ((l.map chE).flatten))),(.fn 205 [] [(.ptr 0 0)])] [some (.box 243 [(.fn 144 [] [])])] (pI (-1)) [some (.box 243 [(.fn 144 [] [])])]:=FMM.fi 1 gE func254 [Ay.k 6 (gZ bw)] (gc Ay.code gn)
theorem bKt{l:List (List Cel × List Cel)}(Ay:aF Tp 1 oA (fM l 0) .ret (cG (fM l Aq) [(4,(pI (Aq:Int)))])):FMM Tp 254 [(.p (.sl l.length ((l.map chE).flatten))),(.fn 205 [] [(.ptr 0 0)])] [some (.box 243 [(.fn 144 [] [])])] (pI (Aq:Int)) [some (.box 243 [(.fn 144 [] [])])]:=FMM.fi 1 gE func254 [Ay.k 6 (gZ bw)] (gc Ay.code gn)
section
variable{l:List (List Cel × List Cel)}{Ah Aj:List Cel}(h0:(i:Int)<(l.length:Int))(h1:l[i]? = some (Ah,Aj))
include h0 h1
theorem aMy(h2:(neC (Ah,Aj))=false):aA Tp 1 oA (fM l i) .ret (cG (fM l i) [(4,(pI (i:Int)))]):=have k1:=mq [0] 1 (aQo (Ah,Aj));aA.fi (gZ bj) [bT,.x (.agg [(.sl Ah.length ((Ah.map cE).flatten)),(.sl Aj.length ((Aj.map cE).flatten))]),k1.o,bT] (gc (cY h2) (gc k1 (gc (bE (E:=chE) (i:=i) (k:=2) (fun _=>rfl) h1 rfl) (gc (bZ (E:=chE) (i:=i) (k:=2) (fun _=>rfl) h1) (gc (bD (E:=chE) (k:=2) (i:=(i:Int)) (fun _=>rfl) (by decide) (Bl _) h1) (g0 h0))))))
theorem aMz(h2:(neC (Ah,Aj))=true)(h3:ce i)(Ai:i'=(i+1)):aA Tp 1 oA (fM l i) .normal (fM l i'):=by
 subst Ai;have k1:=mq [0] 1 (aQo (Ah,Aj));exact aA.fi (gZ bw) [bT,.x (.agg [(.sl Ah.length ((Ah.map cE).flatten)),(.sl Aj.length ((Aj.map cE).flatten))]),k1.o,bF] (gc h3 (gc (aV h2) (gc k1 (gc (bE (E:=chE) (i:=i) (k:=2) (fun _=>rfl) h1 rfl) (gc (bZ (E:=chE) (i:=i) (k:=2) (fun _=>rfl) h1) (gc (bD (E:=chE) (k:=2) (i:=(i:Int)) (fun _=>rfl) (by decide) (Bl _) h1) (g0 h0)))))))
end
theorem aNa{l:List (List Cel × List Cel)}(h0:(l.length:Int)≤(i:Int)):aA Tp 1 oA (fM l i) (.exit 0) (fM l i):=aA.fi (gZ bw) [bF] (gc (aO h0) gn)
theorem bKu(l:List Chg)(hl:l.length≤100000):FMM Tp 254 [.p (.sl l.length ((l.map chE).flatten)),(.fn 205 [] [(.ptr 0 0)])] [some (.box 243 [(.fn 144 [] [])])] (pI (mJ (fun x => !(neC x)) l)) [some (.box 243 [(.fn 144 [] [])])]:=by
 rcases aF.find (P:=Tp) (k:=1) (b:=oA) (fun i=>fM l i) (fun i _=>cG (fM l i) [(4,.p (aB (i:Int)))]) (fM l l.length) .ret (.exit 0) (by simp) (by simp) (fun x => !(neC x)) l
  (fun i x hx hp=>aMz (by have:=bH hx;omega) hx (by simpa using hp) (aW (by have:=bH hx;omega)) rfl)
  (fun i x hx hp=>aMy (by have:=bH hx;omega) hx (by simpa using hp))
  (aNa (l:=l) (i:=l.length) (by omega)) with ⟨i,x,h1,h2,h3,h4⟩ | ⟨h1,h2,h3⟩
 ·rw [iP h2];exact bKt h4
 ·rw [iQ h1];exact bKs h3
theorem bKv{l:List (List Cel × List Cel)}(h0:l.length≤100000)(Am:r0=(decide ((mJ (fun x => !(neC x)) l) ≥ 0))):FMM Tp 204 [(.p (.sl l.length ((l.map chE).flatten))),(.fn 205 [] [(.ptr 0 0)])] [some (.box 243 [(.fn 144 [] [])])] (pB r0) [some (.box 243 [(.fn 144 [] [])])]:=by
 subst Am;have k1:=mq [0] 1 (bKu l h0);exact FMM.fi 1 gE func204 [k1.o] (gc k1 gn)
theorem bKw(l:List Chg)(hl:l.length≤100000):FMM Tp 204 [.p (.sl l.length ((l.map chE).flatten)),(.fn 205 [] [(.ptr 0 0)])] [some (.box 243 [(.fn 144 [] [])])] (pB (l.any (fun x => !(neC x)))) [some (.box 243 [(.fn 144 [] [])])]:=bKv hl (kP _ _).symm
theorem bKx{l:List (List Cel × List Cel)}(h0:l.length≤100000)(Am:r0=(!(l.any (fun x => !(neC x))))):FV Tp 143 [(.p (.sl l.length ((l.map chE).flatten))),(.fn 144 [] [])] base (pB r0) []:=by
 subst Am;have k1:=mq [0] 1 (bKw l h0);exact FV.fi func143 [k1.o] (gc k1 gn)
theorem bKy(l:List Chg)(hl:l.length≤100000){base:Nat}:FV Tp 143 [.p (.sl l.length ((l.map chE).flatten)),(.fn 144 [] [])] base (pB (l.all (neC))) []:=bKx hl (by rw [List.all_eq_not_any_not])
def ckL(k:Int)(c:Chg):Prop:=(c.1.length=0∨aK k≤(c.1.length:Int))∧(c.2.length=0∨aK k≤(c.2.length:Int))∧c.1.length≤100000
def pD(k:Int)(c:Chg):Bool:=decide (c.1.length=0) || (decide (c.2.length=0) || (decide (bW k c.1 c.2=0) && !(decide (c.1=c.2))))
theorem bUk(c:Chg)(k:Int)(h:ckL k c){base:Nat}:FV Tp 146 [.p (.agg [aM c.1,aM c.2]),.rp [aB k] 0] base (pB (pD k c)) []:=by
 obtain ⟨h1,h2,h3⟩:=h;unfold pD
 by_cases q1:c.1.length=0
 ·rw [decide_eq_true q1,Bool.true_or];exact bUg (by omega)
 ·rw [decide_eq_false q1,Bool.false_or]
  by_cases q2:c.2.length=0
  ·rw [decide_eq_true q2,Bool.true_or];exact bUh (by omega) (by omega)
  ·rw [decide_eq_false q2,Bool.false_or]
   have k1:=h1.resolve_left q1;have k2:=h2.resolve_left q2
   by_cases q3:bW k c.1 c.2=0
   ·rw [decide_eq_true q3,aTc];exact bUi (by omega) (by omega) k1 k2 q3 h3 rfl
   ·rw [decide_eq_false q3,Bool.false_and];exact bUj (by omega) (by omega) k1 k2 q3
theorem bKz{x:Chg}(Nz:ckL k x)(Am:r0=(!(pD k x))):FMM Tp 205 [(.p (.agg [(.sl x.1.length ((x.1.map cE).flatten)),(.sl x.2.length ((x.2.map cE).flatten))])),(.ptr 0 0)] [some (.box 243 [(.fn 146 [] [(.rp [(aB k)] 0)])])] (pB r0) [some (.box 243 [(.fn 146 [] [(.rp [(aB k)] 0)])])]:=by
 subst Am;exact FMM.fi 1 gE func205 [.c (pB (pD k x)) []] (gc (fk 2 (bUk x k Nz) rfl) gn)
theorem aQp(x:Chg)(k:Int)(hx:ckL k x):FMM Tp 205 [.p (.agg [aM x.1,aM x.2]),.ptr 0 0] [some (.box 243 [(.fn 146 [] [(.rp [(aB k)] 0)])])] (pB (!(pD k x))) [some (.box 243 [(.fn 146 [] [(.rp [(aB k)] 0)])])]:=bKz hx rfl
def fN(l:List (List Cel × List Cel))(k:Int)(i:Nat):St:=⟨fr 19 [(0,(.p (.sl l.length ((l.map chE).flatten)))),(1,(.fn 205 [] [(.ptr 0 0)])),(7,(pI (l.length:Int))),(8,(pI (i:Int)))],[some (.box 243 [(.fn 146 [] [(.rp [(aB k)] 0)])])]⟩
theorem bLa{l:List (List Cel × List Cel)}(Ay:aF Tp 1 oA (fN l k 0) (.exit 0) (fN l k Aq)):FMM Tp 254 [(.p (.sl l.length ((l.map chE).flatten))),(.fn 205 [] [(.ptr 0 0)])] [some (.box 243 [(.fn 146 [] [(.rp [(aB k)] 0)])])] (pI (-1)) [some (.box 243 [(.fn 146 [] [(.rp [(aB k)] 0)])])]:=FMM.fi 1 gE func254 [Ay.k 6 (gZ bw)] (gc Ay.code gn)
theorem bLb{l:List (List Cel × List Cel)}(Ay:aF Tp 1 oA (fN l k 0) .ret (cG (fN l k Aq) [(4,(pI (Aq:Int)))])):FMM Tp 254 [(.p (.sl l.length ((l.map chE).flatten))),(.fn 205 [] [(.ptr 0 0)])] [some (.box 243 [(.fn 146 [] [(.rp [(aB k)] 0)])])] (pI (Aq:Int)) [some (.box 243 [(.fn 146 [] [(.rp [(aB k)] 0)])])]:=FMM.fi 1 gE func254 [Ay.k 6 (gZ bw)] (gc Ay.code gn)
section
variable{l:List (List Cel × List Cel)}{Ah Aj:List Cel}(h0:(i:Int)<(l.length:Int))(h1:l[i]? = some (Ah,Aj))(E3:ckL k (Ah,Aj))
include h0 h1 E3
theorem aNb(h3:(pD k (Ah,Aj))=false):aA Tp 1 oA (fN l k i) .ret (cG (fN l k i) [(4,(pI (i:Int)))]):=have k1:=mq [0] 1 (aQp (Ah,Aj) k E3);aA.fi (gZ bj) [bT,.x (.agg [(.sl Ah.length ((Ah.map cE).flatten)),(.sl Aj.length ((Aj.map cE).flatten))]),k1.o,bT] (gc (cY h3) (gc k1 (gc (bE (E:=chE) (i:=i) (k:=2) (fun _=>rfl) h1 rfl) (gc (bZ (E:=chE) (i:=i) (k:=2) (fun _=>rfl) h1) (gc (bD (E:=chE) (k:=2) (i:=(i:Int)) (fun _=>rfl) (by decide) (Bl _) h1) (g0 h0))))))
theorem aNc(h3:(pD k (Ah,Aj))=true)(h4:ce i)(Ai:i'=(i+1)):aA Tp 1 oA (fN l k i) .normal (fN l k i'):=by
 subst Ai;have k1:=mq [0] 1 (aQp (Ah,Aj) k E3);exact aA.fi (gZ bw) [bT,.x (.agg [(.sl Ah.length ((Ah.map cE).flatten)),(.sl Aj.length ((Aj.map cE).flatten))]),k1.o,bF] (gc h4 (gc (aV h3) (gc k1 (gc (bE (E:=chE) (i:=i) (k:=2) (fun _=>rfl) h1 rfl) (gc (bZ (E:=chE) (i:=i) (k:=2) (fun _=>rfl) h1) (gc (bD (E:=chE) (k:=2) (i:=(i:Int)) (fun _=>rfl) (by decide) (Bl _) h1) (g0 h0)))))))
end
theorem aNd{l:List (List Cel × List Cel)}(h0:(l.length:Int)≤(i:Int)):aA Tp 1 oA (fN l k i) (.exit 0) (fN l k i):=aA.fi (gZ bw) [bF] (gc (aO h0) gn)
theorem bLc(l:List Chg)(k:Int)(hl:l.length≤100000)(hL:∀ x∈l,ckL k x):FMM Tp 254 [.p (.sl l.length ((l.map chE).flatten)),(.fn 205 [] [(.ptr 0 0)])] [some (.box 243 [(.fn 146 [] [(.rp [(aB k)] 0)])])] (pI (mJ (fun x => !(pD k x)) l)) [some (.box 243 [(.fn 146 [] [(.rp [(aB k)] 0)])])]:=by
 rcases aF.find (P:=Tp) (k:=1) (b:=oA) (fun i=>fN l k i) (fun i _=>cG (fN l k i) [(4,.p (aB (i:Int)))]) (fN l k l.length) .ret (.exit 0) (by simp) (by simp) (fun x => !(pD k x)) l
  (fun i x hx hp=>aNc (by have:=bH hx;omega) hx (hL _ (Cn hx)) (by simpa using hp) (aW (by have:=bH hx;omega)) rfl)
  (fun i x hx hp=>aNb (by have:=bH hx;omega) hx (hL _ (Cn hx)) (by simpa using hp))
  (aNd (l:=l) (i:=l.length) (by omega)) with ⟨i,x,h1,h2,h3,h4⟩ | ⟨h1,h2,h3⟩
 ·rw [iP h2];exact bLb h4
 ·rw [iQ h1];exact bLa h3
theorem bLd{l:List (List Cel × List Cel)}(h0:l.length≤100000)(Fh:∀ x∈l,ckL k x)(Am:r0=(decide ((mJ (fun x => !(pD k x)) l) ≥ 0))):FMM Tp 204 [(.p (.sl l.length ((l.map chE).flatten))),(.fn 205 [] [(.ptr 0 0)])] [some (.box 243 [(.fn 146 [] [(.rp [(aB k)] 0)])])] (pB r0) [some (.box 243 [(.fn 146 [] [(.rp [(aB k)] 0)])])]:=by
 subst Am;have k1:=mq [0] 1 (bLc l k h0 Fh);exact FMM.fi 1 gE func204 [k1.o] (gc k1 gn)
theorem bLe(l:List Chg)(k:Int)(hl:l.length≤100000)(hL:∀ x∈l,ckL k x):FMM Tp 204 [.p (.sl l.length ((l.map chE).flatten)),(.fn 205 [] [(.ptr 0 0)])] [some (.box 243 [(.fn 146 [] [(.rp [(aB k)] 0)])])] (pB (l.any (fun x => !(pD k x)))) [some (.box 243 [(.fn 146 [] [(.rp [(aB k)] 0)])])]:=bLd hl hL (kP _ _).symm
theorem bLf{l:List (List Cel × List Cel)}(h0:l.length≤100000)(Fh:∀ x∈l,ckL k x)(Am:r0=(!(l.any (fun x => !(pD k x))))):FV Tp 143 [(.p (.sl l.length ((l.map chE).flatten))),(.fn 146 [] [(.rp [(aB k)] 0)])] base (pB r0) []:=by
 subst Am;have k1:=mq [0] 1 (bLe l k h0 Fh);exact FV.fi func143 [k1.o] (gc k1 gn)
theorem bLg(l:List Chg)(k:Int)(hl:l.length≤100000)(hL:∀ x∈l,ckL k x){base:Nat}:FV Tp 143 [.p (.sl l.length ((l.map chE).flatten)),(.fn 146 [] [(.rp [(aB k)] 0)])] base (pB (l.all (pD k))) []:=bLf hl hL (by rw [List.all_eq_not_any_not])
theorem bLh(k:Int)(R:List (List Cel))(h:R.length≤100000){base:Nat}:FV Tp 145 [.p (aB k),.p (.sl R.length ((R.map rwE).flatten))] base (pI (lT k R)) []:=by rw [fO];exact aFb k R h
def pE(k:Int)(l:List (List Cel × List Cel))(i rn:Nat)(rc:List PV):St:=⟨fr 67 [(1,(.p (.sl l.length ((l.map chE).flatten)))),(2,(.ptr 0 0)),(4,(pI 0)),(5,(.own 1)),(23,(.p (.sl l.length ((l.map chE).flatten)))),(24,(pI (l.length:Int))),(25,(pI (i:Int)))],[some (.box 23 [(pI k)]),some (.row 78 rn rc)]⟩
def pF(k:Int)(l:List (List Cel × List Cel))(j:Nat):St:=⟨fr 67 [(1,(.p (.sl l.length ((l.map chE).flatten)))),(2,(.ptr 0 0)),(9,(pI (j:Int)))],[some (.box 23 [(pI k)])]⟩
theorem bUl{l:List (List Cel × List Cel)}{Hq:List (List Cel)}{Kb:Nat}(h0:(within k 0 4)=true)(h1:(l.length:Int)≤400)(h2:l.length≤100000)(h3:(l.all (neC))=true)(Dy:aF Tp 0 bEe (pE k l 0 0 []) (.exit 1) (pE k l Aq Hq.length ((Hq.map rwE).flatten)))(h5:Hq.length≤100000)(h6:(lT k Hq)=0)(P2:∀ x∈l,ckL k x)(h8:(l.all (pD k))=true)(Ka:aF Tp 0 bEf (pF k l 1) (.exit 3) (pF k l Kb)):FV Tp 53 [(pI k),(.p (.sl l.length ((l.map chE).flatten)))] base (pI 0) []:=have k1:=fk 1 (lO k) rfl;have k2:=fk 1 (bKy l h2) rfl;FV.fi func53 [k1.o,bF,bF,bF,k2.o,bF,bF,bF,Dy.k 6 (gN ap [0,1] [(5,78)]),.c (pI (lT k Hq)) [],bF,.c (pB (l.all (pD k))) [],bF,Ka.k 4 (gI [0,1,3,6,10,57] [0])] (gc Ka.code (gc (aV h8) (gt (FC Tp 143 [(.p (.sl l.length ((l.map chE).flatten))),(.fn 146 [] [(.ptr 0 0)])] [(0,(.box 23 [(pI k)]))] 2 (pB (l.all (pD k))) []) (fv (bLg l k h2 P2)) (gc (bB h6) (gt (FC Tp 145 [(pI k),(.own 1)] [(1,(.row 78 Hq.length ((Hq.map rwE).flatten)))] 2 (pI (lT k Hq)) []) (fv (bLh k Hq h5)) (gc Dy.code (gc (aV h3) (A1 (aO h1) (gc k2 (A1 (aO h1) (gc (aV h0) (gc k1 gn))))))))))))
theorem aXd{l:List (List Cel × List Cel)}{r:List (List Cel)}{Ah Aj:List Cel}{r':List (List Cel)}(h0:(i:Int)<(l.length:Int))(h1:l[i]? = some (Ah,Aj))(h2:[(PV.sl Ah.length ((Ah.map cE).flatten)),(.sl Aj.length ((Aj.map cE).flatten))].length=2*1∧r.length+2≤1000000)(h3:ce i)(Ai:i'=(i+1))(Iq:r'.length=(r.length+2))(Ir:(r'.map rwE).flatten=(((r.map rwE).flatten)++[(PV.sl Ah.length ((Ah.map cE).flatten)),(.sl Aj.length ((Aj.map cE).flatten))])):aA Tp 0 bEe (pE k l i r.length ((r.map rwE).flatten)) .normal (pE k l i' r'.length ((r'.map rwE).flatten)):=by
 subst Ai;rw [Iq,Ir];exact aA.fi (gI ap [0,4]) [bT,.x (.agg [(.sl Ah.length ((Ah.map cE).flatten)),(.sl Aj.length ((Aj.map cE).flatten))])] (gc h3 (gc h2 (gc (bE (E:=chE) (i:=i) (k:=2) (fun _=>rfl) h1 rfl) (gc (bZ (E:=chE) (i:=i) (k:=2) (fun _=>rfl) h1) (gc (bD (E:=chE) (k:=2) (i:=(i:Int)) (fun _=>rfl) (by decide) (Bl _) h1) (g0 h0))))))
theorem aXe{l:List (List Cel × List Cel)}{r:List (List Cel)}(h0:(l.length:Int)≤(i:Int)):aA Tp 0 bEe (pE k l i r.length ((r.map rwE).flatten)) (.exit 1) (pE k l i r.length ((r.map rwE).flatten)):=aA.fi (gI ap [0,1]) [bF] (gc (aO h0) gn)
theorem aXf{l:List (List Cel × List Cel)}{A2 A3 Be Bf:List Cel}{j':Nat}(h0:(j:Int)<(l.length:Int))(h1:inR ((j:Int)-1))(h2:l[((j:Int)-1).toNat]? = some (A2,A3))(h3:0≤((j:Int)-1))(h4:l[j]? = some (Be,Bf))(h5:aK k≤((crM (A2,A3)).length:Int))(h6:aK k≤((crM (Be,Bf)).length:Int))(h7:(bW k (crM (A2,A3)) (crM (Be,Bf)))<0)(h8:ce j)(Ci:j'=(j+1)):aA Tp 0 bEf (pF k l j) .normal (pF k l j'):=by
 subst Ci;have k1:=fk 1 (lX (A2,A3).1 (A2,A3).2) rfl;have k2:=fk 9 (lX (Be,Bf).1 (Be,Bf).2) rfl;have k3:=fk 17 (lS k (crM (A2,A3)) (crM (Be,Bf)) h5 h6) rfl;exact aA.fi (gI [0,1,3,6,10,57] [0]) [bT,.x (.agg [(.sl A2.length ((A2.map cE).flatten)),(.sl A3.length ((A3.map cE).flatten))]),k1.o,.x (.agg [(.sl Be.length ((Be.map cE).flatten)),(.sl Bf.length ((Bf.map cE).flatten))]),k2.o,k3.o,bF] (gc h8 (gc (fA h7) (gc k3 (gc k2 (gc (bE (E:=chE) (i:=j) (k:=2) (fun _=>rfl) h4 rfl) (gc (bZ (E:=chE) (i:=j) (k:=2) (fun _=>rfl) h4) (gc (bD (E:=chE) (k:=2) (i:=(j:Int)) (fun _=>rfl) (by decide) (Bl _) h4) (gc k1 (gc (bE (E:=chE) (i:=((j:Int)-1).toNat) (k:=2) (fun _=>rfl) h2 rfl) (gc (bZ (E:=chE) (i:=((j:Int)-1).toNat) (k:=2) (fun _=>rfl) h2) (gc (bD (E:=chE) (k:=2) (i:=((j:Int)-1)) (fun _=>rfl) (by decide) h3 h2) (gc h1 (g0 h0)))))))))))))
theorem aXg{l:List (List Cel × List Cel)}(h0:(l.length:Int)≤(j:Int)):aA Tp 0 bEf (pF k l j) (.exit 3) (pF k l j):=aA.fi (gI [0,1,3,6,10,57] [0]) [bF] (gc (aO h0) gn)
end
end KV
end Go.Proofs
section
namespace Go.Proofs
open Go.RowKit
namespace KV
open Tryz
set_option maxRecDepth 1000000
def nZ(l:List Chg):List (List Cel):=l.flatMap fun c=>[c.1,c.2]
def bZj(k:Int)(l:List Chg):Bool:=(l.zip l.tail).all fun p=>decide (bW k (crM p.1) (crM p.2)<0)
structure bKq (k:Int) (l:List Chg):Prop where
 w:within k 0 4=true
 n:l.length≤400
 ne:l.all neC=true
 ck:lT k (nZ l)=0
 pai:l.all (pD k)=true
 L:∀ x∈l,ckL k x
 kk:∀ x∈l,aK k≤((crM x).length:Int)
 ord:bZj k l=true
theorem zQ(l:List Chg)(c:Chg):nZ (l++[c])=nZ l++[c.1,c.2]:=by simp [nZ]
theorem uY:∀ l:List Chg,(nZ l).length=2*l.length
 | []=>rfl
 | c::l=>by
  have:=uY l;show ([c.1,c.2]++nZ l).length=2*(l.length+1);rw [gM,this];show 2+_=_;omega
theorem bUd{k:Int}{l:List Chg}(h:bKq k l){base:Nat}:FV Tp 53 [.p (aB k),.p (.sl l.length ((l.map chE).flatten))] base (.p (aB 0)) []:=by
 have hn:=h.n;have L1:=aF.count (P:=Tp) (k:=0) (b:=(sub (cd Tryz.f53) bh)) (e := .exit 1) (R:=pE k l l.length (nZ l).length (((nZ l).map rwE).flatten)) l.length
  (fun i=>pE k l i (nZ (l.take i)).length (((nZ (l.take i)).map rwE).flatten))
  (fun i hi=>by
   have hx:l[i]? = some l[i]:=Ca hi;have et:l.take (i+1)=l.take i++[l[i]]:=by rw [List.take_add_one,hx];rfl
   have hl:=uY (l.take i);rw [uJ] at hl
   generalize l[i]=x at hx et
   obtain ⟨b,a⟩:=x;exact aXd (r:=nZ (l.take i)) (r':=nZ (l.take (i+1))) (by omega) hx ⟨rfl,by omega⟩ (aW (by omega)) rfl (by rw [et,zQ];simp) (by rw [et,zQ];simp [rwE,aM]))
  (by rw [List.take_length];exact aXe (by omega)) (by simp)
 have L2:∀ d j,1≤j→j+d=max 1 l.length→aF Tp 0 (sub (cd Tryz.f53) ay) (pF k l j) (.exit 3) (pF k l (max 1 l.length)):=by
  intro d
  induction d with
  | zero =>
   intro j hj hd;obtain rfl:j=max 1 l.length:=by omega
   exact .exit (aXg (by omega)) (by simp)
  | succ d ih =>
   intro j hj hd;have hlt:j<l.length:=by omega
   have hx:l[j]? = some l[j]:=Ca hlt;have hy:l[j-1]? = some (l[j-1]'(by omega)):=Ca (by omega)
   have ho:bW k (crM (l[j-1]'(by omega))) (crM l[j])<0:=by
    have:=jO.1 h.ord (l[j-1]'(by omega),l[j]) (by
     refine Cn (i:=j-1) ?_;rw [List.getElem?_zip_eq_some];refine ⟨hy,?_⟩;rw [List.getElem?_tail,show j-1+1=j by omega]
     exact hx)
    exact of_decide_eq_true this
   have kx:=h.kk _ (gP hlt);have ky:=h.kk _ (gP (show j-1<l.length by omega))
   have P1:l[((j:Int)-(1:Int)).toNat]? = some (l[j-1]'(by omega)):=by rw [show ((j:Int)-(1:Int)).toNat=j-1 by omega];exact hy
   refine .step (aXf (by omega) (by show _∧_;omega) P1 (by omega) hx ky kx ho (aW (by omega)) rfl) (ih (j+1) (by omega) (by omega))
 exact bUl h.w (by omega) (by omega) h.ne L1 (by rw [uY];omega) h.ck h.L h.pai (L2 (max 1 l.length-1) 1 (Bj _) (by omega))
end KV
end Go.Proofs
end
namespace Go.Proofs
namespace KV
open Tryz
section
variable {k:Int}{h i j h' i' j':Nat}

noncomputable abbrev aQm:Code:=sub (cd Tryz.f59) [1,1,1,1,0,1,0,0]
noncomputable abbrev aJf:Code:=pS (cd Tryz.f59) 6 [0,1,0,0]
noncomputable abbrev aQn:Code:=pS (cd Tryz.f59) 7 [0,1,0,0]
theorem bMw:((0:Int) != 0)=false:=by first | decide | simp
theorem aFf(k:Int)(R:List (List Cel))(h:eQ k R=0){base:Nat}:FV Tp 102 [.p (.agg [aB k,cD R])] base (pI 0) []:=h ▸ iD k R
def eM(k:Int)(L:List (List Cel × List Cel)):List (Value × PV):=L.map fun p=>(iG k p.1,aM p.2)
def lV(k:Int)(R:List (List Cel))(l:List (List Cel × List Cel))(i:Nat)(me:List (Value × PV))(mk:Nat):St:=⟨fr 114 [(1,(.p (.sl l.length ((l.map chE).flatten)))),(2,(.ptr 0 0)),(4,(.ptr 1 0)),(8,(.mp 2)),(34,(.p (.sl l.length ((l.map chE).flatten)))),(35,(pI (l.length:Int))),(36,(pI (i:Int)))],[some (.box 26 [(pI k),(.p (.sl R.length (R.map aM)))]),some (.box 26 [(pI 0),(.p bK)]),some (.mp me mk)]⟩
def jT(k:Int)(R:List (List Cel))(l Cv:List (List Cel × List Cel))(j on:Nat)(oc:List PV):St:=⟨fr 114 [(1,(.p (.sl l.length ((l.map chE).flatten)))),(2,(.ptr 0 0)),(4,(.ptr 1 0)),(8,(.mp 2)),(12,(.ptr 3 0)),(62,(.p (.sl R.length (R.map aM)))),(63,(pI (R.length:Int))),(64,(pI (j:Int)))],[some (.box 26 [(pI k),(.p (.sl R.length (R.map aM)))]),some (.box 26 [(pI 0),(.p bK)]),some (.mp ((eM k) Cv) Cv.length),some (.box 26 [(pI k),(.own 4)]),some (.row 78 on oc)]⟩
def lW(k:Int)(R:List (List Cel))(l:List (List Cel × List Cel))(h un:Nat)(uc:List PV):St:=⟨fr 114 [(2,(.ptr 0 0)),(4,(.ptr 1 0)),(12,(.ptr 2 0)),(85,(.p (.sl l.length ((l.map chE).flatten)))),(86,(pI (l.length:Int))),(87,(pI (h:Int)))],[some (.box 26 [(pI k),(.p (.sl R.length (R.map aM)))]),some (.box 26 [(pI 0),(.p bK)]),some (.box 26 [(pI k),(.own 3)]),some (.row 78 un uc)]⟩
theorem bUc{R:List (List Cel)}{l:List (List Cel × List Cel)}{Aq:Nat}{Cv:List (List Cel × List Cel)}{Kb:Nat}{K7:List (List Cel)}{Pz:Nat}{Hf:List (List Cel)}(Kv:eQ k R=0)(Ku:bKq k l)(I0:fP k R)(Eg:aF Tp 0 aQm (lV k R l 0 (bN k R) R.length) (.exit 0) (lV k R l Aq ((eM k) Cv) Cv.length))(Dy:aF Tp 0 aJf (jT k R l Cv 0 0 []) (.exit 2) (jT k R l Cv Kb K7.length ((K7.map rwE).flatten)))(C5:aF Tp 0 aQn (lW k R l 0 K7.length ((K7.map rwE).flatten)) (.exit 4) (lW k R l Pz Hf.length ((Hf.map rwE).flatten)))(h6:(Hf.length:Int)≤200)(M9:Hf.length≤12)(Na:1≤Hf.length)(P0:∀ x∈Hf,aK k≤(x.length:Int)):FMM Tp 59 [(.p (.agg [(aB k),(.sl R.length (R.map aM))])),(.p (.sl l.length ((l.map chE).flatten)))] [] (.tup [(.p (.agg [(aB k),(.sl ((isG (bW k) Hf).length) (((isG (bW k) Hf).map rwE).flatten))])),(pI 0)]) []:=have k1:=mq [3,0] 4 (bUz (D:=Hf) (k:=k) (R:=R) M9 Na P0);FMM.fi 0 ⟨[],[],[3],[]⟩ func59 [.c (pI 0) [],bF,.c (pI 0) [],bF,.c (.mp 2) [(2,(.mp (bN k R) R.length))],Eg.k 4 (gI a7 [0,1,2]),Dy.k 6 (gN aa bv [(103001,78)]),C5.k 4 (gI an [0,1,3,4]),bF,k1.o] (gc k1 (gc (aO h6) (gc C5.code (gc Dy.code (gc Eg.code (gt (FC Tp 149 [(.p (.agg [(aB k),(.sl R.length (R.map aM))]))] [] 2 (.mp 2) [(2,(.mp (bN k R) R.length))]) (FMM.fcN (k:=1) rfl (ids:=[]) (aNf I0) (by kernel_rfl)) (gc bMw (gc (fk 2 (bUd Ku) rfl) (gc bMw (gc (fk 2 (aFf k R Kv) rfl) gn))))))))))
section
variable{l m:List (List Cel × List Cel)}{Ah Aj:List Cel}(h0:(i:Int)<(l.length:Int))(h1:l[i]? = some (Ah,Aj))(h2:aK k≤((crM (Ah,Aj)).length:Int))(h3:eG Tp 186 ((eM k) m) (k3V (aL k (crM (Ah,Aj)) 0) (aL k (crM (Ah,Aj)) 1) (aL k (crM (Ah,Aj)) 2)))
include h0 h1 h2 h3
theorem aWt{R:List (List Cel)}{Fx:List Cel}{m':List (List Cel × List Cel)}(h4:(gL ((eM k) m) (k3V (aL k (crM (Ah,Aj)) 0) (aL k (crM (Ah,Aj)) 1) (aL k (crM (Ah,Aj)) 2)))=true)(h5:gG ((eM k) m) (k3V (aL k (crM (Ah,Aj)) 0) (aL k (crM (Ah,Aj)) 1) (aL k (crM (Ah,Aj)) 2))=some (.sl Fx.length ((Fx.map cE).flatten)))(Ho:Fx.length≤100000)(h7:(decide (Fx=Ah))=true)(h8:ce i)(Ai:i'=(i+1))(Eu:(eM k) m'=(aGy ((eM k) m) (k3V (aL k (crM (Ah,Aj)) 0) (aL k (crM (Ah,Aj)) 1) (aL k (crM (Ah,Aj)) 2)) (.sl Aj.length ((Aj.map cE).flatten))))(Ev:m'.length=m.length):aA Tp 0 aQm (lV k R l i ((eM k) m) m.length) .normal (lV k R l i' ((eM k) m') m'.length):=by
 subst Ai;have k1:=fk 4 (lX (Ah,Aj).1 (Ah,Aj).2) rfl;have k2:=fk 12 (eC k (crM (Ah,Aj)) h2) rfl;have k3:=fk 21 (pM Fx Ah Ho) rfl;rw [Eu,Ev];exact aA.fi (gI a7 [0,1,2]) [bT,.x (.agg [(.sl Ah.length ((Ah.map cE).flatten)),(.sl Aj.length ((Aj.map cE).flatten))]),k1.o,k2.o,bT,.x (.sl Fx.length ((Fx.map cE).flatten)),k3.o,bF,bT] (gc h8 (gc h4 (gc h3 (gc (aV h7) (gc k3 (gc h5 (gc h4 (gc h3 (gc k2 (gc k1 (gc (bE (E:=chE) (i:=i) (k:=2) (fun _=>rfl) h1 rfl) (gc (bZ (E:=chE) (i:=i) (k:=2) (fun _=>rfl) h1) (gc (bD (E:=chE) (k:=2) (i:=(i:Int)) (fun _=>rfl) (by decide) (Bl _) h1) (g0 h0))))))))))))))
theorem aWu{R:List (List Cel)}{m':List (List Cel × List Cel)}(h4:(gL ((eM k) m) (k3V (aL k (crM (Ah,Aj)) 0) (aL k (crM (Ah,Aj)) 1) (aL k (crM (Ah,Aj)) 2)))=false)(I1:([]:List Cel).length≤100000)(h6:(decide (([]:List Cel)=Ah))=true)(h7:ce i)(Ai:i'=(i+1))(Eu:(eM k) m'=(((eM k) m)++[((k3V (aL k (crM (Ah,Aj)) 0) (aL k (crM (Ah,Aj)) 1) (aL k (crM (Ah,Aj)) 2)),(.sl Aj.length ((Aj.map cE).flatten)))]))(Ev:m'.length=(m.length+1)):aA Tp 0 aQm (lV k R l i ((eM k) m) m.length) .normal (lV k R l i' ((eM k) m') m'.length):=by
 subst Ai;have k1:=fk 4 (lX (Ah,Aj).1 (Ah,Aj).2) rfl;have k2:=fk 12 (eC k (crM (Ah,Aj)) h2) rfl;rw [Eu,Ev];exact aA.fi (gI a7 [0,1,2]) [bT,.x (.agg [(.sl Ah.length ((Ah.map cE).flatten)),(.sl Aj.length ((Aj.map cE).flatten))]),k1.o,k2.o,bF,.c (pB (decide (([]:List Cel)=Ah))) [],bF,bF] (gc h7 (gc h4 (gc h3 (gc (aV h6) (gt (FC Tp 107 [(.p bK),(.p (.sl Ah.length ((Ah.map cE).flatten)))] [] 21 (pB (decide (([]:List Cel)=Ah))) []) (FV.fc (FV.argwk (pM ([]:List Cel) Ah I1) rfl) rfl) (gc h4 (gc h3 (gc k2 (gc k1 (gc (bE (E:=chE) (i:=i) (k:=2) (fun _=>rfl) h1 rfl) (gc (bZ (E:=chE) (i:=i) (k:=2) (fun _=>rfl) h1) (gc (bD (E:=chE) (k:=2) (i:=(i:Int)) (fun _=>rfl) (by decide) (Bl _) h1) (g0 h0)))))))))))))
end
theorem aWv{R:List (List Cel)}{l m:List (List Cel × List Cel)}(h0:(l.length:Int)≤(i:Int)):aA Tp 0 aQm (lV k R l i ((eM k) m) m.length) (.exit 0) (lV k R l i ((eM k) m) m.length):=aA.fi (gI a7 [0,1,2]) [bF] (gc (aO h0) gn)
section
variable{R:List (List Cel)}{Cv:List (List Cel × List Cel)}{Ac Bp:List Cel}(h0:(j:Int)<(R.length:Int))(h1:R[j]? = some Ac)(h2:aK k≤(Ac.length:Int))(h3:eG Tp 186 ((eM k) Cv) (k3V (aL k Ac 0) (aL k Ac 1) (aL k Ac 2)))(h4:(gL ((eM k) Cv) (k3V (aL k Ac 0) (aL k Ac 1) (aL k Ac 2)))=true)(h5:gG ((eM k) Cv) (k3V (aL k Ac 0) (aL k Ac 1) (aL k Ac 2))=some (.sl Bp.length ((Bp.map cE).flatten)))
include h0 h1 h2 h3 h4 h5
theorem aWw{l:List (List Cel × List Cel)}{o o':List (List Cel)}(h6:(0:Int)<(Bp.length:Int))(Kc:Bp.length≤1000000)(h8:[(PV.sl Bp.length ((Bp.map cE).flatten))].length=1*1∧o.length+1≤1000000)(h9:ce j)(Ci:j'=(j+1))(Dj:o'.length=(o.length+1))(Dk:(o'.map rwE).flatten=(((o.map rwE).flatten)++[(PV.sl Bp.length ((Bp.map cE).flatten))])):aA Tp 0 aJf (jT k R l Cv j o.length ((o.map rwE).flatten)) .normal (jT k R l Cv j' o'.length ((o'.map rwE).flatten)):=by
 subst Ci;have k1:=fk 5 (eC k Ac h2) rfl;have k2:=fk 5 (pH Bp Kc) rfl;rw [Dj,Dk];exact aA.fi (gI aa [0,1,2,3,14]) [bT,.x (.sl Ac.length ((Ac.map cE).flatten)),k1.o,bT,.x (.sl Bp.length ((Bp.map cE).flatten)),bT,k2.o] (gc h9 (gc h8 (gc k2 (gc (bX h6) (gc h5 (gc h4 (gc h3 (gc k1 (gc (atm aM h1) (gc (ixn aM h1) (g0 h0)))))))))))
theorem aWx{l:List (List Cel × List Cel)}{o:List (List Cel)}(h6:(Bp.length:Int)≤0)(h7:ce j)(Ci:j'=(j+1)):aA Tp 0 aJf (jT k R l Cv j o.length ((o.map rwE).flatten)) .normal (jT k R l Cv j' o.length ((o.map rwE).flatten)):=by
 subst Ci;have k1:=fk 5 (eC k Ac h2) rfl;exact aA.fi (gI aa bv) [bT,.x (.sl Ac.length ((Ac.map cE).flatten)),k1.o,bT,.x (.sl Bp.length ((Bp.map cE).flatten)),bF] (gc h7 (gc (aO h6) (gc h5 (gc h4 (gc h3 (gc k1 (gc (atm aM h1) (gc (ixn aM h1) (g0 h0)))))))))
end
theorem aWy{R:List (List Cel)}{l Cv:List (List Cel × List Cel)}{o:List (List Cel)}{Ac:List Cel}(h0:(j:Int)<(R.length:Int))(h1:R[j]? = some Ac)(h2:aK k≤(Ac.length:Int))(h3:eG Tp 186 ((eM k) Cv) (k3V (aL k Ac 0) (aL k Ac 1) (aL k Ac 2)))(h4:(gL ((eM k) Cv) (k3V (aL k Ac 0) (aL k Ac 1) (aL k Ac 2)))=false)(h5:ce j)(Ci:j'=(j+1)):aA Tp 0 aJf (jT k R l Cv j o.length ((o.map rwE).flatten)) .normal (jT k R l Cv j' o.length ((o.map rwE).flatten)):=by
 subst Ci;have k1:=fk 5 (eC k Ac h2) rfl;exact aA.fi (gI aa bv) [bT,.x (.sl Ac.length ((Ac.map cE).flatten)),k1.o,bF,bF] (gc h5 (gt ((decide ((0:Int) > 0))=false) (by first | decide | simp) (gc h4 (gc h3 (gc k1 (gc (atm aM h1) (gc (ixn aM h1) (g0 h0))))))))
theorem aWz{R:List (List Cel)}{l Cv:List (List Cel × List Cel)}{o:List (List Cel)}(h0:(R.length:Int)≤(j:Int)):aA Tp 0 aJf (jT k R l Cv j o.length ((o.map rwE).flatten)) (.exit 2) (jT k R l Cv j o.length ((o.map rwE).flatten)):=aA.fi (gI aa bv) [bF] (gc (aO h0) gn)
section
variable{l:List (List Cel × List Cel)}{Aw Ap:List Cel}(h0:(h:Int)<(l.length:Int))(h1:l[h]? = some (Aw,Ap))
include h0 h1
theorem aXa{R u u':List (List Cel)}(h2:(Aw.length:Int)=0)(Kd:Ap.length≤1000000)(h4:[(PV.sl Ap.length ((Ap.map cE).flatten))].length=1*1∧u.length+1≤1000000)(h5:ce h)(Nb:h'=(h+1))(Nc:u'.length=(u.length+1))(Nf:(u'.map rwE).flatten=(((u.map rwE).flatten)++[(PV.sl Ap.length ((Ap.map cE).flatten))])):aA Tp 0 aQn (lW k R l h u.length ((u.map rwE).flatten)) .normal (lW k R l h' u'.length ((u'.map rwE).flatten)):=by
 subst Nb;have k1:=fk 5 (pH Ap Kd) rfl;rw [Nc,Nf];exact aA.fi (gI an [0,1,2,14]) [bT,.x (.agg [(.sl Aw.length ((Aw.map cE).flatten)),(.sl Ap.length ((Ap.map cE).flatten))]),bT,k1.o] (gc h5 (gc h4 (gc k1 (gc (dG h2) (gc (bE (E:=chE) (i:=h) (k:=2) (fun _=>rfl) h1 rfl) (gc (bZ (E:=chE) (i:=h) (k:=2) (fun _=>rfl) h1) (gc (bD (E:=chE) (k:=2) (i:=(h:Int)) (fun _=>rfl) (by decide) (Bl _) h1) (g0 h0))))))))
theorem aXb{R u:List (List Cel)}(h2:(Aw.length:Int)≠0)(h3:ce h)(Nb:h'=(h+1)):aA Tp 0 aQn (lW k R l h u.length ((u.map rwE).flatten)) .normal (lW k R l h' u.length ((u.map rwE).flatten)):=by
 subst Nb;exact aA.fi (gI an cb) [bT,.x (.agg [(.sl Aw.length ((Aw.map cE).flatten)),(.sl Ap.length ((Ap.map cE).flatten))]),bF] (gc h3 (gc (bI h2) (gc (bE (E:=chE) (i:=h) (k:=2) (fun _=>rfl) h1 rfl) (gc (bZ (E:=chE) (i:=h) (k:=2) (fun _=>rfl) h1) (gc (bD (E:=chE) (k:=2) (i:=(h:Int)) (fun _=>rfl) (by decide) (Bl _) h1) (g0 h0))))))
end
theorem aXc{R:List (List Cel)}{l:List (List Cel × List Cel)}{u:List (List Cel)}(h0:(l.length:Int)≤(h:Int)):aA Tp 0 aQn (lW k R l h u.length ((u.map rwE).flatten)) (.exit 4) (lW k R l h u.length ((u.map rwE).flatten)):=aA.fi (gI an cb) [bF] (gc (aO h0) gn)
end
end KV
end Go.Proofs
section
namespace Go.Proofs
open Go.RowKit
namespace KV
open Tryz
set_option maxRecDepth 1000000
abbrev RM:=List (List Cel × List Cel)
def jY(k:Int)(m:RM)(r:List Cel):Option (List Cel):=(m.find? fun p=>decide (Az k p.1=Az k r)).map (·.2)
def zN(k:Int)(c:Chg):RM→RM
 | []=>[]
 | p::r=>if Az k p.1=Az k (crM c) then (crM c,c.2)::r else p::zN k c r
def zO(k:Int)(m:RM)(c:Chg):RM:=if (jY k m (crM c)).isSome=true then zN k c m else m++[(crM c,c.2)]
def apF(k:Int)(m:RM)(c:Chg):Option RM:=if (jY k m (crM c)).getD []=c.1 then some (zO k m c) else none
structure aCs (k:Int) (m:RM):Prop where
 ky:∀ p∈m,jZ k p.1
 nd:(m.map fun p=>Az k p.1).Nodup
 len:∀ p∈m,p.2.length≤1000
theorem bEb(k:Int)(m:RM)(r:List Cel):gL (eM k m) (iG k r)=(jY k m r).isSome:=by
 unfold gL eM jY;rw [List.any_map,Option.isSome_map,Bool.eq_iff_iff,List.find?_isSome,List.any_eq_true];rfl
theorem aQk(k:Int)(m:RM)(r:List Cel):gG (eM k m) (iG k r)=(jY k m r).map aM:=by
 unfold gG eM jY;rw [List.find?_map];have e:((fun e:Value × PV=>decide (jM e.1=jM (iG k r))) ∘ fun p:List Cel × List Cel=>(iG k p.1,aM p.2))=fun p=>decide (Az k p.1=Az k r):=rfl
 rw [e];cases List.find? (fun p:List Cel × List Cel=>decide (Az k p.1=Az k r)) m <;> rfl
theorem bEc(k:Int)(c:Chg):∀ m:RM,aGy (eM k m) (iG k (crM c)) (aM c.2)=eM k (zN k c m)
 | []=>rfl
 | p::m=>by
  have ih:=bEc k c m;unfold eM at ih ⊢
  rw [jP];unfold aGy zN;have e:jM (iG k p.1,aM p.2).1=jM (iG k (crM c))↔Az k p.1=Az k (crM c):=Iff.rfl
  by_cases h:Az k p.1=Az k (crM c)
  ·rw [if_pos (e.2 h),if_pos h];rfl
  ·rw [if_neg (fun h2=>h (e.1 h2)),if_neg h,ih];rfl
theorem aJd(k:Int)(c:Chg):∀ m:RM,(zN k c m).length=m.length
 | []=>rfl
 | p::m=>by
  unfold zN
  split
  ·rfl
  ·rw [gO,aJd k c m,gO]
theorem aCt(k:Int)(c:Chg):∀ m:RM,((zN k c m).map fun p=>Az k p.1)=m.map fun p=>Az k p.1
 | []=>rfl
 | p::m=>by
  unfold zN
  split
  ·rename_i h
   rw [jP,jP,h]
  ·rw [jP,jP,aCt k c m]
theorem zP{k:Int}{c:Chg}{p:List Cel × List Cel}:∀ {m:RM},p∈zN k c m→p∈m∨p=(crM c,c.2)
 | [],h=>by cases h
 | q::m,h=>by
  unfold zN at h
  split at h
  ·rcases oS.1 h with rfl | h
   ·exact .inr rfl
   ·exact .inl (Dd _ h)
  ·rcases oS.1 h with rfl | h
   ·exact .inl (oB ..)
   ·exact (zP h).imp (Dd _) id
theorem aQl{k:Int}{m:RM}{r:List Cel}(h:aCs k m)(hr:jZ k r):eG Tp 186 (eM k m) (iG k r):=by
 refine ⟨D3,fun e he => ?_,kJ hr,fun e he h => ?_,?_⟩
 ·obtain ⟨x,hx,rfl⟩:=tB.1 he
  exact kJ (h.ky x hx)
 ·obtain ⟨x,hx,rfl⟩:=tB.1 he
  exact aFl h
 ·unfold eM
  rw [aAl];exact h.nd
theorem aWs{k:Int}{m:RM}{r:List Cel}(h:jY k m r=none):∀ p∈m,Az k p.1≠Az k r:=fun p hp e=>by
 unfold jY at h
 rw [Option.map_eq_none_iff,List.find?_eq_none] at h
 exact h p hp (by simp [e])
theorem bKp{k:Int}{m:RM}{c:Chg}(h:aCs k m)(hc:jZ k (crM c))(hl:c.2.length≤1000):aCs k (zO k m c):=by
 unfold zO
 split
 ·refine ⟨fun p hp => ?_,by rw [aCt];exact h.nd,fun p hp => ?_⟩
  ·rcases zP hp with h2 | rfl
   ·exact h.ky p h2
   ·exact hc
  ·rcases zP hp with h2 | rfl
   ·exact h.len p h2
   ·exact hl
 ·rename_i hn
  have hn:jY k m (crM c)=none:=by simpa using hn
  refine ⟨fun p hp => ?_,?_,fun p hp => ?_⟩
  ·rcases aAj.1 hp with h2 | h2
   ·exact h.ky p h2
   ·rw [List.mem_singleton] at h2;subst h2;exact hc
  ·rw [uL,List.nodup_append]
   refine ⟨h.nd,by simp,fun a ha b hb => ?_⟩
   obtain ⟨p,hp,rfl⟩:=tB.1 ha;rw [List.map_singleton,List.mem_singleton] at hb
   subst hb;exact aWs hn p hp
  ·rcases aAj.1 hp with h2 | h2
   ·exact h.len p h2
   ·rw [List.mem_singleton] at h2;subst h2;exact hl
theorem aJe{k:Int}{m:RM}{r y:List Cel}(h:jY k m r=some y):∃ p∈m,y=p.2:=by
 unfold jY at h
 obtain ⟨p,hp,rfl⟩:=C8.1 h;exact ⟨p,bHn hp,rfl⟩
theorem bEd{k:Int}{m:RM}{c:Chg}:(zO k m c).length=if (jY k m (crM c)).isSome=true then m.length else m.length+1:=by
 unfold zO
 split
 ·exact aJd k c m
 ·simp
theorem aMx{k:Int}{R:List (List Cel)}{l:List Chg}(hl:l.length≤400)(hk:∀ x∈l,aK k≤((crM x).length:Int))(hy:∀ x∈l,jZ k (crM x))(h2:∀ x∈l,x.1.length≤1000∧x.2.length≤1000) :
  ∀ (q:List Chg) (i:Nat) (m m1:RM),l.drop i=q→aCs k m→i+q.length=l.length→q.foldlM (apF k) m=some m1→aCs k m1∧aF Tp 0 (sub (cd Tryz.f59) b9) (lV k R l i (eM k m) m.length) (.exit 0) (lV k R l l.length (eM k m1) m1.length)
 | [],i,m,m1,hq,hm,hi,hf=>by
  cases hf;have:i=l.length:=by simpa using hi
  subst this;exact ⟨hm,.exit (aWv (by omega)) (by simp)⟩
 | c::q,i,m,m1,hq,hm,hi,hf=>by
  have hlt:i<l.length:=by rw [gO] at hi;omega
  have hx:l[i]? = some c:=by
   have:=congrArg (fun l:List Chg=>l[0]?) hq
   simpa using this
  have Jq:l.drop (i+1)=q:=by
   have:=congrArg List.tail hq;rw [List.tail_drop] at this;exact this
  have hc:=Cn hx;have hK:=aQl hm (hy c hc);have hhit:=bEb k m (crM c);have hlook:=aQk k m (crM c);have hul:=bEd (k:=k) (m:=m) (c:=c);have hok:=bKp hm (hy c hc) (h2 c hc).2;rw [List.foldlM_cons] at hf
  unfold apF at hf
  cases hlk:jY k m (crM c) with
  | some y =>
   rw [hlk] at hf hhit hlook hul
   obtain ⟨p,hp,rfl⟩:=aJe hlk;have hpl:=hm.len p hp
   by_cases he:p.2=c.1
   ·rw [Option.getD_some,if_pos he] at hf
    obtain ⟨h3,L⟩:=aMx hl hk hy h2 q (i+1) _ _ Jq hok (by rw [gO] at hi;omega) hf
    have hupd:zO k m c=zN k c m:=by unfold zO;rw [hlk];rfl
    refine ⟨h3,.step (aWt (Ah:=c.1) (Aj:=c.2) (m':=zO k m c) (by omega) hx (hk c hc) hK hhit hlook (by omega) (by simp [he]) (aW (by omega)) rfl (by rw [hupd];exact (bEc k c m).symm) hul) L⟩
   ·rw [Option.getD_some,if_neg he] at hf
    cases hf
  | none =>
   rw [hlk] at hf hhit hlook hul
   by_cases he:([]:List Cel)=c.1
   ·rw [Option.getD_none,if_pos he] at hf
    obtain ⟨h3,L⟩:=aMx hl hk hy h2 q (i+1) _ _ Jq hok (by rw [gO] at hi;omega) hf
    have hupd:zO k m c=m++[(crM c,c.2)]:=by unfold zO;rw [hlk];rfl
    refine ⟨h3,.step (aWu (Ah:=c.1) (Aj:=c.2) (m':=zO k m c) (by omega) hx (hk c hc) hK hhit (by simp) (by simp [he]) (aW (by omega)) rfl (by rw [hupd];unfold eM;rw [uL];rfl) hul) L⟩
   ·rw [Option.getD_none,if_neg he] at hf
    cases hf
def Fe(k:Int)(m:RM)(r:List Cel):Option (List Cel):=match jY k m r with
 | some y=>if 0<y.length then some y else none
 | none=>none
def Hp(c:Chg):Option (List Cel):=if c.1.length=0 then some c.2 else none
def apL(k:Int)(m:RM)(R:List (List Cel))(l:List Chg):List (List Cel):=R.filterMap (Fe k m)++l.filterMap Hp
theorem bUb{k:Int}{R:List (List Cel)}{l:List Chg}{m1:RM}(cR:eQ k R=0)(hT:fP k R)(hC:bKq k l)(hy:∀ x∈l,jZ k (crM x))(h2:∀ x∈l,x.1.length≤1000∧x.2.length≤1000)
  (hf:l.foldlM (apF k) (R.map fun r=>(r,r))=some m1) (Bc:(apL k m1 R l).length≤12) (h1:1≤(apL k m1 R l).length) (hkk:∀ x∈apL k m1 R l,aK k≤(x.length:Int)) {base:Nat} :
  FV Tp 59 [.p (.agg [aB k,cD R]),.p (.sl l.length ((l.map chE).flatten))] base (.tup [.p (.agg [aB k,cD (isG (bW k) (apL k m1 R l))]),.p (aB 0)]) []:=by
 have hRn:=hT.n;have hln:=hC.n;have Py:aCs k (R.map fun r=>(r,r)):=by
  refine ⟨fun p hp => ?_,?_,fun p hp => ?_⟩
  ·obtain ⟨r,hr,rfl⟩:=tB.1 hp
   exact hT.ky r hr
  ·rw [aAl];exact hT.nd
  ·obtain ⟨r,hr,rfl⟩:=tB.1 hp
   exact (hT.len r hr).2
 obtain ⟨Oa,L0⟩:=aMx (R:=R) hln hC.kk hy h2 l 0 _ m1 rfl Py (by omega) hf
 have e0:eM k (R.map fun r=>(r,r))=bN k R:=by unfold eM bN;rw [aAl];rfl
 rw [e0,oC] at L0
 have L1:=aF.count (P:=Tp) (k:=0) (b:=(sub (cd Tryz.f59) ay)) (e := .exit 2) (R:=jT k R l m1 R.length (R.filterMap (Fe k m1)).length (((R.filterMap (Fe k m1)).map rwE).flatten)) R.length
  (fun j=>jT k R l m1 j ((R.take j).filterMap (Fe k m1)).length ((((R.take j).filterMap (Fe k m1)).map rwE).flatten))
  (fun j hj=>by
   have hx:R[j]? = some R[j]:=Ca hj;have hm:=gP hj;have hl:=hT.len _ hm;have hK:=aQl Oa (hT.ky _ hm);have hfl:=zR (Fe k m1) R j;rw [tN (Fe k m1) hx];generalize R[j]=x at hx hm hl hK
   have hhit:=bEb k m1 x;have hlook:=aQk k m1 x;have hfx:Fe k m1 x=match jY k m1 x with | some y=>if 0<y.length then some y else none | none=>none:=rfl
   rw [hfx];generalize (R.take j).filterMap (Fe k m1)=o at hfl
   cases hlk:jY k m1 x with
   | some y =>
    rw [hlk] at hhit hlook
    obtain ⟨p,hp,rfl⟩:=aJe hlk;have hpl:=Oa.len p hp;dsimp only
    by_cases he:0<p.2.length
    ·rw [if_pos he]
     exact aWw (o':=o++[p.2]) (by omega) hx hl.1 hK hhit hlook (by omega) (by omega) ⟨rfl,by omega⟩ (aW (by omega)) rfl (by simp) (mR o p.2)
    ·rw [if_neg he,Option.toList_none,List.append_nil]
     exact aWx (by omega) hx hl.1 hK hhit hlook (by omega) (aW (by omega)) rfl
   | none =>
    rw [hlk] at hhit hlook
    dsimp only;rw [Option.toList_none,List.append_nil];exact aWy (by omega) hx hl.1 hK hhit (aW (by omega)) rfl)
  (by rw [List.take_length];exact aWz (by omega)) (by simp)
 have hfo:(R.filterMap (Fe k m1)).length≤R.length:=List.length_filterMap_le _ _;have L2:=aF.count (P:=Tp) (k:=0) (b:=(sub (cd Tryz.f59) [1,1,1,1,1,1,1,0,1,0,0])) (e := .exit 4) (R:=lW k R l l.length (apL k m1 R l).length (((apL k m1 R l).map rwE).flatten)) l.length
  (fun j=>lW k R l j (R.filterMap (Fe k m1)++(l.take j).filterMap Hp).length (((R.filterMap (Fe k m1)++(l.take j).filterMap Hp).map rwE).flatten))
  (fun j hj=>by
   have hx:l[j]? = some l[j]:=Ca hj;have hm:=gP hj;have hc:=h2 _ hm;have hfl:=zR Hp l j;rw [tN Hp hx,← List.append_assoc];have hlen:(R.filterMap (Fe k m1)++(l.take j).filterMap Hp).length≤R.length+l.length:=by rw [gM];omega
   generalize R.filterMap (Fe k m1)++(l.take j).filterMap Hp=u at hlen
   generalize l[j]=c at hx hm hc
   have hfx:Hp c=if c.1.length=0 then some c.2 else none:=rfl
   rw [hfx]
   by_cases he:c.1.length=0
   ·rw [if_pos he]
    exact aXa (Aw:=c.1) (Ap:=c.2) (u':=u++[c.2]) (by omega) hx (by omega) (by omega) ⟨rfl,by omega⟩ (aW (by omega)) rfl (by simp) (mR u c.2)
   ·rw [if_neg he,Option.toList_none,List.append_nil]
    exact aXb (Aw:=c.1) (Ap:=c.2) (by omega) hx (by omega) (aW (by omega)) rfl)
  (by rw [List.take_length];exact aXc (by omega)) (by simp)
 have e2:R.filterMap (Fe k m1)++(l.take 0).filterMap Hp=R.filterMap (Fe k m1):=by simp
 rw [e2] at L2
 have:=bUc (Hf:=apL k m1 R l) cR hC hT L0 L1 L2 (by omega) Bc h1 hkk
 rw [fO] at this
 exact FV.frz this rfl
end KV
end Go.Proofs
end
section
namespace Go.Proofs
open Go.RowKit
namespace KV
open Tryz
abbrev bYt(a b c:Int):AO := .box 186 [.p (aB a),.p (aB b),.p (aB c)]
theorem bUa(a b c:Int):FMM Tp 108 [.arr 0 0 1] [some (bYt a b c)] (.p (.sl 1 [aB a])) [some (bYt a b c)]:=fun C w us hus hM n=>by
 cases hus with
 | cons _ u _ Hj hu hr =>
 cases hr;cases hu with
 | arr _ _ _ _ h0 ha h =>
 rcases h _ rfl rfl with ⟨h1,_⟩ | ⟨g,cap,rfl,h1,h2,h3⟩
 ·cases h1
 obtain ⟨g',arr,q0,q1,q2,q3,q4⟩:=hM.box 0 _ _ rfl;rw [h3] at q0;cases q0
 have hv:arr.getD 0 undef = .int .i64 a:=by
  have:=q3 0 (by simp)
  simp only [List.getElem_cons_zero] at this
  generalize arr.getD 0 undef=z at this ⊢
  cases this with | p _ _ h=>cases h;rfl
 have hcell:w.cell? ⟨g,0,none⟩=some (.int .i64 a):=by
  have hs:0<arr.size:=by rw [q2];simp
  unfold World.cell?;rw [q1];simp only [Option.isSome_none];rw [← hv];simp [Array.getD,hs]
 refine (callsIn_wide.2 (Tryz.slices_Clone_int g 0 1 cap [a] w (by simp) (by decide) (fun j hj => ?_))).mono ?_
 ·have:j=0:=by simpa using hj
  subst this;exact hcell
 ·rintro e w' ⟨v,rfl,⟨o1,o2⟩,hne,hB⟩
  obtain ⟨f1,m1⟩:=oF (C:=C) (kb:=none) hM hB.os hB.tape hB.output hB.size (fun k hk=>hB.block k hk)
  rcases o2 with ⟨_,e⟩ | ⟨g2,M8,cur,rfl,r1,r2,r3,r4,r5,r6⟩
  ·cases e
  refine ⟨_,rfl,_,f1,m1,.p _ _ (.sl 1 [aB a] _ M8 (fun _ => .int .i64 a) r3 r4 (fun i hi => ?_) (fun i hi => ?_) (fun i hi=>rfl))⟩
  ·have:i=0:=by simpa using hi
   subst this;have hl:g2<w'.heap.size:=(Eb.1 r2).1;refine ⟨g2,0,rfl,.inr ⟨r1,hl,by simp⟩,?_⟩
   unfold World.cell?;rw [show (0+0:Nat)=0 from rfl,r2]
   simp only [Option.isSome_none];have h6:=congrArg (fun l:List Value=>l[0]?) r6
   have hc:0<cur.size:=by rw [r5];omega
   simpa [List.getElem?_take,hc] using h6
  ·have:i=0:=by simpa using hi
   subst this;exact .v _
end KV
end Go.Proofs
end
