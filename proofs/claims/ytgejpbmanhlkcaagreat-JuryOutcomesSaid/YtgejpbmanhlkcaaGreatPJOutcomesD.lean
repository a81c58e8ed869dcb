/- Parts of the proof of JOutcomes: laws of walks, contracts of functions, plain models. No condition. -/
import Derived.RangeFuncNested
import Derived.Sort.LoopGhostIn
import Derived.Lib.OwnBridge
import Derived.Shelf.Slices.Clone
import Derived.Shelf.Small.Bits
import Derived.Shelf.Small.Wraps
import Derived.Shelf.Strconv.Itoa0
import Derived.Shelf.Sort.Plain
import Derived.Shelf.Slices.Turned
import Derived.Ground.Names2Prog
import Derived.Shelf.Slices.CompactI
import Derived.Shelf.Slices.SearchI
import Derived.Shelf.Slices.Cells
import Derived.Shelf.Slices.In.SortNone
import Derived.Ground.SlgnProg
import Derived.Shelf.SlicesE.Clone
import Derived.Test.YtgejpbmanhlkcaaGreatProg
import Derived.Sort.OwnSortedInts
import Derived.OneCell
import Derived.Test.YtgejpbmanhlkcaaGreatPJOutcomesC
set_option linter.unusedVariables false
set_option linter.unusedSimpArgs false
set_option maxRecDepth 100000
namespace Go.Proofs
namespace KV
open Tryz
section
variable {b6 is r0 Bs Lk Jh Ji:Bool}{k c0 c1 c2 c3 c4 c5 x0 x1 x2 x3 x4 x5 z0 z1 z2 z3 z4 z5 c0'4 c0'5 c1'5 c1'6 c2'6 c2'7 c3'7 c3'8 c4'8 c4'9 c5'9 Aa Ab Ac Ad Ae Af c5'10:Int}{T t T7 t' Er Fp Jn T107 T109:Lqb}{l y0 Vm Oi Vn:Lqq}{i n i' Bm E0 Dc Rm Oj Vo base:Nat}{ov:PV}
variable {dl:Int}{sk dc:Lqq}

noncomputable abbrev kE:Code:=sub (cd Tryz.f154) [1,1,1,0,1,0,0]
noncomputable abbrev lI:Code:=sub (cd Tryz.f153) [1,0,1,0,0]
abbrev uM(dl:Int)(sk dc:Lqq):AV := .rp (aZ dl sk dc) 0
abbrev dO(dl:Int)(sk dc:Lqq)(ov:PV)(T:Lqb):Mem:=[some (.box 130 [(uM dl sk dc)]),some (.box 33 [(.p ov)]),some (.box 139 [(.fn 154 [] [(.ptr 4 0),(.ptr 5 0),(.ptr 0 0),(.ptr 2 0)]),(.fn 156 [] [(.ptr 6 0)]),(.fn 157 [] [(.ptr 2 0),(.ptr 1 0)]),(.fn 160 [] [(.ptr 2 0)]),(.fn 158 [] [(.ptr 6 0)])]),some (.mp (aQ T) T.length),some (.box 207 [(.mp 3)]),some (.box 124 [(.fn 146 [(uM dl sk dc)] [])]),some (.box 209 [(.fn 153 [] [(.ptr 0 0),(.ptr 2 0)])])]
abbrev aAx:AV:=(.agg [(.fn 154 [] [(.ptr 4 0),(.ptr 5 0),(.ptr 0 0),(.ptr 2 0)]),(.fn 156 [] [(.ptr 6 0)]),(.fn 157 [] [(.ptr 2 0),(.ptr 1 0)]),(.fn 160 [] [(.ptr 2 0)]),(.fn 158 [] [(.ptr 6 0)])])
abbrev Gp(dl:Int)(sk dc:Lqq):AO:=.box 130 [.rp (aZ dl sk dc) 0]
abbrev Hi:AO:=.box 139 [(.fn 154 [] [(.ptr 4 0),(.ptr 5 0),(.ptr 0 0),(.ptr 2 0)]),(.fn 156 [] [(.ptr 6 0)]),(.fn 157 [] [(.ptr 2 0),(.ptr 1 0)]),(.fn 160 [] [(.ptr 2 0)]),(.fn 158 [] [(.ptr 6 0)])]
abbrev Gq(dl:Int)(sk dc:Lqq):AO:=.box 124 [.fn 146 [.rp (aZ dl sk dc) 0] []]
abbrev It:AO:=.box 209 [(.fn 153 [] [(.ptr 0 0),(.ptr 2 0)])]
abbrev vU(dl:Int)(sk dc:Lqq)(ov:PV)(T:Lqb):Upd:=[(0,Gp dl sk dc),(1,.box 33 [.p ov]),(2,Hi),(3,.mp (aQ T) T.length),(4,.box 207 [.mp 3]),(5,Gq dl sk dc),(6,It)]
abbrev uN(dl:Int)(sk dc:Lqq)(ov:PV)(x:List Int)(b:Bool)(T T2:Lqb):Prop:=FMM Tp 154 [.p (.agg (x.map aB)),.ptr 4 0,.ptr 5 0,.ptr 0 0,.ptr 2 0] (dO dl sk dc ov T) (pB b) (dO dl sk dc ov T2)
abbrev cJj(g:Nat)(dl:Int)(sk dc:Lqq)(ov:PV)(x z:List Int)(b:Bool)(T T2:Lqb):Prop:=FMM Tp 153 [.p (.agg (x.map aB)),.fn g [] [],.ptr 0 0,.ptr 2 0] (dO dl sk dc ov T) (.tup [.p (.agg (z.map aB)),.p (blP b)]) (dO dl sk dc ov T2)
abbrev aRv(dl:Int)(sk dc:Lqq)(ov:PV)(x z:List Int)(b:Bool)(T T2:Lqb):Prop:=FMM Tp 156 [.p (.agg (x.map aB)),.ptr 6 0] (dO dl sk dc ov T) (.tup [.p (.agg (z.map aB)),.p (blP b)]) (dO dl sk dc ov T2)
abbrev cJk(dl:Int)(sk dc:Lqq)(ov:PV)(x z:List Int)(b:Bool)(T T2:Lqb):Prop:=FMM Tp 158 [.p (.agg (x.map aB)),.ptr 6 0] (dO dl sk dc ov T) (.tup [.p (.agg (z.map aB)),.p (blP b)]) (dO dl sk dc ov T2)
abbrev bZg(dl:Int)(sk dc:Lqq)(ov:PV)(x:List Int)(b:Bool)(T T2:Lqb):Prop:=FMM Tp 157 [.p (.agg (x.map aB)),.ptr 2 0,.ptr 1 0] (dO dl sk dc ov T) (pB b) (dO dl sk dc ov T2)
abbrev aDf(dl:Int)(sk dc:Lqq)(ov:PV)(x:List Int)(m:Int)(T T2:Lqb):Prop:=FMM Tp 160 [.p (.agg (x.map aB)),.ptr 2 0] (dO dl sk dc ov T) (pI m) (dO dl sk dc ov T2)
theorem bZh(h0:k=8):FV Tp 155 [(pI k)] base (pB true) []:=FV.fi func155 [bT,bT,bT] (Ak (bX h0) gn)
theorem bZi(h0:k≠8)(A6:r0=(k == 9)):FV Tp 155 [(pI k)] base (pB r0) []:=by
 subst A6;exact FV.fi func155 [bF,bF,bF] (Ak (aS h0) gn)
theorem bZj(A6:r0=(k == 6)):FV Tp 159 [(pI k)] base (pB r0) []:=by
 subst A6;exact FV.fi func159 [] gn
theorem cJl(h0:k=4):FV Tp 148 [(pI k)] base (pB true) []:=FV.fi func148 [bT,bT,bT] (Ak (bX h0) gn)
theorem cJm(h0:k≠4)(A6:r0=(k == 7)):FV Tp 148 [(pI k)] base (pB r0) []:=by
 subst A6;exact FV.fi func148 [bF,bF,bF] (Ak (aS h0) gn)
theorem pJ(k:Int){base:Nat}:FV Tp 155 [.p (aB k)] base (pB (cT k)) []:=by
 by_cases h:k=8
 ·rw [show cT k=true by simp [cT,h]];exact bZh h
 ·exact bZi h (by simp [cT,h])
theorem aNp(k:Int){base:Nat}:FV Tp 159 [.p (aB k)] base (pB (k == 6)) []:=bZj rfl
theorem aAy(k:Int){base:Nat}:FV Tp 148 [.p (aB k)] base (pB (fA k)) []:=by
 by_cases h:k=4
 ·rw [show fA k=true by simp [fA,h]];exact cJl h
 ·exact cJm h (by simp [fA,h])
theorem cJn(h0:(fA x1)=true)(A6:r0=(decide (x2 > dl))):FV Tp 146 [(.rp (aZ dl sk dc) 0),(.p (dcE x0 x1 x2 x3 x4 x5))] base (pB r0) []:=by
 subst A6;exact FV.fi func146 ([.c (pB (fA x1)) []]++rT 7++[.x (aB dl),bT,bT]) (Aq h0 (gr (aB dl) (Ja h0 (gc (fk 1 (aAy x1) rfl) gn))))
theorem cJo(h0:(fA x1)=false):FV Tp 146 [(.rp (aZ dl sk dc) 0),(.p (dcE x0 x1 x2 x3 x4 x5))] base (pB false) []:=FV.fi func146 ([.c (pB (fA x1)) []]++rF 9) (E1 h0 (gc h0 (gc (fk 1 (aAy x1) rfl) gn)))
theorem aNq(dl:Int)(sk dc:Lqq)(x0 x1 x2 x3 x4 x5:Int){base:Nat}:FV Tp 146 [uM dl sk dc,.p (.agg [aB x0,aB x1,aB x2,aB x3,aB x4,aB x5])] base (pB (iI dl [x0,x1,x2,x3,x4,x5])) []:=by
 cases h:fA x1 with
 | true=>exact cJn h (by show (fA x1 && decide (dl<x2))=_;rw [h];rfl)
 | false=>rw [show iI dl [x0,x1,x2,x3,x4,x5]=false by show (fA x1 && decide (dl<x2))=_;rw [h];rfl];exact cJo h
abbrev wF(ov:PV)(n:Int)(b:Bool):Prop:=∀ base:Nat,FV Tp 52 [.p ov,.p (aB n)] base (pB b) []
def eG(dl:Int)(sk dc:Lqq)(ov:PV)(i:Nat)(l:Lqq)(n:Nat)(te:List (Value × PV))(tk:Nat)(c0 c1 c2 c3 c4 c5:Int):St:=⟨fr 35 [(1,(.fn 155 [] [])),(3,(.ptr 2 0)),(6,(.ptr 7 0)),(16,(.p (fS l))),(17,(pI (n:Int))),(18,(pI (i:Int)))],[some (Gp dl sk dc),some (.box 33 [(.p ov)]),some Hi,some (.mp te tk),some (.box 207 [(.mp 3)]),some (Gq dl sk dc),some It,some (.box 44 [(pI c0),(pI c1),(pI c2),(pI c3),(pI c4),(pI c5)])]⟩
section
variable(h0:cR .i64 (abE dc) (.int .i64 x0))(h1:(eA (abE dc) (.int .i64 x0))=true)(h2:gG (abE dc) (.int .i64 x0)=some (fS y0))
include h0 h1 h2
theorem bZk(Dl:aD Tp 7 lI (eG dl sk dc ov 0 y0 y0.length (aQ T) T.length 0 0 0 0 0 0) (.exit 0) (eG dl sk dc ov E0 Oi Oj (aQ Fp) Fp.length c0'5 c1'6 c2'7 c3'8 c4'9 c5'10)):FMM Tp 153 [(.p (dcE x0 x1 x2 x3 x4 x5)),(.fn 155 [] []),(.ptr 0 0),(.ptr 2 0)] (dO dl sk dc ov T) (.tup [(.p (dcE 0 0 0 0 0 0)),(pB false)]) (dO dl sk dc ov Fp):=FMM.fi 7 gE func153 [.x (.mp (abE dc)),bT,.x (fS y0),Dl.k 1 (gI cb [8])] (gc Dl.code (gc h2 (gc h1 (gc h0 (gr (.mp (abE dc)) gn)))))
theorem bZl(Dl:aD Tp 7 lI (eG dl sk dc ov 0 y0 y0.length (aQ T) T.length 0 0 0 0 0 0) .ret (bQ (eG dl sk dc ov E0 Oi Oj (aQ Fp) Fp.length c0'5 c1'6 c2'7 c3'8 c4'9 c5'10) [(7,(.kb true))])):FMM Tp 153 [(.p (dcE x0 x1 x2 x3 x4 x5)),(.fn 155 [] []),(.ptr 0 0),(.ptr 2 0)] (dO dl sk dc ov T) (.tup [(.p (dcE c0'5 c1'6 c2'7 c3'8 c4'9 c5'10)),(pB true)]) (dO dl sk dc ov Fp):=FMM.fi 7 gE func153 [.x (.mp (abE dc)),bT,.x (fS y0),Dl.k 1 (gI cb [8])] (gc Dl.code (gc h2 (gc h1 (gc h0 (gr (.mp (abE dc)) gn)))))
end
theorem bZm(h0:cR .i64 (abE dc) (.int .i64 x0))(h1:(eA (abE dc) (.int .i64 x0))=false)(C6:aD Tp 7 lI (eG dl sk dc ov 0 ([]:Lqq) 0 (aQ T) T.length 0 0 0 0 0 0) (.exit 0) (eG dl sk dc ov Bm Vm Rm (aQ Er) Er.length c0'4 c1'5 c2'6 c3'7 c4'8 c5'9)):FMM Tp 153 [(.p (dcE x0 x1 x2 x3 x4 x5)),(.fn 155 [] []),(.ptr 0 0),(.ptr 2 0)] (dO dl sk dc ov T) (.tup [(.p (dcE 0 0 0 0 0 0)),(pB false)]) (dO dl sk dc ov Er):=FMM.fi 7 gE func153 [.x (.mp (abE dc)),bF,C6.k 1 (gN cb [8] [(16,99999)])] (gc C6.code (gc h1 (gc h0 (gr (.mp (abE dc)) gn))))
section
variable(h0:(i:Int)<(n:Int))(h1:l[i]? = some [Aa,Ab,Ac,Ad,Ae,Af])(h2:uni 6 l)
include h0 h1 h2
theorem aXp(h3:(cT Ab)=true)(h4:uN dl sk dc ov [Aa,Ab,Ac,Ad,Ae,Af] Bs t T107)(h5:Bs=true)(Bh:aQ t'=(aQ T107))(Bi:t'.length=T107.length):aC Tp 7 lI (eG dl sk dc ov i l n (aQ t) t.length c0 c1 c2 c3 c4 c5) .ret (bQ (eG dl sk dc ov i l n (aQ t') t'.length Aa Ab Ac Ad Ae Af) [(7,(.kb true))]):=by
 have k1:=fk 9 (pJ Ab) rfl;have k2:=mq fa 9 h4;rw [Bh,Bi];exact aC.fi (gI [0,1,2,1,4,2,8,8,19,15] [7]) [bT,.x (dcE Aa Ab Ac Ad Ae Af),k1.o,bT,bT,bT,bT,k2.o,bT,bT] (gc h5 (gc h3 (gc k2 (Au h3 (gc k1 (gfl h2 h1 (g0 h0)))))))
theorem aXq(h3:(cT Ab)=true)(h4:uN dl sk dc ov [Aa,Ab,Ac,Ad,Ae,Af] Bs t T107)(h5:Bs=false)(h6:gk i)(Ai:i'=(i+1))(Bh:aQ t'=(aQ T107))(Bi:t'.length=T107.length):aC Tp 7 lI (eG dl sk dc ov i l n (aQ t) t.length c0 c1 c2 c3 c4 c5) .normal (eG dl sk dc ov i' l n (aQ t') t'.length c0 c1 c2 c3 c4 c5):=by
 subst Ai;have k1:=fk 9 (pJ Ab) rfl;have k2:=mq fa 9 h4;rw [Bh,Bi];exact aC.fi (gI cb [7]) [bT,.x (dcE Aa Ab Ac Ad Ae Af),k1.o,bT,bT,bT,bT,k2.o,bT,bF] (gc h6 (gc h5 (gc h3 (gc k2 (Au h3 (gc k1 (gfl h2 h1 (g0 h0))))))))
theorem aXr(h3:(cT Ab)=false)(h4:gk i)(Ai:i'=(i+1)):aC Tp 7 lI (eG dl sk dc ov i l n (aQ t) t.length c0 c1 c2 c3 c4 c5) .normal (eG dl sk dc ov i' l n (aQ t) t.length c0 c1 c2 c3 c4 c5):=by
 subst Ai;have k1:=fk 9 (pJ Ab) rfl;exact aC.fi (gI cb [7]) ([bT,.x (dcE Aa Ab Ac Ad Ae Af),k1.o]++rF 5) (gc h4 (B0 h3 (gc k1 (gfl h2 h1 (g0 h0)))))
end
theorem aXs(h0:(n:Int)≤(i:Int)):aC Tp 7 lI (eG dl sk dc ov i l n (aQ t) t.length c0 c1 c2 c3 c4 c5) (.exit 0) (eG dl sk dc ov i l n (aQ t) t.length c0 c1 c2 c3 c4 c5):=aC.fi (gI cb [7]) [bF] (gc (aK h0) gn)
def eH(dl:Int)(sk dc:Lqq)(ov:PV)(i:Nat)(l:Lqq)(n:Nat)(te:List (Value × PV))(tk:Nat)(c0 c1 c2 c3 c4 c5:Int):St:=⟨fr 35 [(1,(.fn 159 [] [])),(3,(.ptr 2 0)),(6,(.ptr 7 0)),(16,(.p (fS l))),(17,(pI (n:Int))),(18,(pI (i:Int)))],[some (Gp dl sk dc),some (.box 33 [(.p ov)]),some Hi,some (.mp te tk),some (.box 207 [(.mp 3)]),some (Gq dl sk dc),some It,some (.box 44 [(pI c0),(pI c1),(pI c2),(pI c3),(pI c4),(pI c5)])]⟩
section
variable(h0:cR .i64 (abE dc) (.int .i64 x0))(h1:(eA (abE dc) (.int .i64 x0))=true)(h2:gG (abE dc) (.int .i64 x0)=some (fS y0))
include h0 h1 h2
theorem bZn(Dl:aD Tp 7 lI (eH dl sk dc ov 0 y0 y0.length (aQ T) T.length 0 0 0 0 0 0) (.exit 0) (eH dl sk dc ov E0 Oi Oj (aQ Fp) Fp.length c0'5 c1'6 c2'7 c3'8 c4'9 c5'10)):FMM Tp 153 [(.p (dcE x0 x1 x2 x3 x4 x5)),(.fn 159 [] []),(.ptr 0 0),(.ptr 2 0)] (dO dl sk dc ov T) (.tup [(.p (dcE 0 0 0 0 0 0)),(pB false)]) (dO dl sk dc ov Fp):=FMM.fi 7 gE func153 [.x (.mp (abE dc)),bT,.x (fS y0),Dl.k 1 (gI cb [8])] (gc Dl.code (gc h2 (gc h1 (gc h0 (gr (.mp (abE dc)) gn)))))
theorem bZo(Dl:aD Tp 7 lI (eH dl sk dc ov 0 y0 y0.length (aQ T) T.length 0 0 0 0 0 0) .ret (bQ (eH dl sk dc ov E0 Oi Oj (aQ Fp) Fp.length c0'5 c1'6 c2'7 c3'8 c4'9 c5'10) [(7,(.kb true))])):FMM Tp 153 [(.p (dcE x0 x1 x2 x3 x4 x5)),(.fn 159 [] []),(.ptr 0 0),(.ptr 2 0)] (dO dl sk dc ov T) (.tup [(.p (dcE c0'5 c1'6 c2'7 c3'8 c4'9 c5'10)),(pB true)]) (dO dl sk dc ov Fp):=FMM.fi 7 gE func153 [.x (.mp (abE dc)),bT,.x (fS y0),Dl.k 1 (gI cb [8])] (gc Dl.code (gc h2 (gc h1 (gc h0 (gr (.mp (abE dc)) gn)))))
end
theorem bZp(h0:cR .i64 (abE dc) (.int .i64 x0))(h1:(eA (abE dc) (.int .i64 x0))=false)(C6:aD Tp 7 lI (eH dl sk dc ov 0 ([]:Lqq) 0 (aQ T) T.length 0 0 0 0 0 0) (.exit 0) (eH dl sk dc ov Bm Vm Rm (aQ Er) Er.length c0'4 c1'5 c2'6 c3'7 c4'8 c5'9)):FMM Tp 153 [(.p (dcE x0 x1 x2 x3 x4 x5)),(.fn 159 [] []),(.ptr 0 0),(.ptr 2 0)] (dO dl sk dc ov T) (.tup [(.p (dcE 0 0 0 0 0 0)),(pB false)]) (dO dl sk dc ov Er):=FMM.fi 7 gE func153 [.x (.mp (abE dc)),bF,C6.k 1 (gN cb [8] [(16,99999)])] (gc C6.code (gc h1 (gc h0 (gr (.mp (abE dc)) gn))))
section
variable(h0:(i:Int)<(n:Int))(h1:l[i]? = some [Aa,Ab,Ac,Ad,Ae,Af])(h2:uni 6 l)
include h0 h1 h2
theorem aXt(h3:(Ab == 6)=true)(h4:uN dl sk dc ov [Aa,Ab,Ac,Ad,Ae,Af] Bs t T107)(h5:Bs=true)(Bh:aQ t'=(aQ T107))(Bi:t'.length=T107.length):aC Tp 7 lI (eH dl sk dc ov i l n (aQ t) t.length c0 c1 c2 c3 c4 c5) .ret (bQ (eH dl sk dc ov i l n (aQ t') t'.length Aa Ab Ac Ad Ae Af) [(7,(.kb true))]):=by
 have k1:=mq fa 9 h4;rw [Bh,Bi];exact aC.fi (gI [0,1,2,1,4,2,8,8,19,15] [7]) [bT,.x (dcE Aa Ab Ac Ad Ae Af),.c (pB (Ab == 6)) [],bT,bT,bT,bT,k1.o,bT,bT] (gc h5 (gc h3 (gc k1 (Au h3 (gc (fk 9 (aNp Ab) rfl) (gfl h2 h1 (g0 h0)))))))
theorem aXu(h3:(Ab == 6)=true)(h4:uN dl sk dc ov [Aa,Ab,Ac,Ad,Ae,Af] Bs t T107)(h5:Bs=false)(h6:gk i)(Ai:i'=(i+1))(Bh:aQ t'=(aQ T107))(Bi:t'.length=T107.length):aC Tp 7 lI (eH dl sk dc ov i l n (aQ t) t.length c0 c1 c2 c3 c4 c5) .normal (eH dl sk dc ov i' l n (aQ t') t'.length c0 c1 c2 c3 c4 c5):=by
 subst Ai;have k1:=mq fa 9 h4;rw [Bh,Bi];exact aC.fi (gI cb [7]) [bT,.x (dcE Aa Ab Ac Ad Ae Af),.c (pB (Ab == 6)) [],bT,bT,bT,bT,k1.o,bT,bF] (gc h6 (gc h5 (gc h3 (gc k1 (Au h3 (gc (fk 9 (aNp Ab) rfl) (gfl h2 h1 (g0 h0))))))))
theorem aXv(h3:(Ab == 6)=false)(h4:gk i)(Ai:i'=(i+1)):aC Tp 7 lI (eH dl sk dc ov i l n (aQ t) t.length c0 c1 c2 c3 c4 c5) .normal (eH dl sk dc ov i' l n (aQ t) t.length c0 c1 c2 c3 c4 c5):=by
 subst Ai;exact aC.fi (gI cb [7]) ([bT,.x (dcE Aa Ab Ac Ad Ae Af),.c (pB (Ab == 6)) []]++rF 5) (gc h4 (B0 h3 (gc (fk 9 (aNp Ab) rfl) (gfl h2 h1 (g0 h0)))))
end
theorem aXw(h0:(n:Int)≤(i:Int)):aC Tp 7 lI (eH dl sk dc ov i l n (aQ t) t.length c0 c1 c2 c3 c4 c5) (.exit 0) (eH dl sk dc ov i l n (aQ t) t.length c0 c1 c2 c3 c4 c5):=aC.fi (gI cb [7]) [bF] (gc (aK h0) gn)
def dD(dl:Int)(sk dc:Lqq)(ov:PV)(x0 x1 x2 x3 x4 x5:Int)(is:Bool)(i:Nat)(l:Lqq)(n:Nat)(te:List (Value × PV))(tk:Nat):St:=⟨fr 79 [(1,(.ptr 4 0)),(4,(.ptr 2 0)),(5,(.ptr 7 0)),(6,(.kb false)),(9,(pB is)),(32,(.p (fS l))),(33,(pI (n:Int))),(34,(pI (i:Int)))],[some (Gp dl sk dc),some (.box 33 [(.p ov)]),some Hi,some (.mp te tk),some (.box 207 [(.mp 3)]),some (Gq dl sk dc),some It,some (.box 44 [(pI x0),(pI x1),(pI x2),(pI x3),(pI x4),(pI x5)])]⟩
theorem cJp{y0:Bool}(h0:cR .i64 (aQ T) (.int .i64 x0))(h1:(eA (aQ T) (.int .i64 x0))=true)(h2:gG (aQ T) (.int .i64 x0)=some (blP y0)):FMM Tp 154 [(.p (dcE x0 x1 x2 x3 x4 x5)),(.ptr 4 0),(.ptr 5 0),(.ptr 0 0),(.ptr 2 0)] (dO dl sk dc ov T) (pB y0) (dO dl sk dc ov T):=FMM.fi 7 gE func154 [bT,.x (blP y0)] (gc h2 (gc h1 (gc h0 gn)))
section
variable(h0:cR .i64 (aQ T) (.int .i64 x0))(h1:(eA (aQ T) (.int .i64 x0))=false)(h2:cR .i64 (abE dc) (.int .i64 x0))(h3:(eA (abE dc) (.int .i64 x0))=true)(h4:gG (abE dc) (.int .i64 x0)=some (fS y0))(Dp:aD Tp 7 kE (dD dl sk dc ov x0 x1 x2 x3 x4 x5 (!(iI dl [x0,x1,x2,x3,x4,x5])) 0 y0 y0.length (aQ T) T.length) (.exit 0) (dD dl sk dc ov x0 x1 x2 x3 x4 x5 Ji Dc Vn Vo (aQ Jn) Jn.length))(h6:cR .i64 (aQ Jn) (.int .i64 x0))
include h0 h1 h2 h3 h4 Dp h6
theorem cJq(h7:(eA (aQ Jn) (.int .i64 x0))=true):FMM Tp 154 [(.p (dcE x0 x1 x2 x3 x4 x5)),(.ptr 4 0),(.ptr 5 0),(.ptr 0 0),(.ptr 2 0)] (dO dl sk dc ov T) (pB Ji) [some (Gp dl sk dc),some (.box 33 [(.p ov)]),some Hi,some (.mp (rM (aQ Jn) (.int .i64 x0) (blP Ji)) Jn.length),some (.box 207 [(.mp 3)]),some (Gq dl sk dc),some It]:=have k1:=fk 8 (aNq dl sk dc x0 x1 x2 x3 x4 x5) rfl;FMM.fi 7 gE func154 [bF,k1.o,.x (.mp (abE dc)),bT,.x (fS y0),Dp.k 1 (gI bw [7]),bT] (gc h7 (gc h6 (gc Dp.code (gc h4 (gc h3 (gc h2 (gr (.mp (abE dc)) (gc k1 (gc h1 (gc h0 gn))))))))))
theorem cJr(h7:(eA (aQ Jn) (.int .i64 x0))=false):FMM Tp 154 [(.p (dcE x0 x1 x2 x3 x4 x5)),(.ptr 4 0),(.ptr 5 0),(.ptr 0 0),(.ptr 2 0)] (dO dl sk dc ov T) (pB Ji) [some (Gp dl sk dc),some (.box 33 [(.p ov)]),some Hi,some (.mp ((aQ Jn)++[((.int .i64 x0),(blP Ji))]) (Jn.length+1)),some (.box 207 [(.mp 3)]),some (Gq dl sk dc),some It]:=have k1:=fk 8 (aNq dl sk dc x0 x1 x2 x3 x4 x5) rfl;FMM.fi 7 gE func154 [bF,k1.o,.x (.mp (abE dc)),bT,.x (fS y0),Dp.k 1 (gI bw [7]),bF] (gc h7 (gc h6 (gc Dp.code (gc h4 (gc h3 (gc h2 (gr (.mp (abE dc)) (gc k1 (gc h1 (gc h0 gn))))))))))
end
section
variable(h0:cR .i64 (aQ T) (.int .i64 x0))(h1:(eA (aQ T) (.int .i64 x0))=false)(h2:cR .i64 (abE dc) (.int .i64 x0))(h3:(eA (abE dc) (.int .i64 x0))=false)(Ff:aD Tp 7 kE (dD dl sk dc ov x0 x1 x2 x3 x4 x5 (!(iI dl [x0,x1,x2,x3,x4,x5])) 0 ([]:Lqq) 0 (aQ T) T.length) (.exit 0) (dD dl sk dc ov x0 x1 x2 x3 x4 x5 Jh E0 Oi Oj (aQ Fp) Fp.length))(h5:cR .i64 (aQ Fp) (.int .i64 x0))
include h0 h1 h2 h3 Ff h5
theorem cJs(h6:(eA (aQ Fp) (.int .i64 x0))=true):FMM Tp 154 [(.p (dcE x0 x1 x2 x3 x4 x5)),(.ptr 4 0),(.ptr 5 0),(.ptr 0 0),(.ptr 2 0)] (dO dl sk dc ov T) (pB Jh) [some (Gp dl sk dc),some (.box 33 [(.p ov)]),some Hi,some (.mp (rM (aQ Fp) (.int .i64 x0) (blP Jh)) Fp.length),some (.box 207 [(.mp 3)]),some (Gq dl sk dc),some It]:=have k1:=fk 8 (aNq dl sk dc x0 x1 x2 x3 x4 x5) rfl;FMM.fi 7 gE func154 [bF,k1.o,.x (.mp (abE dc)),bF,Ff.k 1 (gN bw [7] [(32,99999)]),bT] (gc h6 (gc h5 (gc Ff.code (gc h3 (gc h2 (gr (.mp (abE dc)) (gc k1 (gc h1 (gc h0 gn)))))))))
theorem cJt(h6:(eA (aQ Fp) (.int .i64 x0))=false):FMM Tp 154 [(.p (dcE x0 x1 x2 x3 x4 x5)),(.ptr 4 0),(.ptr 5 0),(.ptr 0 0),(.ptr 2 0)] (dO dl sk dc ov T) (pB Jh) [some (Gp dl sk dc),some (.box 33 [(.p ov)]),some Hi,some (.mp ((aQ Fp)++[((.int .i64 x0),(blP Jh))]) (Fp.length+1)),some (.box 207 [(.mp 3)]),some (Gq dl sk dc),some It]:=have k1:=fk 8 (aNq dl sk dc x0 x1 x2 x3 x4 x5) rfl;FMM.fi 7 gE func154 [bF,k1.o,.x (.mp (abE dc)),bF,Ff.k 1 (gN bw [7] [(32,99999)]),bF] (gc h6 (gc h5 (gc Ff.code (gc h3 (gc h2 (gr (.mp (abE dc)) (gc k1 (gc h1 (gc h0 gn)))))))))
end
section
variable(h0:(i:Int)<(n:Int))(h1:l[i]? = some [Aa,Ab,Ac,Ad,Ae,Af])(h2:uni 6 l)(h3:Ab=5)
include h0 h1 h2 h3
theorem bLb(h4:is=true)(h5:uN dl sk dc ov [Aa,Ab,Ac,Ad,Ae,Af] Bs t T107)(h6:Bs=true)(h7:gk i)(Ai:i'=(i+1))(Bh:aQ t'=(aQ T107))(Bi:t'.length=T107.length):aC Tp 7 kE (dD dl sk dc ov x0 x1 x2 x3 x4 x5 is i l n (aQ t) t.length) .normal (dD dl sk dc ov x0 x1 x2 x3 x4 x5 false i' l n (aQ t') t'.length):=by
 subst Ai;have k1:=mq fa 9 h5;rw [Bh,Bi];exact aC.fi (gN bw [7] [(9,0)]) ([bT,.x (dcE Aa Ab Ac Ad Ae Af)]++rT 8++[k1.o]++rT 11) (gc h7 (gc h6 (gc (bX h3) (gc h6 (Au (bX h3) (Au h6 (gc k1 (Aq h4 (Gf (bX h3) (gfl h2 h1 (g0 h0)))))))))))
theorem bLc(h4:is=true)(h5:uN dl sk dc ov [Aa,Ab,Ac,Ad,Ae,Af] Bs t T107)(h6:Bs=false)(h7:gk i)(Ai:i'=(i+1))(Bh:aQ t'=(aQ T107))(Bi:t'.length=T107.length):aC Tp 7 kE (dD dl sk dc ov x0 x1 x2 x3 x4 x5 is i l n (aQ t) t.length) .normal (dD dl sk dc ov x0 x1 x2 x3 x4 x5 is i' l n (aQ t') t'.length):=by
 subst Ai;have k1:=mq fa 9 h5;rw [Bh,Bi];exact aC.fi (gI bw [7]) ([bT,.x (dcE Aa Ab Ac Ad Ae Af)]++rT 8++[k1.o]++rF 6) (gc h7 (Gf h6 (gc k1 (Aq h4 (Gf (bX h3) (gfl h2 h1 (g0 h0)))))))
theorem bLd(h4:is=false)(h5:gk i)(Ai:i'=(i+1)):aC Tp 7 kE (dD dl sk dc ov x0 x1 x2 x3 x4 x5 is i l n (aQ t) t.length) .normal (dD dl sk dc ov x0 x1 x2 x3 x4 x5 is i' l n (aQ t) t.length):=by
 subst Ai;exact aC.fi (gI bw [7]) ([bT,.x (dcE Aa Ab Ac Ad Ae Af)]++rT 6++[bF,bF]) (gc h5 (Aq h4 (Gf (bX h3) (gfl h2 h1 (g0 h0)))))
end
section
variable(h0:(i:Int)<(n:Int))(h1:l[i]? = some [Aa,Ab,Ac,Ad,Ae,Af])(h2:uni 6 l)(h3:Ab≠5)(h4:Ab=7)(h5:is=true)(h6:(cT x1)=false)(h7:uN dl sk dc ov [Aa,Ab,Ac,Ad,Ae,Af] Bs t T107)
include h0 h1 h2 h3 h4 h5 h6 h7
theorem bLe(h8:Bs=true)(h9:bZg dl sk dc ov [Aa,Ab,Ac,Ad,Ae,Af] Lk T107 T109)(A8:Lk=true)(Be:gk i)(Ai:i'=(i+1))(Bh:aQ t'=(aQ T109))(Bi:t'.length=T109.length):aC Tp 7 kE (dD dl sk dc ov x0 x1 x2 x3 x4 x5 is i l n (aQ t) t.length) .normal (dD dl sk dc ov x0 x1 x2 x3 x4 x5 false i' l n (aQ t') t'.length):=by
 subst Ai;have k1:=mq fa 9 h7;have k2:=mq fa 9 h9;rw [Bh,Bi];exact aC.fi (gN bw [7] [(9,0)]) ([bT,.x (dcE Aa Ab Ac Ad Ae Af),bF,bF,bF,bF,bT,bT,bT,.c (pB (cT x1)) [],bT,bF,bT,bF]++rT 6++[k1.o]++rT 5++[bF,bF,bF,bF,k2.o,bT,bF,bT,bT]) (gc Be (gc A8 (gc h8 (gc (aS h3) (gc h8 (gc k2 (Au (aS h3) (Au h8 (gc (bN h6) (gc k1 (Au (bN h6) (Aq h5 (gc (aS h3) (gc (bX h4) (gc (aS h3) (gc (bX h4) (gc (fk 9 (pJ x1) rfl) (Ak (bX h4) (Au (aS h3) (gfl h2 h1 (g0 h0)))))))))))))))))))))
theorem bLf(h8:Bs=true)(h9:bZg dl sk dc ov [Aa,Ab,Ac,Ad,Ae,Af] Lk T107 T109)(A8:Lk=false)(Be:gk i)(Ai:i'=(i+1))(Bh:aQ t'=(aQ T109))(Bi:t'.length=T109.length):aC Tp 7 kE (dD dl sk dc ov x0 x1 x2 x3 x4 x5 is i l n (aQ t) t.length) .normal (dD dl sk dc ov x0 x1 x2 x3 x4 x5 is i' l n (aQ t') t'.length):=by
 subst Ai;have k1:=mq fa 9 h7;have k2:=mq fa 9 h9;rw [Bh,Bi];exact aC.fi (gI bw [7]) ([bT,.x (dcE Aa Ab Ac Ad Ae Af),bF,bF,bF,bF,bT,bT,bT,.c (pB (cT x1)) [],bT,bF,bT,bF]++rT 6++[k1.o]++rT 5++[bF,bF,bF,bF,k2.o,bT,bF,bT,bF]) (gc Be (gc A8 (gc h8 (gc (aS h3) (gc h8 (gc k2 (Au (aS h3) (Au h8 (gc (bN h6) (gc k1 (Au (bN h6) (Aq h5 (gc (aS h3) (gc (bX h4) (gc (aS h3) (gc (bX h4) (gc (fk 9 (pJ x1) rfl) (Ak (bX h4) (Au (aS h3) (gfl h2 h1 (g0 h0)))))))))))))))))))))
theorem bLg(h8:Bs=false)(h9:gk i)(Ai:i'=(i+1))(Bh:aQ t'=(aQ T107))(Bi:t'.length=T107.length):aC Tp 7 kE (dD dl sk dc ov x0 x1 x2 x3 x4 x5 is i l n (aQ t) t.length) .normal (dD dl sk dc ov x0 x1 x2 x3 x4 x5 is i' l n (aQ t') t'.length):=by
 subst Ai;have k1:=mq fa 9 h7;rw [Bh,Bi];exact aC.fi (gI bw [7]) ([bT,.x (dcE Aa Ab Ac Ad Ae Af),bF,bF,bF,bF,bT,bT,bT,.c (pB (cT x1)) [],bT,bF,bT,bF]++rT 6++[k1.o,bT]++rF 6) (gc h9 (Gf h8 (gc (bN h6) (gc k1 (Au (bN h6) (Aq h5 (gc (aS h3) (gc (bX h4) (gc (aS h3) (gc (bX h4) (gc (fk 9 (pJ x1) rfl) (Ak (bX h4) (Au (aS h3) (gfl h2 h1 (g0 h0)))))))))))))))
end
section
variable(h0:(i:Int)<(n:Int))(h1:l[i]? = some [Aa,Ab,Ac,Ad,Ae,Af])(h2:uni 6 l)(h3:Ab≠5)
include h0 h1 h2 h3
theorem bLh(h4:Ab=7)(h5:is=true)(h6:(cT x1)=true)(h7:gk i)(Ai:i'=(i+1)):aC Tp 7 kE (dD dl sk dc ov x0 x1 x2 x3 x4 x5 is i l n (aQ t) t.length) .normal (dD dl sk dc ov x0 x1 x2 x3 x4 x5 is i' l n (aQ t) t.length):=by
 subst Ai;exact aC.fi (gI bw [7]) ([bT,.x (dcE Aa Ab Ac Ad Ae Af),bF,bF,bF,bF,bT,bT,bT,.c (pB (cT x1)) [],bT,bF,bT,bF,bT,bT]++rF 5) (gc h7 (B0 (aR h6) (Aq h5 (gc (aS h3) (gc (bX h4) (gc (aS h3) (gc (bX h4) (gc (fk 9 (pJ x1) rfl) (Ak (bX h4) (Au (aS h3) (gfl h2 h1 (g0 h0))))))))))))
theorem bLi(h4:Ab=7)(h5:is=false)(h6:gk i)(Ai:i'=(i+1)):aC Tp 7 kE (dD dl sk dc ov x0 x1 x2 x3 x4 x5 is i l n (aQ t) t.length) .normal (dD dl sk dc ov x0 x1 x2 x3 x4 x5 is i' l n (aQ t) t.length):=by
 subst Ai;exact aC.fi (gI bw [7]) [bT,.x (dcE Aa Ab Ac Ad Ae Af),bF,bF,bF,bF,bT,bT,bT,.c (pB (cT x1)) [],bT,bF,bT,bF,bF,bF] (gc h6 (Aq h5 (gc (aS h3) (gc (bX h4) (gc (aS h3) (gc (bX h4) (gc (fk 9 (pJ x1) rfl) (Ak (bX h4) (Au (aS h3) (gfl h2 h1 (g0 h0)))))))))))
theorem bLj(h4:Ab≠7)(h5:is=true)(h6:gk i)(Ai:i'=(i+1)):aC Tp 7 kE (dD dl sk dc ov x0 x1 x2 x3 x4 x5 is i l n (aQ t) t.length) .normal (dD dl sk dc ov x0 x1 x2 x3 x4 x5 is i' l n (aQ t) t.length):=by
 subst Ai;exact aC.fi (gI bw [7]) ([bT,.x (dcE Aa Ab Ac Ad Ae Af)]++rF 11++[bT,bT]) (gc h6 (Aq h5 (gc (aS h3) (gc (aS h4) (gc (aS h3) (Au (aS h4) (Au (aS h3) (gfl h2 h1 (g0 h0)))))))))
theorem bLk(h4:Ab≠7)(h5:is=false)(h6:gk i)(Ai:i'=(i+1)):aC Tp 7 kE (dD dl sk dc ov x0 x1 x2 x3 x4 x5 is i l n (aQ t) t.length) .normal (dD dl sk dc ov x0 x1 x2 x3 x4 x5 is i' l n (aQ t) t.length):=by
 subst Ai;exact aC.fi (gI bw [7]) ([bT,.x (dcE Aa Ab Ac Ad Ae Af)]++rF 13) (gc h6 (Aq h5 (gc (aS h3) (gc (aS h4) (gc (aS h3) (Au (aS h4) (Au (aS h3) (gfl h2 h1 (g0 h0)))))))))
end
theorem aXx(h0:(n:Int)≤(i:Int)):aC Tp 7 kE (dD dl sk dc ov x0 x1 x2 x3 x4 x5 is i l n (aQ t) t.length) (.exit 0) (dD dl sk dc ov x0 x1 x2 x3 x4 x5 is i l n (aQ t) t.length):=aC.fi (gI bw [7]) [bF] (gc (aK h0) gn)
theorem bTi(h0:cJj 155 dl sk dc ov [x0,x1,x2,x3,x4,x5] [z0,z1,z2,z3,z4,z5] b6 T T7):FMM Tp 156 [(.p (dcE x0 x1 x2 x3 x4 x5)),(.ptr 6 0)] (dO dl sk dc ov T) (.tup [(.p (dcE z0 z1 z2 z3 z4 z5)),(pB b6)]) (dO dl sk dc ov T7):=have k1:=mq fa 9 h0;FMM.fi 7 gE func156 [k1.o] (gc k1 gn)
theorem bTj(h0:cJj 159 dl sk dc ov [x0,x1,x2,x3,x4,x5] [z0,z1,z2,z3,z4,z5] b6 T T7):FMM Tp 158 [(.p (dcE x0 x1 x2 x3 x4 x5)),(.ptr 6 0)] (dO dl sk dc ov T) (.tup [(.p (dcE z0 z1 z2 z3 z4 z5)),(pB b6)]) (dO dl sk dc ov T7):=have k1:=mq fa 9 h0;FMM.fi 7 gE func158 [k1.o] (gc k1 gn)
section
variable(h0:aRv dl sk dc ov [x0,x1,x2,x3,x4,x5] [z0,z1,z2,z3,z4,z5] b6 T T7)
include h0
theorem cJu(h1:b6=true)(A6:r0=(z1 == 8)):FMM Tp 157 [(.p (dcE x0 x1 x2 x3 x4 x5)),(.ptr 2 0),(.ptr 1 0)] (dO dl sk dc ov T) (pB r0) (dO dl sk dc ov T7):=by
 subst A6;have k1:=mq fa 8 h0;exact FMM.fi 7 gE func157 [k1.o,bT] (gc h1 (gc k1 gn))
theorem cJv{b8:Bool}(h1:b6=false)(h2:wF ov x0 b8):FMM Tp 157 [(.p (dcE x0 x1 x2 x3 x4 x5)),(.ptr 2 0),(.ptr 1 0)] (dO dl sk dc ov T) (pB b8) (dO dl sk dc ov T7):=have k1:=mq fa 8 h0;FMM.fi 7 gE func157 [k1.o,bF,.c (pB b8) []] (gc (fk 9 (h2 _) rfl) (gc h1 (gc k1 gn)))
end
section
variable(h0:cJk dl sk dc ov [x0,x1,x2,x3,x4,x5] [z0,z1,z2,z3,z4,z5] b6 T T7)
include h0
theorem cJw{m8:Int}{T9:Lqb}(h1:b6=true)(h2:aDf dl sk dc ov [z0,z1,z2,z3,z4,z5] m8 T7 T9):FMM Tp 160 [(.p (dcE x0 x1 x2 x3 x4 x5)),(.ptr 2 0)] (dO dl sk dc ov T) (pI m8) (dO dl sk dc ov T9):=have k1:=mq fa 8 h0;have k2:=mq fa 9 h2;FMM.fi 7 gE func160 [k1.o,bT,k2.o] (gc k2 (gc h1 (gc k1 gn)))
theorem cJx(h1:b6=false):FMM Tp 160 [(.p (dcE x0 x1 x2 x3 x4 x5)),(.ptr 2 0)] (dO dl sk dc ov T) (pI x4) (dO dl sk dc ov T7):=have k1:=mq fa 8 h0;FMM.fi 7 gE func160 [k1.o,bF] (gc h1 (gc k1 gn))
end
theorem aNr:FMM Tp 87 [(.rp (aZ dl sk dc) 0),(.p cC)] [] aAx [some (Gp dl sk dc),some (.box 33 [(.p cC)]),some Hi,some (.mp [] 0),some (.box 207 [(.mp 3)]),some (Gq dl sk dc),some It]:=FMM.fi 0 ⟨[],[0,1,3,4,5,6,7],[],[]⟩ func87 [] gn
theorem sK{on:Nat}{ol:List PV}:FMM Tp 87 [(.rp (aZ dl sk dc) 0),(.p (.sl on ol))] [] aAx [some (Gp dl sk dc),some (.box 33 [(.p (.sl on ol))]),some Hi,some (.mp [] 0),some (.box 207 [(.mp 3)]),some (Gq dl sk dc),some It]:=FMM.fi 0 ⟨[],[0,1,3,4,5,6,7],[],[]⟩ func87 [] gn
end
section
section
variable {dc:Lqq}
theorem aNl(h:bP dc){n:Int}(hn:1≤n∧n≤9999):cR .i64 (abE dc) (.int .i64 n):=by
 have ha:=aXj h;refine ⟨fun e he => ?_,pX (by omega),?_⟩
 ·obtain ⟨p,hp,rfl⟩:=B3.1 he
  obtain ⟨q1,q2,q3⟩:=ha.mem p hp;cases hx:p.2 with
  | nil=>exact absurd hx q2
  | cons x r =>
   have:x∈dc.reverse.filter fun x=>dAb x == p.1:=by rw [← q3,hx];exact gA ..
   obtain ⟨h1,h2⟩:=kY.1 this;have:=nY h x (yZ.1 h1);have h2:dAb x=p.1:=by simpa using h2
   exact pX (by omega)
 ·have:(abE dc).map (fun e=>jU e.1)=(abM dc).map (·.1):=by
   unfold abE;rw [wC];rfl
  rw [this];exact ha.nd
theorem aNm(h:bP dc){n:Int}(hn:0<n):(eA (abE dc) (.int .i64 n)=true∧gG (abE dc) (.int .i64 n)=some (.sl (cF dc n).length ((cF dc n).flatten.map aB)))∨(eA (abE dc) (.int .i64 n)=false∧cF dc n=[]):=by
 have ha:=aXj h;have e1:eA (abE dc) (.int .i64 n)=(abM dc).any fun e=>e.1 == n:=by
  unfold eA abE;rw [List.any_map]
  congr 1
 have e2:gG (abE dc) (.int .i64 n)=((abM dc).find? fun e=>e.1 == n).map fun e => .sl e.2.length (e.2.flatten.map aB):=by
  unfold gG abE;generalize abM dc=L
  induction L with
  | nil=>rfl
  | cons p L ih =>
   rw [iB,List.find?_cons,List.find?_cons];have e:(decide (jU (((Value.int IntKind.i64 p.1),PV.sl p.2.length (p.2.flatten.map aB)):Value × PV).1=jU (Value.int IntKind.i64 n)))=(p.1 == n):=by
    show decide (p.1=n)=(p.1 == n);rw [Bool.eq_iff_iff];simp
   rw [e];cases p.1 == n with
   | true=>rfl
   | false=>exact ih
 rw [e1,e2];cases hf:(abM dc).find? fun e=>e.1 == n with
 | some e =>
  have h1:=rD hf;have h2:e.1=n:=by simpa using aMr hf
  obtain ⟨q1,q2,q3⟩:=ha.mem e h1;refine .inl ⟨List.any_eq_true.2 ⟨e,h1,by simpa using h2⟩,?_⟩
  have:e.2=cF dc n:=by rw [q3,h2];rfl
  rw [Option.map_some,this]
 | none =>
  refine .inr ⟨?_,?_⟩
  ·rw [List.any_eq_false]
   intro e he;exact aCz.1 hf e he
  ·rw [← bSq h hn]
   unfold aCk;rw [hf]
theorem jC(h:bP dc)(n:Int):uni 6 (cF dc n):=fun y hy=>h.ud y (eW hy).1
theorem aAw(h:bP dc)(n:Int):(cF dc n).length≤1000:=by
 have:=rZ (fun x=>dAb x == n) dc.reverse
 have h2:=h.len;rw [bXa] at this
 unfold cF;omega
theorem bBv{α:Type}{p:α→Bool}{l:List α}{i:Nat}{x:α}(hi:l[i]? = some x)(hp:p x=true)(hj:∀ j y,j<i→l[j]? = some y→p y=false):l.find? p=some x:=by
 obtain ⟨h1,h2⟩:=Ca.1 hi;rw [List.find?_eq_some_iff_getElem];exact ⟨hp,i,h1,h2,fun j h=>by
  rw [hj j l[j] h (Ay (by omega))];rfl⟩
end
def I5:List Int:=[0,0,0,0,0,0]
section
variable (dl:Int) (sk dc:Lqq) (oc:List Int) (ov:PV)
def sV(x:List Int):Prop:=∀ T,cU dl oc dc T→∃ T',cU dl oc dc T'∧uN dl sk dc ov x (dP dl oc dc x) T T'
def cCt(g:Nat)(q:List Int→Bool)(x:List Int):Prop:=∀ T,cU dl oc dc T→∃ T',cU dl oc dc T'∧cJj g dl sk dc ov x (((cF dc (dN x)).find? fun y=>q y && dP dl oc dc y).getD I5) ((cF dc (dN x)).find? fun y=>q y && dP dl oc dc y).isSome T T'
def cCu(x:List Int):Prop:=∀ T,cU dl oc dc T→∃ T',cU dl oc dc T'∧aRv dl sk dc ov x ((wE dl oc dc x).getD I5) (wE dl oc dc x).isSome T T'
def cCv(x:List Int):Prop:=∀ T,cU dl oc dc T→∃ T',cU dl oc dc T'∧cJk dl sk dc ov x ((aNi dl oc dc x).getD I5) (aNi dl oc dc x).isSome T T'
def bBw(x:List Int):Prop:=∀ T,cU dl oc dc T→∃ T',cU dl oc dc T'∧bZg dl sk dc ov x (uH dl oc dc x) T T'
def cCw(x:List Int):Prop:=∀ T,cU dl oc dc T→∃ T',cU dl oc dc T'∧aDf dl sk dc ov x (jV dl oc dc x) T T'
end
section
variable {dl:Int} {sk dc:Lqq} {oc:List Int} {ov:PV}
theorem bKz(l:Lqq)(hu:uni 6 l)(hl:l.length≤1000)(hC:∀ y∈l,sV dl sk dc oc ov y)(T:Lqb)(hT:cU dl oc dc T) :
  (∃ i T' y,l[i]? = some y∧(cT (dK y) && dP dl oc dc y)=true∧(∀ j z,j<i→l[j]? = some z→(cT (dK z) && dP dl oc dc z)=false)∧cU dl oc dc T'∧aD Tp 7 (sub (cd Tryz.f153) g8) (eG dl sk dc ov 0 l l.length (aQ T) T.length 0 0 0 0 0 0) .ret (bQ (eG dl sk dc ov i l l.length (aQ T') T'.length (y.getD 0 0) (y.getD 1 0) (y.getD 2 0) (y.getD 3 0) (y.getD 4 0) (y.getD 5 0)) [(7,.kb true)])) ∨
  ((l.find? fun y=>cT (dK y) && dP dl oc dc y)=none∧∃ T',cU dl oc dc T'∧aD Tp 7 (sub (cd Tryz.f153) g8) (eG dl sk dc ov 0 l l.length (aQ T) T.length 0 0 0 0 0 0) (.exit 0) (eG dl sk dc ov l.length l l.length (aQ T') T'.length 0 0 0 0 0 0)):=by
 have hx:∀ i,i<l.length→∃ a b c d e f,l[i]? = some [a,b,c,d,e,f]∧l.getD i []=[a,b,c,d,e,f]∧[a,b,c,d,e,f]∈l:=fun i hi=>by
  obtain ⟨a,b,c,d,e,f,h⟩:=A7 (hu _ (fP hi));have h1:l[i]? = some [a,b,c,d,e,f]:=by rw [Ay hi,h]
  exact ⟨a,b,c,d,e,f,h1,by rw [B5,h1];rfl,Bl h1⟩
 rcases aD.exF (P:=Tp) (k:=7) (b:=sub (cd Tryz.f153) g8) (e1 := .ret) (e2 := .exit 0) (fun i T=>eG dl sk dc ov i l l.length (aQ T) T.length 0 0 0 0 0 0)
  (fun i T=>bQ (eG dl sk dc ov i l l.length (aQ T) T.length ((l.getD i []).getD 0 0) ((l.getD i []).getD 1 0) ((l.getD i []).getD 2 0) ((l.getD i []).getD 3 0) ((l.getD i []).getD 4 0) ((l.getD i []).getD 5 0)) [(7,.kb true)])
  (fun T=>eG dl sk dc ov l.length l l.length (aQ T) T.length 0 0 0 0 0 0) (cU dl oc dc) (by simp) (by simp) (fun i=>cT (dK (l.getD i [])) && dP dl oc dc (l.getD i [])) l.length
  (fun i T1 hi h1 hp=>by
   obtain ⟨a,b,c,d,e,f,g1,g2,g3⟩:=hx i hi;rw [g2] at hp
   cases hq:cT b with
   | false=>exact ⟨T1,h1,aXr (by omega) g1 hu hq (aI (by omega)) rfl⟩
   | true =>
    have hp:(cT b && dP dl oc dc [a,b,c,d,e,f])=false:=hp;rw [hq,gS] at hp
    obtain ⟨T2,h2,c2⟩:=hC _ g3 T1 h1;rw [hp] at c2
    exact ⟨T2,h2,aXq (by omega) g1 hu hq c2 rfl (aI (by omega)) rfl rfl rfl⟩)
  (fun i T1 hi h1 hp=>by
   obtain ⟨a,b,c,d,e,f,g1,g2,g3⟩:=hx i hi;rw [g2] at hp ⊢
   rw [Ce] at hp
   obtain ⟨T2,h2,c2⟩:=hC _ g3 T1 h1;rw [hp.2] at c2
   exact ⟨T2,h2,aXp (by omega) g1 hu hp.1 c2 rfl rfl rfl⟩)
  (fun T1 h1=>aXs (by omega)) hT with ⟨i,T',h1,h2,h3,h4,h5⟩ | ⟨h1,T',h2,h3⟩
 ·obtain ⟨a,b,c,d,e,f,g1,g2,g3⟩:=hx i h1
  rw [g2] at h2 h5
  refine .inl ⟨i,T',_,g1,h2,fun j z hj hz => ?_,h4,h5⟩
  have:=h3 j hj;rw [B5,hz] at this
  exact this
 ·refine .inr ⟨?_,T',h2,h3⟩
  rw [aCz];intro y hy;obtain ⟨i,hi,rfl⟩:=List.mem_iff_getElem.1 hy;have:=h1 i hi;rw [B5,Ay hi] at this
  simpa using this
theorem bZe(hd:bP dc){x:List Int}(hx:x∈dc)(hC:∀ y∈cF dc (dN x),sV dl sk dc oc ov y):cCt dl sk dc oc ov 155 (fun y=>cT (dK y)) x:=fun T hT=>by
 have hn:=eT hd hx;have hk:=aNl hd hn;have hL:=bKz (cF dc (dN x)) (jC hd _) (aAw hd _) hC T hT;obtain ⟨x0,x1,x2,x3,x4,x5,rfl⟩:=A7 (hd.ud x hx)
 rcases aNm hd (n:=dN [x0,x1,x2,x3,x4,x5]) (by omega) with ⟨h1,h2⟩ | ⟨h1,h2⟩
 ·rcases hL with ⟨i,T',y,q1,q2,q3,q4,q5⟩ | ⟨q1,T',q2,q3⟩
  ·have hf:=bBv (p:=fun y=>cT (dK y) && dP dl oc dc y) q1 q2 q3
   rw [hf];obtain ⟨a,b,c,d,e,f,rfl⟩:=A7 (jC hd _ _ (Bl q1));exact ⟨T',q4,bZl hk h1 h2 q5⟩
  ·rw [q1]
   exact ⟨T',q2,bZk hk h1 h2 q3⟩
 ·rw [h2] at hL ⊢
  rcases hL with ⟨i,T',y,q1,q2,q3,q4,q5⟩ | ⟨q1,T',q2,q3⟩
  ·simp at q1
  ·exact ⟨T',q2,bZm hk h1 q3⟩
theorem bLa(l:Lqq)(hu:uni 6 l)(hl:l.length≤1000)(hC:∀ y∈l,sV dl sk dc oc ov y)(T:Lqb)(hT:cU dl oc dc T) :
  (∃ i T' y,l[i]? = some y∧(dK y == 6 && dP dl oc dc y)=true∧(∀ j z,j<i→l[j]? = some z→(dK z == 6 && dP dl oc dc z)=false)∧cU dl oc dc T'∧aD Tp 7 (sub (cd Tryz.f153) g8) (eH dl sk dc ov 0 l l.length (aQ T) T.length 0 0 0 0 0 0) .ret (bQ (eH dl sk dc ov i l l.length (aQ T') T'.length (y.getD 0 0) (y.getD 1 0) (y.getD 2 0) (y.getD 3 0) (y.getD 4 0) (y.getD 5 0)) [(7,.kb true)])) ∨
  ((l.find? fun y=>dK y == 6 && dP dl oc dc y)=none∧∃ T',cU dl oc dc T'∧aD Tp 7 (sub (cd Tryz.f153) g8) (eH dl sk dc ov 0 l l.length (aQ T) T.length 0 0 0 0 0 0) (.exit 0) (eH dl sk dc ov l.length l l.length (aQ T') T'.length 0 0 0 0 0 0)):=by
 have hx:∀ i,i<l.length→∃ a b c d e f,l[i]? = some [a,b,c,d,e,f]∧l.getD i []=[a,b,c,d,e,f]∧[a,b,c,d,e,f]∈l:=fun i hi=>by
  obtain ⟨a,b,c,d,e,f,h⟩:=A7 (hu _ (fP hi));have h1:l[i]? = some [a,b,c,d,e,f]:=by rw [Ay hi,h]
  exact ⟨a,b,c,d,e,f,h1,by rw [B5,h1];rfl,Bl h1⟩
 rcases aD.exF (P:=Tp) (k:=7) (b:=sub (cd Tryz.f153) g8) (e1 := .ret) (e2 := .exit 0) (fun i T=>eH dl sk dc ov i l l.length (aQ T) T.length 0 0 0 0 0 0)
  (fun i T=>bQ (eH dl sk dc ov i l l.length (aQ T) T.length ((l.getD i []).getD 0 0) ((l.getD i []).getD 1 0) ((l.getD i []).getD 2 0) ((l.getD i []).getD 3 0) ((l.getD i []).getD 4 0) ((l.getD i []).getD 5 0)) [(7,.kb true)])
  (fun T=>eH dl sk dc ov l.length l l.length (aQ T) T.length 0 0 0 0 0 0) (cU dl oc dc) (by simp) (by simp) (fun i=>dK (l.getD i []) == 6 && dP dl oc dc (l.getD i [])) l.length
  (fun i T1 hi h1 hp=>by
   obtain ⟨a,b,c,d,e,f,g1,g2,g3⟩:=hx i hi;rw [g2] at hp
   cases hq:(b == 6) with
   | false=>exact ⟨T1,h1,aXv (by omega) g1 hu hq (aI (by omega)) rfl⟩
   | true =>
    have hp:((b == 6) && dP dl oc dc [a,b,c,d,e,f])=false:=hp;rw [hq,gS] at hp
    obtain ⟨T2,h2,c2⟩:=hC _ g3 T1 h1;rw [hp] at c2
    exact ⟨T2,h2,aXu (by omega) g1 hu hq c2 rfl (aI (by omega)) rfl rfl rfl⟩)
  (fun i T1 hi h1 hp=>by
   obtain ⟨a,b,c,d,e,f,g1,g2,g3⟩:=hx i hi;rw [g2] at hp ⊢
   rw [Ce] at hp
   obtain ⟨T2,h2,c2⟩:=hC _ g3 T1 h1;rw [hp.2] at c2
   exact ⟨T2,h2,aXt (by omega) g1 hu hp.1 c2 rfl rfl rfl⟩)
  (fun T1 h1=>aXw (by omega)) hT with ⟨i,T',h1,h2,h3,h4,h5⟩ | ⟨h1,T',h2,h3⟩
 ·obtain ⟨a,b,c,d,e,f,g1,g2,g3⟩:=hx i h1
  rw [g2] at h2 h5
  refine .inl ⟨i,T',_,g1,h2,fun j z hj hz => ?_,h4,h5⟩
  have:=h3 j hj;rw [B5,hz] at this
  exact this
 ·refine .inr ⟨?_,T',h2,h3⟩
  rw [aCz];intro y hy;obtain ⟨i,hi,rfl⟩:=List.mem_iff_getElem.1 hy;have:=h1 i hi;rw [B5,Ay hi] at this
  simpa using this
theorem bZf(hd:bP dc){x:List Int}(hx:x∈dc)(hC:∀ y∈cF dc (dN x),sV dl sk dc oc ov y):cCt dl sk dc oc ov 159 (fun y=>dK y == 6) x:=fun T hT=>by
 have hn:=eT hd hx;have hk:=aNl hd hn;have hL:=bLa (cF dc (dN x)) (jC hd _) (aAw hd _) hC T hT;obtain ⟨x0,x1,x2,x3,x4,x5,rfl⟩:=A7 (hd.ud x hx)
 rcases aNm hd (n:=dN [x0,x1,x2,x3,x4,x5]) (by omega) with ⟨h1,h2⟩ | ⟨h1,h2⟩
 ·rcases hL with ⟨i,T',y,q1,q2,q3,q4,q5⟩ | ⟨q1,T',q2,q3⟩
  ·have hf:=bBv (p:=fun y=>dK y == 6 && dP dl oc dc y) q1 q2 q3
   rw [hf];obtain ⟨a,b,c,d,e,f,rfl⟩:=A7 (jC hd _ _ (Bl q1));exact ⟨T',q4,bZo hk h1 h2 q5⟩
  ·rw [q1]
   exact ⟨T',q2,bZn hk h1 h2 q3⟩
 ·rw [h2] at hL ⊢
  rcases hL with ⟨i,T',y,q1,q2,q3,q4,q5⟩ | ⟨q1,T',q2,q3⟩
  ·simp at q1
  ·exact ⟨T',q2,bZp hk h1 q3⟩

theorem bTe(hd:bP dc){x:List Int}(hx:x∈dc)(hC:∀ y∈cF dc (dN x),sV dl sk dc oc ov y):cCu dl sk dc oc ov x:=fun T hT=>by
 obtain ⟨T',h1,h2⟩:=bZe hd hx hC T hT;rw [← aGn hd hx] at h2
 obtain ⟨x0,x1,x2,x3,x4,x5,rfl⟩:=A7 (hd.ud x hx);have hz:∀ z,wE dl oc dc [x0,x1,x2,x3,x4,x5]=some z→z.length=6:=fun z hz=>by
  rw [aGn hd hx] at hz
  exact jC hd _ z (rD hz)
 cases hr:wE dl oc dc [x0,x1,x2,x3,x4,x5] with
 | none =>
  rw [hr] at h2
  exact ⟨T',h1,bTi (z0:=0) (z1:=0) (z2:=0) (z3:=0) (z4:=0) (z5:=0) h2⟩
 | some z =>
  obtain ⟨a,b,c,d,e,f,rfl⟩:=A7 (hz z hr);rw [hr] at h2
  exact ⟨T',h1,bTi h2⟩
theorem cJh(hd:bP dc){x:List Int}(hx:x∈dc)(hC:∀ y∈cF dc (dN x),sV dl sk dc oc ov y):cCv dl sk dc oc ov x:=fun T hT=>by
 obtain ⟨T',h1,h2⟩:=bZf hd hx hC T hT;rw [← aGo hd hx] at h2
 obtain ⟨x0,x1,x2,x3,x4,x5,rfl⟩:=A7 (hd.ud x hx);have hz:∀ z,aNi dl oc dc [x0,x1,x2,x3,x4,x5]=some z→z.length=6:=fun z hz=>by
  rw [aGo hd hx] at hz
  exact jC hd _ z (rD hz)
 cases hr:aNi dl oc dc [x0,x1,x2,x3,x4,x5] with
 | none =>
  rw [hr] at h2
  exact ⟨T',h1,bTj (z0:=0) (z1:=0) (z2:=0) (z3:=0) (z4:=0) (z5:=0) h2⟩
 | some z =>
  obtain ⟨a,b,c,d,e,f,rfl⟩:=A7 (hz z hr);rw [hr] at h2
  exact ⟨T',h1,bTj h2⟩
theorem bTf(hd:bP dc)(hov:∀ n,wF ov n (oc.contains n)){x:List Int}(hx:x∈dc)(hC:∀ y∈cF dc (dN x),sV dl sk dc oc ov y):bBw dl sk dc oc ov x:=fun T hT=>by
 obtain ⟨T',h1,h2⟩:=bTe hd hx hC T hT;rw [cIk hd hx];obtain ⟨x0,x1,x2,x3,x4,x5,rfl⟩:=A7 (hd.ud x hx);have hz:∀ z,wE dl oc dc [x0,x1,x2,x3,x4,x5]=some z→z.length=6:=fun z hz=>by
  rw [aGn hd hx] at hz
  exact jC hd _ z (rD hz)
 cases hr:wE dl oc dc [x0,x1,x2,x3,x4,x5] with
 | none =>
  rw [hr] at h2
  exact ⟨T',h1,cJv (z0:=0) (z1:=0) (z2:=0) (z3:=0) (z4:=0) (z5:=0) h2 rfl (hov _)⟩
 | some z =>
  obtain ⟨a,b,c,d,e,f,rfl⟩:=A7 (hz z hr);rw [hr] at h2
  exact ⟨T',h1,cJu h2 rfl rfl⟩
abbrev sJ(dl:Int)(oc:List Int)(dc:Lqq)(x y:List Int):Bool:=wR x y && dP dl oc dc y && (dK y == 5 || uH dl oc dc y)
theorem bTg{x0 x1 x2 x3 x4 x5:Int}(hd:bP dc)(l:Lqq)(hu:uni 6 l)(hl:l.length≤1000)(hC:∀ y∈l,sV dl sk dc oc ov y)(hU:∀ y∈l,bBw dl sk dc oc ov y)(T:Lqb)(hT:cU dl oc dc T)(is:Bool) :
  ∃ T',cU dl oc dc T'∧aD Tp 7 (sub (cd Tryz.f154) ey) (dD dl sk dc ov x0 x1 x2 x3 x4 x5 is 0 l l.length (aQ T) T.length) (.exit 0) (dD dl sk dc ov x0 x1 x2 x3 x4 x5 (is && !(l.any (sJ dl oc dc [x0,x1,x2,x3,x4,x5]))) l.length l l.length (aQ T') T'.length):=by
 have hx:∀ i,i<l.length→∃ a b c d e f,l[i]? = some [a,b,c,d,e,f]∧[a,b,c,d,e,f]∈l:=fun i hi=>by
  obtain ⟨a,b,c,d,e,f,h⟩:=A7 (hu _ (fP hi));have h1:l[i]? = some [a,b,c,d,e,f]:=by rw [Ay hi,h]
  exact ⟨a,b,c,d,e,f,h1,Bl h1⟩
 have et:∀ i y,l[i]? = some y→(l.take (i+1)).any (sJ dl oc dc [x0,x1,x2,x3,x4,x5])=((l.take i).any (sJ dl oc dc [x0,x1,x2,x3,x4,x5]) || sJ dl oc dc [x0,x1,x2,x3,x4,x5] y):=fun i y h=>by
  rw [List.take_add_one,h,List.any_append];simp
 obtain ⟨acc, ⟨h1,h2⟩,h3⟩:=aD.ex (P:=Tp) (k:=7) (b:=sub (cd Tryz.f154) ey) (e := .exit 0) (fun i (a:Bool × Lqb)=>dD dl sk dc ov x0 x1 x2 x3 x4 x5 a.1 i l l.length (aQ a.2) a.2.length)
  (fun a=>dD dl sk dc ov x0 x1 x2 x3 x4 x5 a.1 l.length l l.length (aQ a.2) a.2.length) (fun i a=>cU dl oc dc a.2∧a.1=(is && !((l.take i).any (sJ dl oc dc [x0,x1,x2,x3,x4,x5])))) (by simp) l.length
  (fun i acc hi hI=>by
   obtain ⟨b,T1⟩:=acc;obtain ⟨h1,h2⟩:=hI;dsimp only at h1 h2
   obtain ⟨a,k,c,d,e,f,g1,g3⟩:=hx i hi;rw [et i _ g1];cases hb:b with
   | false =>
    rw [hb] at h2
    have hI:∀ q:Bool,false=(is && !((l.take i).any (sJ dl oc dc [x0,x1,x2,x3,x4,x5]) || q)):=fun q=>by
     revert h2;cases is <;> cases (l.take i).any (sJ dl oc dc [x0,x1,x2,x3,x4,x5]) <;> cases q <;> simp
    by_cases h5:k=5
    ·exact ⟨(false,T1),⟨h1,hI _⟩,bLd (by omega) g1 hu h5 rfl (aI (by omega)) rfl⟩
    ·by_cases h7:k=7
     ·exact ⟨(false,T1),⟨h1,hI _⟩,bLi (by omega) g1 hu h5 h7 rfl (aI (by omega)) rfl⟩
     ·exact ⟨(false,T1),⟨h1,hI _⟩,bLk (by omega) g1 hu h5 h7 rfl (aI (by omega)) rfl⟩
   | true =>
    rw [hb] at h2
    have hI:∀ q:Bool,(!q)=(is && !((l.take i).any (sJ dl oc dc [x0,x1,x2,x3,x4,x5]) || q)):=fun q=>by
     revert h2;cases is <;> cases (l.take i).any (sJ dl oc dc [x0,x1,x2,x3,x4,x5]) <;> cases q <;> simp
    have hIt:∀ q:Bool,q=true→false=(is && !((l.take i).any (sJ dl oc dc [x0,x1,x2,x3,x4,x5]) || q)):=fun q hq=>by
     rw [← hI,hq];rfl
    have hIf:∀ q:Bool,q=false→true=(is && !((l.take i).any (sJ dl oc dc [x0,x1,x2,x3,x4,x5]) || q)):=fun q hq=>by
     rw [← hI,hq];rfl
    obtain ⟨T2,q1,q2⟩:=hC _ g3 T1 h1
    by_cases h5:k=5
    ·cases hc:dP dl oc dc [a,k,c,d,e,f] with
     | true =>
      rw [hc] at q2
      exact ⟨(false,T2),⟨q1,hIt _ (by subst h5;simp [sJ,wR,hc])⟩,bLb (by omega) g1 hu h5 rfl q2 rfl (aI (by omega)) rfl rfl rfl⟩
     | false =>
      rw [hc] at q2
      exact ⟨(true,T2),⟨q1,hIf _ (by simp [sJ,hc])⟩,bLc (by omega) g1 hu h5 rfl q2 rfl (aI (by omega)) rfl rfl rfl⟩
    ·by_cases h7:k=7
     ·cases hr:cT x1 with
      | true=>exact ⟨(true,T1),⟨h1,hIf _ (by simp [sJ,wR,hr,h5])⟩,bLh (by omega) g1 hu h5 h7 rfl hr (aI (by omega)) rfl⟩
      | false =>
       cases hc:dP dl oc dc [a,k,c,d,e,f] with
       | true =>
        rw [hc] at q2
        obtain ⟨T3,q3,q4⟩:=hU _ g3 T2 q1;cases Rp:uH dl oc dc [a,k,c,d,e,f] with
        | true =>
         rw [Rp] at q4
         exact ⟨(false,T3),⟨q3,hIt _ (by subst h7;simp [sJ,wR,hc,hr,Rp])⟩,bLe (by omega) g1 hu h5 h7 rfl hr q2 rfl q4 rfl (aI (by omega)) rfl rfl rfl⟩
        | false =>
         rw [Rp] at q4
         exact ⟨(true,T3),⟨q3,hIf _ (by simp [sJ,wR,Rp,h5])⟩,bLf (by omega) g1 hu h5 h7 rfl hr q2 rfl q4 rfl (aI (by omega)) rfl rfl rfl⟩
       | false =>
        rw [hc] at q2
        exact ⟨(true,T2),⟨q1,hIf _ (by simp [sJ,hc])⟩,bLg (by omega) g1 hu h5 h7 rfl hr q2 rfl (aI (by omega)) rfl rfl rfl⟩
     ·exact ⟨(true,T1),⟨h1,hIf _ (by simp [sJ,wR,h5,h7])⟩,bLj (by omega) g1 hu h5 h7 rfl (aI (by omega)) rfl⟩)
  (fun acc hI=>aXx (by omega)) (acc:=(is,T)) ⟨hT,by simp⟩
 obtain ⟨b,T1⟩:=acc;dsimp only at h1 h2 h3
 rw [List.take_length] at h2
 rw [h2] at h3
 exact ⟨T1,h1,h3⟩
theorem cJi(hd:bP dc){x:List Int}(hx:x∈dc)(hC:∀ y∈cF dc (dN x),sV dl sk dc oc ov y)(hU:∀ y∈cF dc (dN x),bBw dl sk dc oc ov y):sV dl sk dc oc ov x:=fun T hT=>by
 have hn:=eT hd hx;have hk:=aNl hd hn;obtain ⟨x0,x1,x2,x3,x4,x5,rfl⟩:=A7 (hd.ud x hx);obtain ⟨T',h1,hL⟩:=bTg (x0:=x0) (x1:=x1) (x2:=x2) (x3:=x3) (x4:=x4) (x5:=x5) hd (cF dc (dN [x0,x1,x2,x3,x4,x5])) (jC hd _) (aAw hd _) hC hU T hT (!iI dl [x0,x1,x2,x3,x4,x5]);have hc:(!iI dl [x0,x1,x2,x3,x4,x5] && !((cF dc (dN [x0,x1,x2,x3,x4,x5])).any (sJ dl oc dc [x0,x1,x2,x3,x4,x5])))=dP dl oc dc [x0,x1,x2,x3,x4,x5]:=(cIj hd hx).symm;rw [hc] at hL
 cases hh:eA (aQ T) (.int .i64 (dN [x0,x1,x2,x3,x4,x5])) with
 | true=>exact ⟨T,hT,cJp (hT.keys hd hn) hh (hT.look hd hx hh)⟩
 | false =>
  cases P2:eA (aQ T') (.int .i64 (dN [x0,x1,x2,x3,x4,x5])) with
  | true =>
   refine ⟨T',h1,?_⟩
   rcases aNm hd (n:=dN [x0,x1,x2,x3,x4,x5]) (by omega) with ⟨a1,a2⟩ | ⟨a1,a2⟩
   ·have:=cJq (x0:=x0) (hT.keys hd hn) hh hk a1 a2 hL (h1.keys hd hn) P2
    rw [show rM (aQ T') (.int .i64 x0) (blP (dP dl oc dc [x0,x1,x2,x3,x4,x5]))=aQ T' from h1.again hd hx] at this
    exact this
   ·rw [a2] at hL
    have:=cJs (x0:=x0) (hT.keys hd hn) hh hk a1 hL (h1.keys hd hn) P2;rw [show rM (aQ T') (.int .i64 x0) (blP (dP dl oc dc [x0,x1,x2,x3,x4,x5]))=aQ T' from h1.again hd hx] at this
    exact this
  | false =>
   refine ⟨T'++[(x0,dP dl oc dc [x0,x1,x2,x3,x4,x5])],h1.put hx P2,?_⟩;have e1:(T'++[(x0,dP dl oc dc [x0,x1,x2,x3,x4,x5])]).length=T'.length+1:=by simp
   unfold uN dO;rw [bLl,e1]
   rcases aNm hd (n:=dN [x0,x1,x2,x3,x4,x5]) (by omega) with ⟨a1,a2⟩ | ⟨a1,a2⟩
   ·exact cJr (hT.keys hd hn) hh hk a1 a2 hL (h1.keys hd hn) P2
   ·rw [a2] at hL
    exact cJt (hT.keys hd hn) hh hk a1 hL (h1.keys hd hn) P2
theorem uL(hd:bP dc){x y:List Int}(hx:x∈dc)(hy:y∈cF dc (dN x)):y∈dc∧dN x<dN y:=by
 obtain ⟨h1,h2⟩:=eW hy;exact ⟨h1,bSo hd h1 h2 (eT hd hx).1⟩
theorem aNn(hd:bP dc)(hov:∀ n,wF ov n (oc.contains n)):∀ (n:Nat) (x:List Int),x∈dc→10000-dN x≤(n:Int)→sV dl sk dc oc ov x
 | 0,x,hx,h=>by have:=eT hd hx;omega
 | n+1,x,hx,h=>cJi hd hx (fun y hy=>by
   obtain ⟨h1,h2⟩:=uL hd hx hy;exact aNn hd hov n y h1 (by omega)) (fun y hy=>by
   obtain ⟨h1,h2⟩:=uL hd hx hy;exact bTf hd hov h1 fun z hz=>by
    obtain ⟨h3,h4⟩:=uL hd h1 hz;exact aNn hd hov n z h3 (by omega))
theorem bTh(hd:bP dc)(hov:∀ n,wF ov n (oc.contains n)){x:List Int}(hx:x∈dc):sV dl sk dc oc ov x:=aNn hd hov 10000 x hx (by have:=eT hd hx;omega)
theorem cOj(hd:bP dc)(hov:∀ n,wF ov n (oc.contains n)){x:List Int}(hx:x∈dc):cCu dl sk dc oc ov x:=bTe hd hx fun y hy=>bTh hd hov (eW hy).1
theorem cOk(hd:bP dc)(hov:∀ n,wF ov n (oc.contains n)){x:List Int}(hx:x∈dc):cCv dl sk dc oc ov x:=cJh hd hx fun y hy=>bTh hd hov (eW hy).1
theorem cOl(hd:bP dc)(hov:∀ n,wF ov n (oc.contains n)){x:List Int}(hx:x∈dc):bBw dl sk dc oc ov x:=bTf hd hov hx fun y hy=>bTh hd hov (eW hy).1
theorem bBx(hd:bP dc)(hov:∀ n,wF ov n (oc.contains n)):∀ (n:Nat) (x:List Int),x∈dc→10000-dN x≤(n:Int)→cCw dl sk dc oc ov x
 | 0,x,hx,h=>by have:=eT hd hx;omega
 | n+1,x,hx,h=>fun T hT=>by
  obtain ⟨T',h1,h2⟩:=cOk (dl:=dl) (sk:=sk) hd hov hx T hT;rw [bBs hd hx];cases hr:aNi dl oc dc x with
  | none =>
   rw [hr] at h2
   obtain ⟨x0,x1,x2,x3,x4,x5,rfl⟩:=A7 (hd.ud x hx);exact ⟨T',h1,cJx (z0:=0) (z1:=0) (z2:=0) (z3:=0) (z4:=0) (z5:=0) h2 rfl⟩
  | some z =>
   have hz:z∈cF dc (dN x):=by
    rw [aGo hd hx] at hr
    exact rD hr
   obtain ⟨a1,a2⟩:=uL hd hx hz;obtain ⟨T2,h3,h4⟩:=bBx hd hov n z a1 (by omega) T' h1
   rw [hr] at h2
   obtain ⟨x0,x1,x2,x3,x4,x5,rfl⟩:=A7 (hd.ud x hx);obtain ⟨a,b,c,d,e,f,rfl⟩:=A7 (hd.ud z a1);exact ⟨T2,h3,cJw h2 rfl h4⟩
theorem cOm(hd:bP dc)(hov:∀ n,wF ov n (oc.contains n)){x:List Int}(hx:x∈dc):cCw dl sk dc oc ov x:=bBx hd hov 10000 x hx (by have:=eT hd hx;omega)
theorem aNo(n:Int):wF cC n (([]:List Int).contains n):=fun base=>FV.argwk (sH [] n (by simp)) (by kernel_rfl)
theorem aGq{l:List Int}(hl:l.length≤1000)(n:Int):wF (aF l) n (l.contains n):=fun base=>sH l n hl
end
end
section
variable {P:Program} {T:TT} {E:Env} {C C0:Cx} {M M0 M1:Mem} {w w0:World}

def bkN(all:List Nat)(j:Nat):Option Nat:=all[j]?
def wI(H9:List Nat):List Nat→Mem→Option Upd
 | i::r,some o::m=>match mpO (bkN H9) o with
  | some o'=>(wI H9 r m).map ((i,o') :: ·)
  | none=>none
 | [],[]=>some []
 | _,_=>none

theorem aKz{H9:List Nat}:∀ {ids:List Nat} {m:Mem} {L:Upd},wI H9 ids m=some L→ids.Nodup →
  m.length=ids.length ∧
  ∀ (N:Mem),(∀ (p i:Nat) (o':AO),ids[p]? = some i→(cB (upds N L) i=some o'↔∃ o,m[p]? = some (some o)∧mpO (bkN H9) o=some o')) ∧
   ∀ j,j∉ids→cB (upds N L) j=cB N j
 | [],[],L,h,_=>by
  unfold wI at h;cases h
  refine ⟨rfl,fun N=>⟨fun p i o' hp=>by simp at hp,fun _ _=>rfl⟩⟩
 | i::r,some o::m,L,h,hd=>by
  unfold wI at h
  split at h
  ·rename_i o' ho
   simp only [lM] at h
   obtain ⟨L',Kr,rfl⟩:=h;obtain ⟨Mb,Ma⟩:=List.nodup_cons.1 hd;obtain ⟨q1,q2⟩:=aKz (ids:=r) Kr Ma;refine ⟨by simpa using q1,fun N => ?_⟩
   obtain ⟨r1,r4⟩:=q2 (bB N i (some o'));refine ⟨fun p j o2 hp => ?_,fun j hj => ?_⟩
   ·cases p with
    | zero =>
     simp at hp;subst hp
     simp only [upds];rw [r4 i Mb,dG,if_pos rfl];constructor
     ·intro h;cases h;exact ⟨o,rfl,ho⟩
     ·rintro ⟨o3,h3,h4⟩
      simp at h3;subst h3
      rw [ho] at h4;exact h4
    | succ p =>
     simp only [upds];rw [List.getElem?_cons_succ] at hp
     rw [r1 p j o2 hp];rfl
   ·simp only [upds]
    rw [r4 j (fun e=>hj (Ch _ e)),dG,if_neg (fun e=>hj (by simp [e]))]
  ·cases h
 | [],_::_,L,h,_=>by unfold wI at h;cases h
 | _::_,[],L,h,_=>by unfold wI at h;cases h
 | _::_,none::_,L,h,_=>by unfold wI at h;cases h

theorem aGx{H9:List Nat}:∀ {ids:List Nat} {m:Mem} {L:Upd},wI H9 ids m=some L→∀ (p:Nat) (o1:AO),m[p]? = some (some o1)→∃ o',mpO (bkN H9) o1=some o'
 | [],[],L,h,p,o1,hp=>by simp at hp
 | i::r,some o::m,L,h,p,o1,hp=>by
  unfold wI at h
  split at h
  ·rename_i hx
   simp only [lM] at h
   obtain ⟨L',Kr,_⟩:=h;cases p with
   | zero=>simp at hp;subst hp;exact ⟨_,hx⟩
   | succ p=>exact aGx Kr p o1 (by simpa using hp)
  ·cases h
 | [],_::_,L,h,_,_,_=>by unfold wI at h;cases h
 | _::_,[],L,h,_,_,_=>by unfold wI at h;cases h
 | _::_,none::_,L,h,_,_,_=>by unfold wI at h;cases h

def Cx.backN(C C1:Cx)(all:List Nat):Cx :=
 {ι:=fun j=>match idx all j 0 with | some p=>C1.ι p | none=>C.ι j
  κ:=fun j=>match idx all j 0 with | some p=>C1.κ p | none=>C.κ j
  F:=C1.F }

theorem bTy{ids news:List Nat}{r y:AV}{L:Upd}{C1:Cx}{w':World}{u:Value}(hd:distinct 0 ids=true)(hda:distinct 0 (ids++news)=true)(hb:∀ i∈news,fY M i=true)
  (hs:rnM 0 ids (ids.map (at? M))=some M0) (hlv:∀ i∈ids,eP M i=true) (hU:wI (ids++news) (ids++news) M1=some L) (hy:mpA (bkN (ids++news)) r=some y)
  (hM:aU P C M w) (hF:Fr (C.rn 0 ids) M0 w C1 M1 w') (Cp:aU P C1 M1 w') (hr:Rep C1 M1 w' r u):Fr C M w (C.backN C1 (ids++news)) (upds M L) w'∧aU P (C.backN C1 (ids++news)) (upds M L) w'∧Rep (C.backN C1 (ids++news)) (upds M L) w' y u:=by
 obtain ⟨_,hnd⟩:=jS hd;obtain ⟨_,hna⟩:=jS hda;obtain ⟨Dk,hmp,hsrc⟩:=tC (k:=0) hM hd hs;have hlen:M0.length=ids.length:=by have:=(aEh hs).1;simpa using this
 generalize hall:ids++news=all at *
 obtain ⟨hl1,hup⟩:=aKz hU hna;obtain ⟨u1,u4⟩:=hup M;have hL:=Dk.le hF;have inA:∀ (p i:Nat),ids[p]? = some i→all[p]? = some i:=fun p i h=>by
  rw [← hall,aAh (Ca.1 h).1];exact h
 have memA:∀ i,i∈all↔i∈ids∨i∈news:=fun i=>by rw [← hall];simp
 have newF:∀ (p i:Nat),all[p]? = some i→i∉ids→fY M i=true:=fun p i h hn=>by
  rcases (memA i).1 (Bl h) with h | h
  ·exact absurd h hn
  ·exact hb i h
 have oldP:∀ (p i:Nat),all[p]? = some i→i∈ids→ids[p]? = some i:=fun p i h hn=>by
  obtain ⟨q,hq,he⟩:=List.mem_iff_getElem.1 hn;have h2:ids[q]? = some i:=by rw [Ay hq,he]
  have e1:=sD hna 0 h;have e2:=sD hna 0 (inA q i h2);rw [e1] at e2
  have:p=q:=by simpa using e2
  rw [this];exact h2
 have rnp:∀ p i,ids[p]? = some i→rnI 0 ids i=some p:=fun p i h=>by
  have:=sD hnd 0 h;unfold rnI;rw [show Nat.blt i 0=false from rfl,this,iC]
 have Dr:∀ p i,ids[p]? = some i→∃ o o0,M[i]? = some (some o)∧o.live=true∧M0[p]? = some (some o0)∧o0.live=true∧(C.rn 0 ids).ι p=C.ι i∧(C.rn 0 ids).κ p=C.κ i:=fun p i hp=>by
  obtain ⟨o,h1,h2⟩:=dW (hlv i (Bl hp));obtain ⟨o0,h3,h4⟩:=hmp.fw _ _ _ (rnp p i hp) h1;exact ⟨o,o0,h1,h2,h3,by rw [bV h4];exact h2,hmp.at_ _ _ (rnp p i hp)⟩
 have sh_of:∀ (p:Nat) (o0:AO),M0[p]? = some (some o0)→∃ i o,ids[p]? = some i∧M[i]? = some (some o)∧o.live=true∧o0.live=true∧(C.rn 0 ids).ι p=C.ι i:=fun p o0 hp=>by
  obtain ⟨hl,_⟩:=Ca.1 hp;have I1:ids[p]? = some ids[p]:=Ay (by omega)
  obtain ⟨o,o1,h1,h2,h3,h4,h5,_⟩:=Dr p _ I1;rw [hp] at h3;cases h3
  exact ⟨_,o,I1,h1,h2,h4,h5⟩
 have apart:∀ (j:Nat) (o:AO) (b:Nat),j∉ids→M[j]? = some (some o)→o.live=true→C.ι j=some b→w'.heap[b]? = w.heap[b]? ∧ ¬ C1.F b∧∀ (p:Nat) (o1:AO),M1[p]? = some (some o1)→o1.live=true→C1.ι p≠some b:=fun j o b hj h1 h2 h3=>by
  have Dm:=hM.lt j o b h1 h2 h3;have Nb:∀ (p:Nat) (o0:AO),M0[p]? = some (some o0)→o0.live=true→(C.rn 0 ids).ι p≠some b:=fun p o0 hp _ he=>by
   obtain ⟨i,o2,q1,q2,q3,_,q4⟩:=sh_of p o0 hp;rw [q4] at he
   have:=hM.inj j i o o2 b h1 h2 q2 q3 h3 he;subst this;exact hj (Bl q1)
  refine ⟨hF.keep b Dm Nb,fun hf => ?_,fun p o1 hp hl he => ?_⟩
  ·rcases hF.F2 b hf with q | q | ⟨p,o0,q1,q2,q3⟩
   ·exact hM.nF j o b h1 h2 h3 q
   ·omega
   ·exact Nb p o0 q1 q2 q3
  ·rcases hF.new p o1 b hp hl he with q | ⟨p0,o0,q1,q2,q3⟩
   ·omega
   ·exact Nb p0 o0 q1 q2 q3
 have ix:∀ j,(j∈all→∃ p,idx all j 0=some p∧all[p]? = some j)∧(j∉all→idx all j 0=none):=fun j=>by
  refine ⟨fun hj => ?_,fun hj => ?_⟩
  ·obtain ⟨p,hp,he⟩:=List.mem_iff_getElem.1 hj
   have:all[p]? = some j:=by rw [Ay hp,he]
   exact ⟨p,by simpa using sD hna 0 this,this⟩
  ·cases h1:idx all j 0 with
   | none=>rfl
   | some p =>
    obtain ⟨_,h2⟩:=yC _ _ _ _ h1;exact absurd (Bl h2) hj
 have cls:∀ (j:Nat) (o':AO),(upds M L)[j]? = some (some o')→(∃ p o1,all[p]? = some j∧M1[p]? = some (some o1)∧mpO (bkN all) o1=some o'∧(C.backN C1 all).ι j=C1.ι p∧(C.backN C1 all).κ j=C1.κ p) ∨
   (j∉ids∧j∉all∧M[j]? = some (some o')∧(C.backN C1 all).ι j=C.ι j∧(C.backN C1 all).κ j=C.κ j):=fun j o' hj=>by
  rw [← bK] at hj
  by_cases hm:j∈all
  ·obtain ⟨p,Jv,Jm⟩:=(ix j).1 hm
   obtain ⟨o1,h1,h2⟩:=(u1 p j o' Jm).1 hj;exact .inl ⟨p,o1,Jm,h1,h2,by simp [Cx.backN,Jv],by simp [Cx.backN,Jv]⟩
  ·have hn:=(ix j).2 hm
   rw [u4 j hm] at hj
   exact .inr ⟨fun h=>hm ((memA j).2 (.inl h)),hm,bK.1 hj,by simp [Cx.backN,hn],by simp [Cx.backN,hn]⟩
 have Hg:Fr C M w (C.backN C1 all) (upds M L) w':=by
  refine ⟨hF.os,hF.tape,hF.out,hF.size,fun b Dm hn => ?_,fun i o ho => ?_,fun i o ho ty n cs hx => ?_,fun i o ho o' hx hl => ?_,fun j o b hj hl hjb => ?_,fun b hb=>hF.F1 b hb,fun b hb => ?_⟩
  ·exact hF.keep b Dm fun p o0 hp hl he=>by
    obtain ⟨i,o2,q1,q2,q3,_,q4⟩:=sh_of p o0 hp;rw [q4] at he
    exact hn i o2 q2 q3 he
  ·by_cases hm:i∈all
   ·obtain ⟨p,Jv,Jm⟩:=(ix i).1 hm
    have hmi:i∈ids:=Classical.byContradiction fun hni=>cZ (newF p i Jm hni) o ho
    obtain ⟨_,o0,_,_,h3,h4,h5,h6⟩:=Dr p i (oldP p i Jm hmi);obtain ⟨⟨o1,q1⟩,q2,q3⟩:=hF.ids p o0 h3;refine ⟨?_,by simp only [Cx.backN,Jv];rw [q2,h5],by simp only [Cx.backN,Jv];rw [q3,h6]⟩
    obtain ⟨o',hq⟩:=aGx hU p o1 q1;exact ⟨o',bK.1 ((u1 p i o' Jm).2 ⟨o1,q1,hq⟩)⟩
   ·refine ⟨⟨o,bK.1 (by rw [u4 i hm];exact bK.2 ho)⟩,by simp [Cx.backN,(ix i).2 hm],by simp [Cx.backN,(ix i).2 hm]⟩
  ·rcases cls i _ hx with ⟨p,o1,q1,q2,q3,_⟩ | ⟨_,_,q3,_⟩
   ·have hmi:i∈ids:=Classical.byContradiction fun hni=>cZ (newF p i q1 hni) o ho
    have q1:=oldP p i q1 hmi;rw [mF q3] at q2
    obtain ⟨o2,o0,h1,_,h3,_⟩:=Dr p i q1;obtain ⟨Bz,h5⟩:=hF.row p o0 h3 _ _ _ q2;obtain ⟨o4,h6,h7⟩:=hmp.bk _ _ _ (rnp p i q1) h5;rw [mF h7] at h6
    exact ⟨Bz,h6⟩
   ·exact ⟨cs,q3⟩
  ·rcases cls i _ hx with ⟨p,o1,q1,q2,q3,_⟩ | ⟨_,_,q3,_⟩
   ·have hmi:i∈ids:=Classical.byContradiction fun hni=>cZ (newF p i q1 hni) o ho
    obtain ⟨o2,o0,h1,h2,h3,_⟩:=Dr p i (oldP p i q1 hmi);rw [ho] at h1;cases h1
    exact h2
   ·rw [ho] at q3;cases q3;exact hl
  ·have fin:∀ (p:Nat) (o1:AO),M1[p]? = some (some o1)→o1.live=true→C1.ι p=some b→w.heap.size≤b∨∃ (Im:Nat) (o0:AO),M[Im]? = some (some o0)∧o0.live=true∧C.ι Im=some b:=fun p o1 h1 h2 h3=>by
    rcases hF.new p o1 b h1 h2 h3 with q | ⟨p0,o0,q1,q2,q3⟩
    ·exact .inl q
    ·obtain ⟨i,o2,r1,r2,r3,_,r4⟩:=sh_of p0 o0 q1
     rw [r4] at q3
     exact .inr ⟨i,o2,r2,r3,q3⟩
   rcases cls j _ hj with ⟨p,o1,q1,q2,q3,q4,_⟩ | ⟨_,_,q3,q4,_⟩
   ·rw [q4] at hjb
    exact fin p o1 q2 (by rw [← bV q3];exact hl) hjb
   ·rw [q4] at hjb
    exact .inr ⟨j,o,q3,hl,hjb⟩
  ·rcases hF.F2 b hb with q | q | ⟨p,o0,q1,q2,q3⟩
   ·exact .inl q
   ·exact .inr (.inl q)
   ·obtain ⟨i,o2,r1,r2,r3,_,r4⟩:=sh_of p o0 q1
    rw [r4] at q3
    exact .inr (.inr ⟨i,o2,r2,r3,q3⟩)
 have Hm:=hM.le Hg;have hbk:bDm (bkN all) C1 (C.backN C1 all) M1 (upds M L):=by
  refine ⟨fun i j o' hij hj=>(u1 i j o' hij).1 (bK.2 hj),fun i j o hij hi => ?_,fun i j hij => ?_,fun _ h=>h⟩
  ·obtain ⟨o',hq⟩:=aGx hU i o hi
   exact ⟨o',bK.1 ((u1 i j o' hij).2 ⟨o,hi,hq⟩),hq⟩
  ·have:=sD hna 0 hij
   rw [iC] at this
   simp [Cx.backN,this]
 refine ⟨Hg,⟨fun j ty n cs h => ?_,fun j ty cs h => ?_,fun j es cl h => ?_,fun j j' o1 o2 b q1 l1 q2 l2 e1 e2 => ?_,fun j o b h hl hb => ?_,Cp.Fs,fun j o b h hl hb => ?_⟩,vF hbk hr hy⟩
 ·rcases cls j _ h with ⟨p,o1,q1,q2,q3,q4,q5⟩ | ⟨q1,_,q3,q4,q5⟩
  ·rw [mF q3] at q2
   rw [q4,q5];exact Cp.row _ _ _ _ q2
  ·rw [q4,q5]
   rcases hM.row _ _ _ _ q3 with q | ⟨b,arr,inf,p0,p1,p2,p3,p4,p5,p6,p7,p8⟩
   ·exact .inl q
   ·exact .inr ⟨b,arr,inf,p0,by rw [(apart j _ b q1 q3 rfl p0).1];exact p1,p2,p3,p4,p5,p6,fun i hi=>(p7 i hi).mono Hm.F Hm.fz,p8⟩
 ·rcases cls j _ h with ⟨p,o1,q1,q2,q3,q4,q5⟩ | ⟨q1,_,q3,q4,q5⟩
  ·cases o1 with
   | box Du l =>
    simp only [mpO,lM] at q3
    obtain ⟨l',Ed,e⟩:=q3;cases e;obtain ⟨b,arr,p0,p1,p2,p3,p4⟩:=Cp.box _ _ _ q2;obtain ⟨n1,n2⟩:=gV hbk (w:=w') (us:=fun j=>arr.getD j undef) p3 Ed
    exact ⟨b,arr,by rw [q4];exact p0,p1,by omega,n2,fun j hj=>p4 j (by omega)⟩
   | row=>simp [mpO] at q3
   | mp=>simp [mpO] at q3
   | pk=>simp [mpO] at q3
   | dead=>simp [mpO] at q3
  ·obtain ⟨b,arr,p0,p1,p2,p3,p4⟩:=hM.box _ _ _ q3
   exact ⟨b,arr,by rw [q4];exact p0,by rw [(apart j _ b q1 q3 rfl p0).1];exact p1,p2,fun i hi=>(p3 i hi).mono Hm,p4⟩
 ·rcases cls j _ h with ⟨p,o1,q1,q2,q3,q4,q5⟩ | ⟨q1,_,q3,q4,q5⟩
  ·cases o1 with
   | mp Cw Ef =>
    simp only [mpO,Option.some.injEq] at q3
    cases q3;obtain ⟨b,arr,p0,p1,p2,p3⟩:=Cp.mp _ _ _ q2;refine ⟨b,arr,by rw [q4];exact p0,p1,p2,fun j hj => ?_⟩
    obtain ⟨en,s1,s2,s3,s4⟩:=p3 j hj;exact ⟨en,s1,s2,s3,s4.mono hbk.F (fun _ _=>rfl)⟩
   | row=>simp [mpO] at q3
   | box=>simp [mpO] at q3
   | pk=>simp [mpO] at q3
   | dead=>simp [mpO] at q3
  ·obtain ⟨b,arr,p0,p1,p2,p3⟩:=hM.mp _ _ _ q3
   refine ⟨b,arr,by rw [q4];exact p0,by rw [(apart j _ b q1 q3 rfl p0).1];exact p1,p2,fun i hi => ?_⟩
   obtain ⟨en,s1,s2,s3,s4⟩:=p3 i hi;exact ⟨en,s1,s2,s3,s4.mono Hm.F Hm.fz⟩
 ·rcases cls j _ q1 with ⟨p,a1,r1,r2,r3,r4,_⟩ | ⟨r1,rb,r3,r4,_⟩ <;> rcases cls j' _ q2 with ⟨p',a2,t1,t2,t3,t4,_⟩ | ⟨t1,tb,t3,t4,_⟩
  all_goals (rw [r4] at e1;rw [t4] at e2)
  ·have:=Cp.inj p p' a1 a2 b r2 (by rw [← bV r3];exact l1) t2 (by rw [← bV t3];exact l2) e1 e2
   subst this;rw [r1] at t1;cases t1;rfl
  ·exact absurd e1 ((apart j' o2 b t1 t3 l2 e2).2.2 p a1 r2 (by rw [← bV r3];exact l1))
  ·exact absurd e2 ((apart j o1 b r1 r3 l1 e1).2.2 p' a2 t2 (by rw [← bV t3];exact l2))
  ·exact hM.inj j j' o1 o2 b r3 l1 t3 l2 e1 e2
 ·rcases cls j _ h with ⟨p,o1,q1,q2,q3,q4,q5⟩ | ⟨q1,_,q3,q4,q5⟩
  ·rw [q4] at hb
   exact Cp.nF _ _ b q2 (by rw [← bV q3];exact hl) hb
  ·rw [q4] at hb
   exact (apart j o b q1 q3 hl hb).2.1
 ·rcases cls j _ h with ⟨p,o1,q1,q2,q3,q4,q5⟩ | ⟨q1,_,q3,q4,q5⟩
  ·rw [q4] at hb
   exact Cp.lt _ _ b q2 (by rw [← bV q3];exact hl) hb
  ·rw [q4] at hb
   exact gF (hM.lt j o b q3 hl hb) hF.size

def aYg(ids news:List Nat)(args:List AV)(bs:Upd)(M1:Mem)(r:AV):Option (List AV × Mem × AV × Upd):=match distinct 0 ids && distinct 0 (ids++news) && ids.all (eP (upds [] bs)) with
 | true=>match rnM 0 ids (ids.map (at? (upds [] bs))) with
  | some M0=>match rnL 0 ids args with
   | some B1=>match wI (ids++news) (ids++news) M1 with
    | some L=>match mpA (bkN (ids++news)) r with
     | some y=>some (B1,M0,y,L)
     | none=>none
    | none=>none
   | none=>none
  | none=>none
 | false=>none
theorem FMM.fcN{f base k:Nat}(hk:Nat.ble k 8=true){ids:List Nat}{args B1:List AV}{bs:Upd}{r y:AV}{L:Upd}(h:FMM P f B1 M0 r M1)(hs:aYg ids ((List.range k).map (base + ·)) args bs M1 r=some (B1,M0,y,L)):FC P f args bs base y L:=fun M hb hf M8=>by
 unfold aYg at hs
 have hsub:aTn (upds [] bs) M:=fun id o ho=>by
  rcases sY bs [] id o ho with h5 | h5
  ·exact hb _ h5
  ·simp [cB] at h5
 split at hs
 ·rename_i hd
  rw [Ce,Ce,gB] at hd
  obtain ⟨⟨Mb,Ma⟩,R7⟩:=hd;have hlv:∀ i∈ids,∃ o,cB (upds [] bs) i=some o∧cB M i=some o∧o.live=true:=fun i hi=>by
   obtain ⟨o,h1,h2⟩:=dW (R7 i hi);exact ⟨o,bK.2 h1,hsub _ _ (bK.2 h1),h2⟩
  split at hs
  ·rename_i h1
   split at hs
   ·rename_i h2
    split at hs
    ·rename_i h3
     split at hs
     ·rename_i h4
      cases hs;have he:ids.map (at? M)=ids.map (at? (upds [] bs)):=aAi fun i hi=>by
       obtain ⟨o,q1,q2,_⟩:=hlv i hi;unfold at?
       rw [q1,q2]
      intro C w us hus hM n;have Jr:rnM 0 ids (ids.map (at? M))=some M0:=by rw [he];exact h1
      obtain ⟨Dk,hmp,_⟩:=tC (k:=0) hM Mb Jr;refine (h (C.rn 0 ids) w us (aMt hmp hus h2) Dk n).mono ?_;rintro e w' ⟨u,rfl,C1,hF,Cp,hr⟩;exact ⟨u,rfl,C.backN C1 (ids++(List.range k).map (base + ·)),bTy Mb Ma (fun i hi=>by
       obtain ⟨j,hj,rfl⟩:=B3.1 hi;have hj:=iN.1 hj;have hk:=Nat.le_of_ble_eq_true hk;exact M8 j (by omega)) Jr (fun i hi=>by
       obtain ⟨o,_,q2,q3⟩:=hlv i hi;exact jZ (bK.1 q2) q3) h3 h4 hM hF Cp hr⟩
     ·cases hs
    ·cases hs
   ·cases hs
  ·cases hs
 ·cases hs
def qF(ids:List Nat)(base:Nat):=bkN (ids++(List.range 7).map (base+·))
def qN(ids:List Nat)(base:Nat)(x:AV):AV:=(mpA (qF ids base) x).getD .any
theorem mN(ids:List Nat)(base:Nat){P:Program}{f:Nat}{B1:List AV}{M0 M1:Mem}{r:AV}(h:FMM P f B1 M0 r M1)(hs:aYg ids ((List.range 7).map (base+·)) (B1.map (qN ids base)) (qS ids (qF ids base) (B1.map (qN ids base)) M0) M1 r=some (B1,M0,qN ids base r,(wI (ids++(List.range 7).map (base+·)) (ids++(List.range 7).map (base+·)) M1).getD []):=by kernel_rfl):FC P f (B1.map (qN ids base)) (qS ids (qF ids base) (B1.map (qN ids base)) M0) base (qN ids base r) ((wI (ids++(List.range 7).map (base+·)) (ids++(List.range 7).map (base+·)) M1).getD []):=FMM.fcN (k:=7) rfl h hs
end
section
variable {b0 out Bs Jf Jg Gn I6:Bool}{a b m r0 s0 s1 x0 x1 x2 x3 x4 x5 bib tot Bu Eg Aa Ab Ac Ad Ae Af La Lb Ld Lf Lg Lh Fg:Int}{T t T1 t' Er T107 T109 T113 T115:Lqb}{l o:List Int}{i i' E0 Dc base:Nat}{ov:PV}
variable {dl:Int}{sk dc:Lqq}

noncomputable abbrev lG:Code:=sub (cd Tryz.f134) [1,1,0,1,0,0]
noncomputable abbrev aAv:Code:=sub (cd Tryz.f83) [1,1,1,0,1,0,0]
theorem bSw:0≤(0:Int)∧(0:Int)<5:=by first | decide | simp
theorem bSx:0≤(1:Int)∧(1:Int)<5:=by first | decide | simp
theorem bSy:0≤(2:Int)∧(2:Int)<5:=by first | decide | simp
theorem bSz:0≤(3:Int)∧(3:Int)<5:=by first | decide | simp
theorem bTa:0≤(4:Int)∧(4:Int)<5:=by first | decide | simp
abbrev aDd(dl:Int)(sk dc:Lqq)(ov:PV)(x:List Int)(bib:Int)(b:Bool)(T T2:Lqb):Prop:=FMM Tp 136 [aAx,.p (.agg (x.map aB)),.p (aB bib)] (dO dl sk dc ov T) (pB b) (dO dl sk dc ov T2)
abbrev aIi(dl:Int)(sk dc:Lqq)(ov:PV)(s:List Int)(n:Int)(b:Bool)(T T2:Lqb):Prop:=FMM Tp 134 [uM dl sk dc,.p (.agg (s.map aB)),aAx] (dO dl sk dc ov T) (.tup [.p (aB n),.p (blP b)]) (dO dl sk dc ov T2)
section
variable(h0:(decide (x1≤4))=true)(h1:x3=bib)(h2:uN dl sk dc ov [x0,x1,x2,x3,x4,x5] b0 T T1)
include h0 h1 h2
theorem cIu(h3:b0=true)(h4:x1≠4):FMM Tp 136 [aAx,(.p (dcE x0 x1 x2 x3 x4 x5)),(pI bib)] (dO dl sk dc ov T) (pB true) (dO dl sk dc ov T1):=have k1:=fk 9 (eR x1) rfl;have k2:=mq fa 9 h2;FMM.fi 7 gE func136 ([k1.o]++rT 9++[k2.o]++rT 12) (gc h3 (gc (fH h4) (gc h3 (Au (fH h4) (Au h3 (gc (bX h1) (gc k2 (Au (bX h1) (B0 h0 (gc k1 gn))))))))))
theorem cIv{b2:Bool}{T3:Lqb}(h3:b0=true)(h4:x1=4)(h5:bZg dl sk dc ov [x0,x1,x2,x3,x4,x5] b2 T1 T3):FMM Tp 136 [aAx,(.p (dcE x0 x1 x2 x3 x4 x5)),(pI bib)] (dO dl sk dc ov T) (pB b2) (dO dl sk dc ov T3):=have k1:=fk 9 (eR x1) rfl;have k2:=mq fa 9 h2;have k3:=mq fa 9 h5;FMM.fi 7 gE func136 ([k1.o]++rT 9++[k2.o]++rT 5++[bF,bF,bF,bF,k3.o,bT,bF,bT]) (gc h3 (gc (bG h4) (gc h3 (gc k3 (Au (bG h4) (Au h3 (gc (bX h1) (gc k2 (Au (bX h1) (B0 h0 (gc k1 gn)))))))))))
theorem cIw(h3:b0=false):FMM Tp 136 [aAx,(.p (dcE x0 x1 x2 x3 x4 x5)),(pI bib)] (dO dl sk dc ov T) (pB false) (dO dl sk dc ov T1):=have k1:=fk 9 (eR x1) rfl;have k2:=mq fa 9 h2;FMM.fi 7 gE func136 ([k1.o]++rT 9++[k2.o,bT]++rF 6) (Gf h3 (gc (bX h1) (gc k2 (Au (bX h1) (B0 h0 (gc k1 gn))))))
end
theorem cIx(h0:(decide (x1≤4))=true)(h1:x3≠bib):FMM Tp 136 [aAx,(.p (dcE x0 x1 x2 x3 x4 x5)),(pI bib)] (dO dl sk dc ov T) (pB false) (dO dl sk dc ov T):=have k1:=fk 9 (eR x1) rfl;FMM.fi 7 gE func136 ([k1.o]++rT 5++rF 5) (B0 (aS h1) (B0 h0 (gc k1 gn)))
theorem cIy(h0:(decide (x1≤4))=false):FMM Tp 136 [aAx,(.p (dcE x0 x1 x2 x3 x4 x5)),(pI bib)] (dO dl sk dc ov T) (pB false) (dO dl sk dc ov T):=have k1:=fk 9 (eR x1) rfl;FMM.fi 7 gE func136 ([k1.o]++rF 5) (B0 h0 (gc k1 gn))
theorem cIz(h0:inR (a+b))(A6:r0=(a+b)):FV Tp 212 [(pI a),(pI b)] base (pI r0) []:=by
 subst A6;exact FV.fi func212 [] (gc h0 gn)
theorem cJa(h0:inR (a-b))(A6:r0=(a-b)):FV Tp 213 [(pI a),(pI b)] base (pI r0) []:=by
 subst A6;exact FV.fi func213 [] (gc h0 gn)
theorem cJb(h0:inR ((1200:Int)*b))(h1:inR (a+((1200:Int)*b)))(A6:r0=(a+((1200:Int)*b))):FV Tp 214 [(pI a),(pI b)] base (pI r0) []:=by
 subst A6;exact FV.fi func214 [] (gc h1 (gc h0 gn))
theorem cJc:FV Tp 215 [(pI a),(pI b)] base (pI a) []:=FV.fi func215 [] gn
theorem aNk(a b:Int)(h:inR (a+b)){base:Nat}:FV Tp 212 [.p (aB a),.p (aB b)] base (pI (a+b)) []:=cIz h rfl
theorem bTb(a b:Int)(h:inR (a-b)){base:Nat}:FV Tp 213 [.p (aB a),.p (aB b)] base (pI (a-b)) []:=cJa h rfl
theorem bTc(a b:Int)(h:inR (1200*b)∧inR (a+1200*b)){base:Nat}:FV Tp 214 [.p (aB a),.p (aB b)] base (pI (a+1200*b)) []:=cJb h.1 h.2 rfl
theorem bTd(a b:Int){base:Nat}:FV Tp 215 [.p (aB a),.p (aB b)] base (pI a) []:=cJc
theorem qA:FV Tp 183 [] base (.agg [(.fn 212 [] []),(.fn 213 [] []),(.fn 214 [] []),(.fn 215 [] []),(.fn 212 [] [])]) []:=FV.fi func183 [] gn
def uK(l:List Int)(m:Int)(i:Nat):St:=⟨fr 18 [(0,(pI m)),(4,(pI 0)),(7,(.p (aF l))),(8,(pI (l.length:Int))),(9,(pI (i:Int)))],[]⟩
theorem cJd{Vk:Int}(hl0:aD Tp 0 (sub (cd Tryz.f184) g8) (uK l a 0) (.exit 0) (uK l Vk E0)):FV Tp 184 [(pI a),(.p (aF l))] base (pI Vk) []:=FV.fi func184 [hl0.k 6 (gZ [1,3,5,2,10,7])] (gc hl0.code gn)
theorem bKi{Aj m':Int}(h0:(i:Int)<(l.length:Int))(h1:l[i]? = some Aj)(h2:gk i)(Xh:m'=(if Aj > m then Aj else m))(Ai:i'=(i+1)):aC Tp 0 (sub (cd Tryz.f184) g8) (uK l m i) .normal (uK l m' i'):=by
 subst Xh Ai;exact aC.fi (gZ [1,3,5,2,10,7]) [bT,.x (aB Aj)] (gc h2 (gc (atm aB h1) (gc (ixn aB h1) (g0 h0))))
theorem bKj(h0:(l.length:Int)≤(i:Int)):aC Tp 0 (sub (cd Tryz.f184) g8) (uK l m i) (.exit 0) (uK l m i):=aC.fi (gZ [1,3,5,2,10,7]) [bF] (gc (aK h0) gn)
def aDe(a:Int)(l:List Int):Int:=l.foldl (fun m x=>if x > m then x else m) a
theorem aXm(a:Int)(l:List Int)(hl:l.length≤1000){base:Nat}:FV Tp 184 [.p (aB a),.p (aF l)] base (pI (aDe a l)) [] :=
 cJd (aD.range (P:=Tp) (k:=0) (e := .exit 0) (fun i m=>uK l m i) (fun m=>uK l m l.length) (fun m x=>if x > m then x else m) (fun _ _=>True) (by simp) l trivial
  (fun i x acc hx _=>⟨trivial,bKi (by have:=aM hx;omega) hx (aI (by have:=aM hx;omega)) rfl rfl⟩) (fun acc _=>bKj (by omega)))
def dU(dl:Int)(sk dc:Lqq)(ov:PV)(s0 s1:Int)(out:Bool)(tot:Int)(i:Nat)(te:List (Value × PV))(tk:Nat):St:=⟨fr 54 [(4,(.ptr 7 0)),(5,(.ptr 8 0)),(6,(pI 0)),(7,(.kb false)),(8,(pB out)),(9,(pI tot)),(21,(.p (fS dc))),(22,(pI (dc.length:Int))),(23,(pI (i:Int)))],[some (Gp dl sk dc),some (.box 33 [(.p ov)]),some Hi,some (.mp te tk),some (.box 207 [(.mp 3)]),some (Gq dl sk dc),some It,some (.box 31 [(pI s0),(pI s1)]),some Hi]⟩
section
variable(hl0:aD Tp 7 lG (dU dl sk dc ov s0 s1 (s1 == (-1)) s1 0 (aQ T) T.length) (.exit 0) (dU dl sk dc ov s0 s1 I6 Fg Dc (aQ Er) Er.length))
include hl0
theorem cJe(h1:I6=true):FMM Tp 134 [(.rp (aZ dl sk dc) 0),(.p (.agg [(aB s0),(aB s1)])),aAx] (dO dl sk dc ov T) (.tup [(pI 0),(pB true)]) (dO dl sk dc ov Er):=FMM.fi 7 gE func134 [.x (fS dc),hl0.k 1 (gI dy [7,8]),bT] (gc h1 (gc hl0.code (gr (fS dc) gn)))
theorem cJf(h1:I6=false)(h2:([Fg]:List Int).length≤1000)(A6:r0=(aDe 0 ([Fg]:List Int))):FMM Tp 134 [(.rp (aZ dl sk dc) 0),(.p (.agg [(aB s0),(aB s1)])),aAx] (dO dl sk dc ov T) (.tup [(pI r0),(pB false)]) (dO dl sk dc ov Er):=by
 subst A6;exact FMM.fi 7 gE func134 [.x (fS dc),hl0.k 1 (gI dy [7,8]),bF,.c (pI (aDe 0 ([Fg]:List Int))) []] (gt (FC Tp 184 [(pI 0),(.own 9)] [(9,(.row 3 1 [(aB Fg)]))] 10 (pI (aDe 0 ([Fg]:List Int))) []) (fv (aXm 0 ([Fg]:List Int) h2)) (gc h1 (gc hl0.code (gr (fS dc) gn))))
end
section
variable(h0:(i:Int)<(dc.length:Int))(h1:dc[i]? = some [Aa,(0:Int),Ac,Ad,Ae,Af])(h2:uni 6 dc)(h3:aDd dl sk dc ov [Aa,(0:Int),Ac,Ad,Ae,Af] s0 Bs t T107)(h4:Bs=true)
include h0 h1 h2 h3 h4
theorem bKk(h5:out=true)(h6:aDf dl sk dc ov [Aa,(0:Int),Ac,Ad,Ae,Af] Bu T107 T109)(h7:inR (tot+Bu))(h8:gk i)(Da:Eg=(tot+Bu))(Ai:i'=(i+1))(Bh:aQ t'=(aQ T109))(Bi:t'.length=T109.length):aC Tp 7 lG (dU dl sk dc ov s0 s1 out tot i (aQ t) t.length) .normal (dU dl sk dc ov s0 s1 true Eg i' (aQ t') t'.length):=by
 subst Da Ai;have k1:=mq fa 10 h3;have k2:=fk 10 qA rfl;have k3:=mq fa 18 h6;rw [Bh,Bi];exact aC.fi (gN dy [7,8] [(8,0)]) ([bT,.x (dcE Aa 0 Ac Ad Ae Af),k1.o]++rT 5++[k2.o,k3.o,.c (pI (tot+Bu)) []]) (gc h8 (gc (fk 26 (aNk tot Bu h7) rfl) (gc k3 (gc bSw (gc k2 (Au h5 (gc h4 (gc k1 (gfl h2 h1 (g0 h0))))))))))
theorem bKl(h5:out=false)(h6:aDf dl sk dc ov [Aa,(0:Int),Ac,Ad,Ae,Af] Bu T107 T109)(h7:inR (tot+Bu))(h8:gk i)(Ez:Gn=((0:Int) == 3))(Da:Eg=(tot+Bu))(Ai:i'=(i+1))(Bh:aQ t'=(aQ T109))(Bi:t'.length=T109.length):aC Tp 7 lG (dU dl sk dc ov s0 s1 out tot i (aQ t) t.length) .normal (dU dl sk dc ov s0 s1 Gn Eg i' (aQ t') t'.length):=by
 subst Ez Da Ai;have k1:=mq fa 10 h3;have k2:=fk 10 qA rfl;have k3:=mq fa 18 h6;rw [Bh,Bi];exact aC.fi (gI dy [7,8]) [bT,.x (dcE Aa 0 Ac Ad Ae Af),k1.o,bT,bF,bF,bF,bF,k2.o,k3.o,.c (pI (tot+Bu)) []] (gc h8 (gc (fk 26 (aNk tot Bu h7) rfl) (gc k3 (gc bSw (gc k2 (Au h5 (gc h4 (gc k1 (gfl h2 h1 (g0 h0))))))))))
end
section
variable(h0:(i:Int)<(dc.length:Int))(h1:dc[i]? = some [Aa,(1:Int),Ac,Ad,Ae,Af])(h2:uni 6 dc)(h3:aDd dl sk dc ov [Aa,(1:Int),Ac,Ad,Ae,Af] s0 Bs t T107)(h4:Bs=true)
include h0 h1 h2 h3 h4
theorem bKm(h5:out=true)(h6:aDf dl sk dc ov [Aa,(1:Int),Ac,Ad,Ae,Af] Bu T107 T109)(h7:inR (tot-Bu))(h8:gk i)(Da:Eg=(tot-Bu))(Ai:i'=(i+1))(Bh:aQ t'=(aQ T109))(Bi:t'.length=T109.length):aC Tp 7 lG (dU dl sk dc ov s0 s1 out tot i (aQ t) t.length) .normal (dU dl sk dc ov s0 s1 true Eg i' (aQ t') t'.length):=by
 subst Da Ai;have k1:=mq fa 10 h3;have k2:=fk 10 qA rfl;have k3:=mq fa 18 h6;rw [Bh,Bi];exact aC.fi (gN dy [7,8] [(8,0)]) ([bT,.x (dcE Aa 1 Ac Ad Ae Af),k1.o]++rT 5++[k2.o,k3.o,.c (pI (tot-Bu)) []]) (gc h8 (gc (fk 26 (bTb tot Bu h7) rfl) (gc k3 (gc bSx (gc k2 (Au h5 (gc h4 (gc k1 (gfl h2 h1 (g0 h0))))))))))
theorem bKn(h5:out=false)(h6:aDf dl sk dc ov [Aa,(1:Int),Ac,Ad,Ae,Af] Bu T107 T109)(h7:inR (tot-Bu))(h8:gk i)(Ez:Gn=((1:Int) == 3))(Da:Eg=(tot-Bu))(Ai:i'=(i+1))(Bh:aQ t'=(aQ T109))(Bi:t'.length=T109.length):aC Tp 7 lG (dU dl sk dc ov s0 s1 out tot i (aQ t) t.length) .normal (dU dl sk dc ov s0 s1 Gn Eg i' (aQ t') t'.length):=by
 subst Ez Da Ai;have k1:=mq fa 10 h3;have k2:=fk 10 qA rfl;have k3:=mq fa 18 h6;rw [Bh,Bi];exact aC.fi (gI dy [7,8]) [bT,.x (dcE Aa 1 Ac Ad Ae Af),k1.o,bT,bF,bF,bF,bF,k2.o,k3.o,.c (pI (tot-Bu)) []] (gc h8 (gc (fk 26 (bTb tot Bu h7) rfl) (gc k3 (gc bSx (gc k2 (Au h5 (gc h4 (gc k1 (gfl h2 h1 (g0 h0))))))))))
end
section
variable(h0:(i:Int)<(dc.length:Int))(h1:dc[i]? = some [Aa,(2:Int),Ac,Ad,Ae,Af])(h2:uni 6 dc)(h3:aDd dl sk dc ov [Aa,(2:Int),Ac,Ad,Ae,Af] s0 Bs t T107)(h4:Bs=true)
include h0 h1 h2 h3 h4
theorem bKo(h5:out=true)(h6:aDf dl sk dc ov [Aa,(2:Int),Ac,Ad,Ae,Af] Bu T107 T109)(h7:inR (1200*Bu)∧inR (tot+1200*Bu))(h8:gk i)(Da:Eg=(tot+1200*Bu))(Ai:i'=(i+1))(Bh:aQ t'=(aQ T109))(Bi:t'.length=T109.length):aC Tp 7 lG (dU dl sk dc ov s0 s1 out tot i (aQ t) t.length) .normal (dU dl sk dc ov s0 s1 true Eg i' (aQ t') t'.length):=by
 subst Da Ai;have k1:=mq fa 10 h3;have k2:=fk 10 qA rfl;have k3:=mq fa 18 h6;have k4:=fk 26 (bTc tot Bu h7) rfl;rw [Bh,Bi];exact aC.fi (gN dy [7,8] [(8,0)]) ([bT,.x (dcE Aa 2 Ac Ad Ae Af),k1.o]++rT 5++[k2.o,k3.o,k4.o]) (gc h8 (gc k4 (gc k3 (gc bSy (gc k2 (Au h5 (gc h4 (gc k1 (gfl h2 h1 (g0 h0))))))))))
theorem bKp(h5:out=false)(h6:aDf dl sk dc ov [Aa,(2:Int),Ac,Ad,Ae,Af] Bu T107 T109)(h7:inR (1200*Bu)∧inR (tot+1200*Bu))(h8:gk i)(Ez:Gn=((2:Int) == 3))(Da:Eg=(tot+1200*Bu))(Ai:i'=(i+1))(Bh:aQ t'=(aQ T109))(Bi:t'.length=T109.length):aC Tp 7 lG (dU dl sk dc ov s0 s1 out tot i (aQ t) t.length) .normal (dU dl sk dc ov s0 s1 Gn Eg i' (aQ t') t'.length):=by
 subst Ez Da Ai;have k1:=mq fa 10 h3;have k2:=fk 10 qA rfl;have k3:=mq fa 18 h6;have k4:=fk 26 (bTc tot Bu h7) rfl;rw [Bh,Bi];exact aC.fi (gI dy [7,8]) [bT,.x (dcE Aa 2 Ac Ad Ae Af),k1.o,bT,bF,bF,bF,bF,k2.o,k3.o,k4.o] (gc h8 (gc k4 (gc k3 (gc bSy (gc k2 (Au h5 (gc h4 (gc k1 (gfl h2 h1 (g0 h0))))))))))
end
section
variable(h0:(i:Int)<(dc.length:Int))(h1:dc[i]? = some [Aa,(3:Int),Ac,Ad,Ae,Af])(h2:uni 6 dc)(h3:aDd dl sk dc ov [Aa,(3:Int),Ac,Ad,Ae,Af] s0 Bs t T107)(h4:Bs=true)
include h0 h1 h2 h3 h4
theorem bKq(h5:out=true)(h6:aDf dl sk dc ov [Aa,(3:Int),Ac,Ad,Ae,Af] Bu T107 T109)(h7:gk i)(Ai:i'=(i+1))(Bh:aQ t'=(aQ T109))(Bi:t'.length=T109.length):aC Tp 7 lG (dU dl sk dc ov s0 s1 out tot i (aQ t) t.length) .normal (dU dl sk dc ov s0 s1 true tot i' (aQ t') t'.length):=by
 subst Ai;have k1:=mq fa 10 h3;have k2:=fk 10 qA rfl;have k3:=mq fa 18 h6;rw [Bh,Bi];exact aC.fi (gN dy [7,8] [(8,0)]) ([bT,.x (dcE Aa 3 Ac Ad Ae Af),k1.o]++rT 5++[k2.o,k3.o,.c (pI tot) []]) (gc h7 (gc (fk 26 (bTd tot Bu) rfl) (gc k3 (gc bSz (gc k2 (Au h5 (gc h4 (gc k1 (gfl h2 h1 (g0 h0))))))))))
theorem bKr(h5:out=false)(h6:aDf dl sk dc ov [Aa,(3:Int),Ac,Ad,Ae,Af] Bu T107 T109)(h7:gk i)(Ez:Gn=((3:Int) == 3))(Ai:i'=(i+1))(Bh:aQ t'=(aQ T109))(Bi:t'.length=T109.length):aC Tp 7 lG (dU dl sk dc ov s0 s1 out tot i (aQ t) t.length) .normal (dU dl sk dc ov s0 s1 Gn tot i' (aQ t') t'.length):=by
 subst Ez Ai;have k1:=mq fa 10 h3;have k2:=fk 10 qA rfl;have k3:=mq fa 18 h6;rw [Bh,Bi];exact aC.fi (gI dy [7,8]) [bT,.x (dcE Aa 3 Ac Ad Ae Af),k1.o,bT,bF,bF,bF,bF,k2.o,k3.o,.c (pI tot) []] (gc h7 (gc (fk 26 (bTd tot Bu) rfl) (gc k3 (gc bSz (gc k2 (Au h5 (gc h4 (gc k1 (gfl h2 h1 (g0 h0))))))))))
end
section
variable(h0:(i:Int)<(dc.length:Int))(h1:dc[i]? = some [Aa,(4:Int),Ac,Ad,Ae,Af])(h2:uni 6 dc)(h3:aDd dl sk dc ov [Aa,(4:Int),Ac,Ad,Ae,Af] s0 Bs t T107)(h4:Bs=true)
include h0 h1 h2 h3 h4
theorem bKs(h5:out=true)(h6:aDf dl sk dc ov [Aa,(4:Int),Ac,Ad,Ae,Af] Bu T107 T109)(h7:inR (tot+Bu))(h8:gk i)(Da:Eg=(tot+Bu))(Ai:i'=(i+1))(Bh:aQ t'=(aQ T109))(Bi:t'.length=T109.length):aC Tp 7 lG (dU dl sk dc ov s0 s1 out tot i (aQ t) t.length) .normal (dU dl sk dc ov s0 s1 true Eg i' (aQ t') t'.length):=by
 subst Da Ai;have k1:=mq fa 10 h3;have k2:=fk 10 qA rfl;have k3:=mq fa 18 h6;rw [Bh,Bi];exact aC.fi (gN dy [7,8] [(8,0)]) ([bT,.x (dcE Aa 4 Ac Ad Ae Af),k1.o]++rT 5++[k2.o,k3.o,.c (pI (tot+Bu)) []]) (gc h8 (gc (fk 26 (aNk tot Bu h7) rfl) (gc k3 (gc bTa (gc k2 (Au h5 (gc h4 (gc k1 (gfl h2 h1 (g0 h0))))))))))
theorem bKt(h5:out=false)(h6:aDf dl sk dc ov [Aa,(4:Int),Ac,Ad,Ae,Af] Bu T107 T109)(h7:inR (tot+Bu))(h8:gk i)(Ez:Gn=((4:Int) == 3))(Da:Eg=(tot+Bu))(Ai:i'=(i+1))(Bh:aQ t'=(aQ T109))(Bi:t'.length=T109.length):aC Tp 7 lG (dU dl sk dc ov s0 s1 out tot i (aQ t) t.length) .normal (dU dl sk dc ov s0 s1 Gn Eg i' (aQ t') t'.length):=by
 subst Ez Da Ai;have k1:=mq fa 10 h3;have k2:=fk 10 qA rfl;have k3:=mq fa 18 h6;rw [Bh,Bi];exact aC.fi (gI dy [7,8]) [bT,.x (dcE Aa 4 Ac Ad Ae Af),k1.o,bT,bF,bF,bF,bF,k2.o,k3.o,.c (pI (tot+Bu)) []] (gc h8 (gc (fk 26 (aNk tot Bu h7) rfl) (gc k3 (gc bTa (gc k2 (Au h5 (gc h4 (gc k1 (gfl h2 h1 (g0 h0))))))))))
end
theorem aXn(h0:(i:Int)<(dc.length:Int))(h1:dc[i]? = some [Aa,Ab,Ac,Ad,Ae,Af])(h2:uni 6 dc)(h3:aDd dl sk dc ov [Aa,Ab,Ac,Ad,Ae,Af] s0 Bs t T107)(h4:Bs=false)(h5:gk i)(Ai:i'=(i+1))(Bh:aQ t'=(aQ T107))(Bi:t'.length=T107.length):aC Tp 7 lG (dU dl sk dc ov s0 s1 out tot i (aQ t) t.length) .normal (dU dl sk dc ov s0 s1 out tot i' (aQ t') t'.length):=by
 subst Ai;have k1:=mq fa 10 h3;rw [Bh,Bi];exact aC.fi (gI dy [7,8]) [bT,.x (dcE Aa Ab Ac Ad Ae Af),k1.o,bF] (gc h5 (gc h4 (gc k1 (gfl h2 h1 (g0 h0)))))
theorem aXo(h0:(dc.length:Int)≤(i:Int)):aC Tp 7 lG (dU dl sk dc ov s0 s1 out tot i (aQ t) t.length) (.exit 0) (dU dl sk dc ov s0 s1 out tot i (aQ t) t.length):=aC.fi (gI dy [7,8]) [bF] (gc (aK h0) gn)
def lH(dl:Int)(sk dc:Lqq)(on:Nat)(oc:List PV)(i:Nat)(te:List (Value × PV))(tk:Nat):St:=⟨fr 48 [(2,(.p cC)),(3,(.ptr 7 0)),(4,(.own 8)),(15,(.p (fS dc))),(16,(pI (dc.length:Int))),(17,(pI (i:Int)))],[some (Gp dl sk dc),some (.box 33 [(.p cC)]),some Hi,some (.mp te tk),some (.box 207 [(.mp 3)]),some (Gq dl sk dc),some It,some Hi,some (.row 3 on oc)]⟩
theorem cJg{B9:List Int}{Vl:Lqb}(hl0:aD Tp 0 aAv (lH dl sk dc 0 [] 0 (aQ ([]:Lqb)) 0) (.exit 0) (lH dl sk dc B9.length (B9.map aB) E0 (aQ Vl) Vl.length)):FV Tp 83 [(.rp (aZ dl sk dc) 0)] base (.own base) [(base,(.row 3 B9.length (B9.map aB)))]:=have k1:=mN [] 0 (aNr (dl:=dl) (sk:=sk) (dc:=dc));FV.fi func83 [k1.o,.x (fS dc),hl0.k 1 (gN eb dq [(4,3)])] (gc hl0.code (gr (fS dc) (gc k1 gn)))
section
variable(h0:(i:Int)<(dc.length:Int))(h1:dc[i]? = some [Aa,Ab,Ac,Ad,Ae,Af])(h2:uni 6 dc)(h3:aRv dl sk dc cC [Aa,Ab,Ac,Ad,Ae,Af] [La,Lb,Ld,Lf,Lg,Lh] Jf t T113)
include h0 h1 h2 h3
theorem bKu{o':List Int}(h4:(fA Ab)=true)(h5:uN dl sk dc cC [Aa,Ab,Ac,Ad,Ae,Af] Jg T113 T115)(h6:Jg=true)(h7:Jf=false)(h8:[(aB Aa)].length=1*1∧o.length+1≤1000000)(h9:gk i)(Bq:o'.length=(o.length+1))(Br:o'.map aB=((o.map aB)++[(aB Aa)]))(Ai:i'=(i+1))(Bh:aQ t'=(aQ T115))(Bi:t'.length=T115.length):aC Tp 0 aAv (lH dl sk dc o.length (o.map aB) i (aQ t) t.length) .normal (lH dl sk dc o'.length (o'.map aB) i' (aQ t') t'.length):=by
 subst Ai;have k1:=mq fa 10 h3;have k2:=fk 11 (aAy Ab) rfl;have k3:=mq fa 11 h5;rw [Bq,Br,Bh,Bi];exact aC.fi (gI eb [0,1,2,3,4,5,6,7,12]) ([bT,.x (dcE Aa Ab Ac Ad Ae Af),k1.o,k2.o,bT,bT,bT,bT,k3.o]++rT 5) (gc h9 (gc h8 (gc (bN h7) (Ak h6 (gc h4 (gc k3 (Au h4 (gc k2 (gc k1 (gfl h2 h1 (g0 h0)))))))))))
theorem bKv(h4:(fA Ab)=true)(h5:uN dl sk dc cC [Aa,Ab,Ac,Ad,Ae,Af] Jg T113 T115)(h6:Jg=true)(h7:Jf=true)(h8:gk i)(Ai:i'=(i+1))(Bh:aQ t'=(aQ T115))(Bi:t'.length=T115.length):aC Tp 0 aAv (lH dl sk dc o.length (o.map aB) i (aQ t) t.length) .normal (lH dl sk dc o.length (o.map aB) i' (aQ t') t'.length):=by
 subst Ai;have k1:=mq fa 10 h3;have k2:=fk 11 (aAy Ab) rfl;have k3:=mq fa 11 h5;rw [Bh,Bi];exact aC.fi (gI eb dq) [bT,.x (dcE Aa Ab Ac Ad Ae Af),k1.o,k2.o,bT,bT,bT,bT,k3.o,bT,bT,bT,bT,bF] (gc h8 (gc (aR h7) (Ak h6 (gc h4 (gc k3 (Au h4 (gc k2 (gc k1 (gfl h2 h1 (g0 h0))))))))))
theorem bKw(h4:(fA Ab)=true)(h5:uN dl sk dc cC [Aa,Ab,Ac,Ad,Ae,Af] Jg T113 T115)(h6:Jg=false)(h7:gk i)(Ai:i'=(i+1))(Bh:aQ t'=(aQ T115))(Bi:t'.length=T115.length):aC Tp 0 aAv (lH dl sk dc o.length (o.map aB) i (aQ t) t.length) .normal (lH dl sk dc o.length (o.map aB) i' (aQ t') t'.length):=by
 subst Ai;have k1:=mq fa 10 h3;have k2:=fk 11 (aAy Ab) rfl;have k3:=mq fa 11 h5;rw [Bh,Bi];exact aC.fi (gI eb dq) [bT,.x (dcE Aa Ab Ac Ad Ae Af),k1.o,k2.o,bT,bT,bT,bT,k3.o,bT,bF,bF,bF] (gc h7 (Ak h6 (gc h4 (gc k3 (Au h4 (gc k2 (gc k1 (gfl h2 h1 (g0 h0)))))))))
theorem bKx(h4:(fA Ab)=false)(h5:gk i)(Ai:i'=(i+1))(Bh:aQ t'=(aQ T113))(Bi:t'.length=T113.length):aC Tp 0 aAv (lH dl sk dc o.length (o.map aB) i (aQ t) t.length) .normal (lH dl sk dc o.length (o.map aB) i' (aQ t') t'.length):=by
 subst Ai;have k1:=mq fa 10 h3;have k2:=fk 11 (aAy Ab) rfl;rw [Bh,Bi];exact aC.fi (gI eb dq) ([bT,.x (dcE Aa Ab Ac Ad Ae Af),k1.o,k2.o]++rF 5) (gc h5 (B0 h4 (gc k2 (gc k1 (gfl h2 h1 (g0 h0))))))
end
theorem bKy(h0:(dc.length:Int)≤(i:Int)):aC Tp 0 aAv (lH dl sk dc o.length (o.map aB) i (aQ t) t.length) (.exit 0) (lH dl sk dc o.length (o.map aB) i (aQ t) t.length):=aC.fi (gI eb dq) [bF] (gc (aK h0) gn)
end
section
def aDc(dl:Int)(oc:List Int)(dc:Lqq)(bib:Int)(x:List Int):Bool:=decide (dK x≤4) && (dB x == bib && (dP dl oc dc x && (!(dK x == 4) || uH dl oc dc x)))
def byI(k t m:Int):Int:=if k=1 then t-m else if k=2 then t+1200*m else if k=3 then t else t+m
def oS(dl:Int)(oc:List Int)(dc:Lqq)(bib:Int)(acc:Bool × Int)(x:List Int):Bool × Int:=if aDc dl oc dc bib x then (acc.1 || dK x == 3,byI (dK x) acc.2 (jV dl oc dc x)) else acc
def aAu(dl:Int)(oc:List Int)(dc:Lqq)(bib time:Int):Bool × Int:=dc.foldl (oS dl oc dc bib) (time == -1,time)
def cA(dl:Int)(oc:List Int)(dc:Lqq)(bib time:Int):Int × Bool:=if (aAu dl oc dc bib time).1 then (0,true) else (max 0 (aAu dl oc dc bib time).2,false)
def kM(dl:Int)(dc:Lqq)(x:List Int):Bool:=fA (dK x) && (dP dl [] dc x && (wE dl [] dc x).isNone)
def aJ(dl:Int)(dc:Lqq):List Int:=(dc.filter (kM dl dc)).map dN
section
variable {dl:Int} {sk dc:Lqq} {oc:List Int} {ov:PV}
theorem bZd(hd:bP dc)(hov:∀ n,wF ov n (oc.contains n)){x:List Int}(hx:x∈dc){T:Lqb}(hT:cU dl oc dc T):∃ T' z0 z1 z2 z3 z4 z5,cU dl oc dc T'∧(wE dl oc dc x).getD I5=[z0,z1,z2,z3,z4,z5]∧aRv dl sk dc ov x [z0,z1,z2,z3,z4,z5] (wE dl oc dc x).isSome T T':=by
 obtain ⟨T',h1,h2⟩:=cOj (sk:=sk) hd hov hx T hT;cases hr:wE dl oc dc x with
 | none =>
  rw [hr] at h2
  exact ⟨T',0,0,0,0,0,0,h1,rfl,h2⟩
 | some z =>
  have hz:z.length=6:=by
   rw [aGn hd hx] at hr
   exact jC hd _ z (rD hr)
  obtain ⟨a,b,c,d,e,f,rfl⟩:=A7 hz;rw [hr] at h2
  exact ⟨T',a,b,c,d,e,f,h1,rfl,h2⟩
theorem aRu(hd:bP dc):∀ (n:Nat) (x:List Int),x∈dc→10000-dN x≤(n:Int)→0≤jV dl oc dc x∧jV dl oc dc x≤36000
 | 0,x,hx,h=>by have:=eT hd hx;omega
 | n+1,x,hx,h=>by
  rw [bBs hd hx];cases hr:aNi dl oc dc x with
  | none =>
   have h4:=(iH.1 (hd.rng x hx)).2.2.2;have:nJ (x.getD 1 0)≤36000:=by unfold nJ;split <;> omega
   show 0≤x.getD 4 0∧x.getD 4 0≤36000;omega
  | some z =>
   have hz:z∈cF dc (dN x):=by
    rw [aGo hd hx] at hr
    exact rD hr
   obtain ⟨a1,a2⟩:=uL hd hx hz;exact aRu hd n z a1 (by omega)
theorem aNj(hd:bP dc){x:List Int}(hx:x∈dc):0≤jV dl oc dc x∧jV dl oc dc x≤36000:=aRu hd 10000 x hx (by have:=eT hd hx;omega)
theorem cOi(hd:bP dc)(hov:∀ n,wF ov n (oc.contains n))(bib:Int){x:List Int}(hx:x∈dc){T:Lqb}(hT:cU dl oc dc T):∃ T',cU dl oc dc T'∧aDd dl sk dc ov x bib (aDc dl oc dc bib x) T T':=by
 obtain ⟨T1,h1,c1⟩:=bTh (sk:=sk) hd hov hx T hT;obtain ⟨T2,h2,c2⟩:=cOl (sk:=sk) hd hov hx T1 h1;obtain ⟨a,k,c,d,e,f,rfl⟩:=A7 (hd.ud x hx);unfold aDc
 by_cases hk:k≤4
 ·have Ih:decide (k≤4)=true:=decide_eq_true hk
  rw [show decide (dK [a,k,c,d,e,f]≤4)=true from Ih,gS]
  by_cases hb:d=bib
  ·rw [show (dB [a,k,c,d,e,f] == bib)=true by simpa using hb,gS]
   cases hc:dP dl oc dc [a,k,c,d,e,f] with
   | false =>
    rw [hc] at c1
    exact ⟨T1,h1,cIw Ih hb c1 rfl⟩
   | true =>
    rw [hc] at c1
    rw [gS]
    by_cases h4:k=4
    ·rw [show (dK [a,k,c,d,e,f] == 4)=true by simpa using h4,Bool.not_true,Bool.false_or]
     exact ⟨T2,h2,cIv Ih hb c1 rfl h4 c2⟩
    ·rw [show (dK [a,k,c,d,e,f] == 4)=false by simpa using h4,Bool.not_false,Bool.true_or]
     exact ⟨T1,h1,cIu Ih hb c1 rfl h4⟩
  ·rw [show (dB [a,k,c,d,e,f] == bib)=false by simpa using hb,Bool.false_and]
   exact ⟨T,hT,cIx Ih hb⟩
 ·have Ih:decide (k≤4)=false:=decide_eq_false hk
  rw [show decide (dK [a,k,c,d,e,f]≤4)=false from Ih,Bool.false_and]
  exact ⟨T,hT,cIy Ih⟩
theorem bSv(hd:bP dc)(hov:∀ n,wF ov n (oc.contains n))(s0 s1:Int)(hs : -1≤s1∧s1≤360000){T:Lqb}(hT:cU dl oc dc T):∃ T',cU dl oc dc T'∧aIi dl sk dc ov [s0,s1] (cA dl oc dc s0 s1).1 (cA dl oc dc s0 s1).2 T T':=by
 have hlen:=hd.len;obtain ⟨acc,⟨h1,h2,_⟩,h3⟩:=aD.ex (P:=Tp) (k:=7) (b:=sub (cd Tryz.f134) fy) (e := .exit 0) (fun i (a:(Bool × Int) × Lqb)=>dU dl sk dc ov s0 s1 a.1.1 a.1.2 i (aQ a.2) a.2.length)
  (fun a=>dU dl sk dc ov s0 s1 a.1.1 a.1.2 dc.length (aQ a.2) a.2.length)
  (fun i a=>cU dl oc dc a.2∧a.1=(dc.take i).foldl (oS dl oc dc s0) (s1 == -1,s1) ∧ -1-36000*(i:Int)≤a.1.2∧a.1.2≤360000+43200000*(i:Int)) (by simp) dc.length
  (fun i acc hi hI=>by
   obtain ⟨⟨out,tot⟩,T1⟩:=acc;obtain ⟨h1,h2,h3,h4⟩:=hI;dsimp only at h1 h2 h3 h4
   have hm:=fP hi;obtain ⟨a,k,c,d,e,f,hy⟩:=A7 (hd.ud _ hm);have hx:dc[i]? = some [a,k,c,d,e,f]:=by rw [Ay hi,hy]
   rw [hy] at hm
   have et:(dc.take (i+1)).foldl (oS dl oc dc s0) (s1 == -1,s1)=oS dl oc dc s0 (out,tot) [a,k,c,d,e,f]:=by
    rw [List.take_add_one,hx,aDa,← h2];rfl
   obtain ⟨T2,q1,q2⟩:=cOi (sk:=sk) hd hov s0 hm h1;rw [et];unfold oS;cases hh:aDc dl oc dc s0 [a,k,c,d,e,f] with
   | false =>
    rw [hh] at q2
    exact ⟨((out,tot),T2),⟨q1,by simp,by dsimp only;omega,by dsimp only;omega⟩,aXn (by omega) hx hd.ud q2 rfl (aI (by omega)) rfl rfl rfl⟩
   | true =>
    rw [hh] at q2
    rw [if_pos rfl];obtain ⟨T3,q3,q4⟩:=cOm (sk:=sk) hd hov hm T2 q1;have hb:=aNj (dl:=dl) (oc:=oc) hd hm;revert q4 hb;generalize jV dl oc dc [a,k,c,d,e,f]=m;intro q4 hb;have hk:0≤k∧k≤4:=by
     have h5:=(iH.1 (hd.rng _ hm)).2.1;unfold aDc at hh
     rw [Ce] at hh
     exact ⟨h5.1,of_decide_eq_true hh.1⟩
    have Xg:k=0∨k=1∨k=2∨k=3∨k=4:=by omega
    clear hh
    rcases Xg with rfl | rfl | rfl | rfl | rfl
    ·have hI:∀ q:Bool,-1-36000*((i+1:Nat):Int)≤tot+m∧tot+m≤360000+43200000*((i+1:Nat):Int):=fun _=>by omega
     cases out with
     | true=>exact ⟨((true,tot+m),T3),⟨q3,rfl,(hI true).1,(hI true).2⟩,bKk (by omega) hx hd.ud q2 rfl rfl q4 (by show inR (tot+m);unfold inR;omega) (aI (by omega)) rfl rfl rfl rfl⟩
     | false=>exact ⟨((false,tot+m),T3),⟨q3,rfl,(hI true).1,(hI true).2⟩,bKl (by omega) hx hd.ud q2 rfl rfl q4 (by show inR (tot+m);unfold inR;omega) (aI (by omega)) rfl rfl rfl rfl rfl⟩
    ·have hI:∀ q:Bool,-1-36000*((i+1:Nat):Int)≤tot-m∧tot-m≤360000+43200000*((i+1:Nat):Int):=fun _=>by omega
     cases out with
     | true=>exact ⟨((true,tot-m),T3),⟨q3,rfl,(hI true).1,(hI true).2⟩,bKm (by omega) hx hd.ud q2 rfl rfl q4 (by show inR (tot-m);unfold inR;omega) (aI (by omega)) rfl rfl rfl rfl⟩
     | false=>exact ⟨((false,tot-m),T3),⟨q3,rfl,(hI true).1,(hI true).2⟩,bKn (by omega) hx hd.ud q2 rfl rfl q4 (by show inR (tot-m);unfold inR;omega) (aI (by omega)) rfl rfl rfl rfl rfl⟩
    ·have hI:∀ q:Bool,-1-36000*((i+1:Nat):Int)≤tot+1200*m∧tot+1200*m≤360000+43200000*((i+1:Nat):Int):=fun _=>by omega
     cases out with
     | true=>exact ⟨((true,tot+1200*m),T3),⟨q3,rfl,(hI true).1,(hI true).2⟩,bKo (by omega) hx hd.ud q2 rfl rfl q4 ⟨by show inR (1200*m);unfold inR;omega,by show inR (tot+1200*m);unfold inR;omega⟩ (aI (by omega)) rfl rfl rfl rfl⟩
     | false=>exact ⟨((false,tot+1200*m),T3),⟨q3,rfl,(hI true).1,(hI true).2⟩,bKp (by omega) hx hd.ud q2 rfl rfl q4 ⟨by show inR (1200*m);unfold inR;omega,by show inR (tot+1200*m);unfold inR;omega⟩ (aI (by omega)) rfl rfl rfl rfl rfl⟩
    ·have hI:∀ q:Bool,-1-36000*((i+1:Nat):Int)≤tot∧tot≤360000+43200000*((i+1:Nat):Int):=fun _=>by omega
     cases out with
     | true=>exact ⟨((true,tot),T3),⟨q3,rfl,(hI true).1,(hI true).2⟩,bKq (by omega) hx hd.ud q2 rfl rfl q4 (aI (by omega)) rfl rfl rfl⟩
     | false=>exact ⟨((true,tot),T3),⟨q3,rfl,(hI true).1,(hI true).2⟩,bKr (by omega) hx hd.ud q2 rfl rfl q4 (aI (by omega)) rfl rfl rfl rfl⟩
    ·have hI:∀ q:Bool,-1-36000*((i+1:Nat):Int)≤tot+m∧tot+m≤360000+43200000*((i+1:Nat):Int):=fun _=>by omega
     cases out with
     | true=>exact ⟨((true,tot+m),T3),⟨q3,rfl,(hI true).1,(hI true).2⟩,bKs (by omega) hx hd.ud q2 rfl rfl q4 (by show inR (tot+m);unfold inR;omega) (aI (by omega)) rfl rfl rfl rfl⟩
     | false=>exact ⟨((false,tot+m),T3),⟨q3,rfl,(hI true).1,(hI true).2⟩,bKt (by omega) hx hd.ud q2 rfl rfl q4 (by show inR (tot+m);unfold inR;omega) (aI (by omega)) rfl rfl rfl rfl rfl⟩)
  (fun acc hI=>aXo (by omega)) (acc:=((s1 == -1,s1),T)) ⟨hT,by simp,by dsimp only;omega,by dsimp only;omega⟩
 obtain ⟨⟨out,tot⟩,T1⟩:=acc;dsimp only at h1 h2 h3
 rw [List.take_length] at h2
 have e:aAu dl oc dc s0 s1=(out,tot):=h2.symm;unfold cA;rw [e];cases out with
 | true=>exact ⟨T1,h1,cJe h3 rfl⟩
 | false=>exact ⟨T1,h1,cJf h3 rfl (by simp) (by simp [aDe];omega)⟩
theorem pZ(hd:bP dc){base:Nat}:FV Tp 83 [uM dl sk dc] base (.own base) [(base,.row 3 (aJ dl dc).length ((aJ dl dc).map aB))]:=by
 have hlen:=hd.len;have hov:=aNo;obtain ⟨acc,⟨h1,h2⟩,h3⟩:=aD.ex (P:=Tp) (k:=0) (b:=sub (cd Tryz.f83) ey) (e := .exit 0) (fun i (a:List Int × Lqb)=>lH dl sk dc a.1.length (a.1.map aB) i (aQ a.2) a.2.length)
  (fun a=>lH dl sk dc a.1.length (a.1.map aB) dc.length (aQ a.2) a.2.length)
  (fun i a=>cU dl [] dc a.2∧a.1=((dc.take i).filter (kM dl dc)).map dN) (by simp) dc.length
  (fun i acc hi hI=>by
   obtain ⟨o,T1⟩:=acc;obtain ⟨h1,h2⟩:=hI;dsimp only at h1 h2
   have hm:=fP hi;obtain ⟨a,k,c,d,e,f,hy⟩:=A7 (hd.ud _ hm);have hx:dc[i]? = some [a,k,c,d,e,f]:=by rw [Ay hi,hy]
   rw [hy] at hm
   have ho:o.length≤1000:=by
    rw [h2,Co];have:=rZ (kM dl dc) (dc.take i);rw [oD] at this;omega
   have et:((dc.take (i+1)).filter (kM dl dc)).map dN=o++if kM dl dc [a,k,c,d,e,f] then [a] else []:=by
    rw [List.take_add_one,hx,oO,iA,← h2]
    congr 1
    show (List.filter (kM dl dc) [[a,k,c,d,e,f]]).map dN=_;cases hq:kM dl dc [a,k,c,d,e,f] <;> simp [hq]
   rw [et];obtain ⟨T2,z0,z1,z2,z3,z4,z5,q1,_,q2⟩:=bZd (sk:=sk) hd hov hm h1;obtain ⟨T3,q3,q4⟩:=bTh (sk:=sk) hd hov hm T2 q1;cases ha:fA k with
   | false =>
    have hb:kM dl dc [a,k,c,d,e,f]=false:=by unfold kM;rw [show fA (dK [a,k,c,d,e,f])=false from ha,Bool.false_and]
    rw [hb];exact ⟨(o,T2),⟨q1,by simp⟩,bKx (by omega) hx hd.ud q2 ha (aI (by omega)) rfl rfl rfl⟩
   | true =>
    have hb:kM dl dc [a,k,c,d,e,f]=(dP dl [] dc [a,k,c,d,e,f] && (wE dl [] dc [a,k,c,d,e,f]).isNone):=by unfold kM;rw [show fA (dK [a,k,c,d,e,f])=true from ha,gS]
    rw [hb];cases hc:dP dl [] dc [a,k,c,d,e,f] with
    | false =>
     rw [hc] at q4
     exact ⟨(o,T3),⟨q3,by simp⟩,bKw (by omega) hx hd.ud q2 ha q4 rfl (aI (by omega)) rfl rfl rfl⟩
    | true =>
     rw [hc] at q4
     cases hr:wE dl [] dc [a,k,c,d,e,f] with
     | some z =>
      rw [hr] at q2
      exact ⟨(o,T3),⟨q3,by simp⟩,bKv (by omega) hx hd.ud q2 ha q4 rfl rfl (aI (by omega)) rfl rfl rfl⟩
     | none =>
      rw [hr] at q2
      exact ⟨(o++[a],T3),⟨q3,by simp⟩,bKu (o:=o) (o':=o++[a]) (by omega) hx hd.ud q2 ha q4 rfl rfl ⟨rfl,by omega⟩ (aI (by omega)) (by simp) (by simp) rfl rfl rfl⟩)
  (fun acc hI=>bKy (by omega)) (acc:=([],[])) ⟨cU.nil,by simp⟩
 obtain ⟨o,T1⟩:=acc;dsimp only at h1 h2 h3
 rw [List.take_length] at h2
 rw [show aJ dl dc=o from h2.symm]
 exact cJg h3
end
end
section
variable {u0 u1 u2 u3 u4 u5 x0 x1 x2 x3 x4 x5 bib u0'0 u1'1 u2'2 u3'3 u4'4 u5'5:Int}{base:Nat}
variable {dl:Int}{sk dc:Lqq}

noncomputable abbrev aGp:Code:=sub (cd Tryz.f128) [1,0,0,0]
theorem aXl:((0:Int) != 0)=false:=by first | decide | simp
section
variable(h0:bO dl sk dc)(h1:uni 2 (aA sk)∧(aA sk).length≤1000)(h2:(aP (aA sk) 0).length≤1000)
include h0 h1 h2
theorem cIo(h3:(bJ (fun x=>decide (bib=x)) (aP (aA sk) 0))<0):FV Tp 135 [(.p (.agg (bC dl sk dc))),(pI bib)] base (.tup [(.p (.v (.pointer none))),(.p (.agg [(aB 0),(aB 0)])),(pI 1)]) []:=have k1:=fk 2 (jD dl sk dc h0) rfl;have k2:=fk 2 (oH dl (aA sk) (aA dc) h1) rfl;FV.fi func135 [k1.o,bF,.x (.agg (bC dl (aA sk) (aA dc))),k2.o,.c (pI (bJ (fun x=>decide (bib=x)) (aP (aA sk) 0))) [],bT] (gc (bI h3) (gt (FC Tp 126 [(.own 2),(pI bib)] [(2,(.row 3 ((aP (aA sk) 0).length) ((aP (aA sk) 0).map aB)))] 3 (pI (bJ (fun x=>decide (bib=x)) (aP (aA sk) 0))) []) (fv (aAq (aP (aA sk) 0) bib h2)) (gc k2 (gr (.agg (bC dl (aA sk) (aA dc))) (gt (0+3≤(aZ dl (aA sk) (aA dc)).length) (by first | decide | simp) (gc aXl (gc k1 gn)))))))
theorem cIp{y0 y1:Int}(h3:(0:Int)≤(bJ (fun x=>decide (bib=x)) (aP (aA sk) 0)))(h4:(aA sk)[(bJ (fun x=>decide (bib=x)) (aP (aA sk) 0)).toNat]? = some [y0,y1])(h5:0≤(bJ (fun x=>decide (bib=x)) (aP (aA sk) 0)))(h6:uni 2 (aA sk)):FV Tp 135 [(.p (.agg (bC dl sk dc))),(pI bib)] base (.tup [(.rp (aZ dl (aA sk) (aA dc)) 0),(.p (.agg [(aB y0),(aB y1)])),(pI 0)]) []:=have k1:=fk 2 (jD dl sk dc h0) rfl;have k2:=fk 2 (oH dl (aA sk) (aA dc) h1) rfl;FV.fi func135 [k1.o,bF,.x (.agg (bC dl (aA sk) (aA dc))),k2.o,.c (pI (bJ (fun x=>decide (bib=x)) (aP (aA sk) 0))) [],bF,.x (.sl ((aA sk).length) ((aA sk).flatten.map aB)),.x (.agg [(aB y0),(aB y1)])] (gfz h6 h5 h4 (gr (.sl ((aA sk).length) ((aA sk).flatten.map aB)) (gc (aK h3) (gt (FC Tp 126 [(.own 2),(pI bib)] [(2,(.row 3 ((aP (aA sk) 0).length) ((aP (aA sk) 0).map aB)))] 3 (pI (bJ (fun x=>decide (bib=x)) (aP (aA sk) 0))) []) (fv (aAq (aP (aA sk) 0) bib h2)) (gc k2 (gr (.agg (bC dl (aA sk) (aA dc))) (gt (0+3≤(aZ dl (aA sk) (aA dc)).length) (by first | decide | simp) (gc aXl (gc k1 gn)))))))))
end
theorem cIq{r0:Int}(h0:uni 2 sk)(h1:uni 6 dc)(h2:(cY dl sk dc)≠0)(A6:r0=(cY dl sk dc)):FV Tp 135 [(.p (.agg (bC dl sk dc))),(pI bib)] base (.tup [(.p (.v (.pointer none))),(.p (.agg [(aB 0),(aB 0)])),(pI r0)]) []:=by
 subst A6;have k1:=fk 2 (aGr dl sk dc h0 h1 h2) rfl;exact FV.fi func135 [k1.o,bT] (gc (fH h2) (gc k1 gn))
theorem cIr(h0:bO dl sk dc)(h1:bP (aA dc)):FV Tp 19 [(.p (.agg (bC dl sk dc)))] base (.tup [(.p (aF (aJ dl (aA dc)))),(pI 0)]) []:=have k1:=fk 1 (jD dl sk dc h0) rfl;have k2:=fk 1 (pZ (dl:=dl) (sk:=(aA sk)) (dc:=(aA dc)) h1) rfl;FV.frz (FMM.fi 0 ⟨[],[],[1],[]⟩ func19 [k1.o,bF,k2.o] (gc k2 (gc aXl (gc k1 gn)))) (by kernel_rfl)
def lF(dl:Int)(sk dc:Lqq)(u0 u1 u2 u3 u4 u5:Int):St:=⟨fr 26 [(0,(.rp (aZ dl sk dc) 0)),(3,(.ptr 0 0))],[some (.box 44 [(pI u0),(pI u1),(pI u2),(pI u3),(pI u4),(pI u5)])]⟩
theorem cIs(hl0:aD Tp 0 aGp (lF dl sk dc x0 x1 x2 x3 x4 x5) (.exit 0) (lF dl sk dc u0'0 u1'1 u2'2 u3'3 u4'4 u5'5)):FV Tp 128 [(.rp (aZ dl sk dc) 0),(.p (dcE x0 x1 x2 x3 x4 x5))] base (pI u3'3) []:=FV.fi func128 [hl0.k 4 (gI [1,2,4,20] [0])] (gc hl0.code gn)
theorem cIt(hl0:aD Tp 0 aGp (lF dl sk dc x0 x1 x2 x3 x4 x5) .ret (bQ (lF dl sk dc u0'0 u1'1 u2'2 u3'3 u4'4 u5'5) [(4,(pI 0))])):FV Tp 128 [(.rp (aZ dl sk dc) 0),(.p (dcE x0 x1 x2 x3 x4 x5))] base (pI 0) []:=FV.fi func128 [hl0.k 4 (gI [1,2,4,20] [0])] (gc hl0.code gn)
section
variable(h0:(decide (u1≤4))=false)(h1:cR .i64 (atF dc.reverse) (.int .i64 u5))
include h0 h1
theorem bKh{Aa Ab Ac Ad Ae Af:Int}(h2:(eA (atF dc.reverse) (.int .i64 u5))=true)(h3:gG (atF dc.reverse) (.int .i64 u5)=some (dcE Aa Ab Ac Ad Ae Af)):aC Tp 0 aGp (lF dl sk dc u0 u1 u2 u3 u4 u5) .normal (lF dl sk dc Aa Ab Ac Ad Ae Af):=have k1:=fk 1 (eR u1) rfl;aC.fi (gI [1,2,4,20] [0]) [k1.o,bT,.x (.mp (atF dc.reverse)),bT,.x (dcE Aa Ab Ac Ad Ae Af)] (gc h3 (gc h2 (gc h1 (gr (.mp (atF dc.reverse)) (gc (bN h0) (gc k1 gn))))))
theorem aKv(h2:(eA (atF dc.reverse) (.int .i64 u5))=false):aC Tp 0 aGp (lF dl sk dc u0 u1 u2 u3 u4 u5) .ret (bQ (lF dl sk dc u0 u1 u2 u3 u4 u5) [(4,(pI 0))]):=have k1:=fk 1 (eR u1) rfl;aC.fi (gI [1,2,5,19] [0]) [k1.o,bT,.x (.mp (atF dc.reverse)),bF] (gc h2 (gc h1 (gr (.mp (atF dc.reverse)) (gc (bN h0) (gc k1 gn)))))
end
theorem aKw(h0:(decide (u1≤4))=true):aC Tp 0 aGp (lF dl sk dc u0 u1 u2 u3 u4 u5) (.exit 0) (lF dl sk dc u0 u1 u2 u3 u4 u5):=have k1:=fk 1 (eR u1) rfl;aC.fi (gI [1,2,4,20] [0]) [k1.o,bF] (gc (aR h0) (gc k1 gn))
end
section
def oI(sk:Lqq)(bib:Int):Int:=bJ (fun x=>decide (bib=x)) (aP sk 0)
theorem cIl{f:Lqq}{i:Nat}{c:Int}(h:(aP f 0)[i]? = some c):∃ x,f[i]? = some x∧x.getD 0 0=c:=by
 unfold aP at h
 rw [fV,lM] at h
 exact h
theorem aKu(sk:Lqq)(bib:Int):(∃ (i:Nat) (x:List Int),oI sk bib=(i:Int)∧sk[i]? = some x∧x.getD 0 0=bib)∨(oI sk bib = -1∧bib∉aP sk 0):=by
 unfold oI;cases h:(aP sk 0).findIdx? (fun x=>decide (bib=x)) with
 | none =>
  refine .inr ⟨gC h,fun hm => ?_⟩
  have:=List.findIdx?_eq_none_iff.1 h bib hm;simp at this
 | some i =>
  rw [eF h];obtain ⟨h1,h2,_⟩:=List.findIdx?_eq_some_iff_getElem.1 h;have h3:(aP sk 0)[i]? = some (aP sk 0)[i]:=Ay h1;obtain ⟨x,q1,q2⟩:=cIl h3;exact .inl ⟨i,x,rfl,q1,by rw [q2];exact (of_decide_eq_true h2).symm⟩
theorem bSr{dl:Int}{sk dc:Lqq}(h:bO dl sk dc):uni 2 (aA sk)∧(aA sk).length≤1000∧(aP (aA sk) 0).length≤1000:=by
 have:=h.len;refine ⟨nX h.us,by rw [dC];omega,by rw [mI,dC];omega⟩
theorem bSs{dl:Int}{sk dc:Lqq}(h:bO dl sk dc){bib:Int}{i:Nat}{s0 s1:Int}(hp:oI (aA sk) bib=(i:Int))(hs:(aA sk)[i]? = some [s0,s1]){base:Nat}:FV Tp 135 [.p (.agg (bC dl sk dc)),.p (aB bib)] base (.tup [uM dl (aA sk) (aA dc),.p (.agg [aB s0,aB s1]),.p (aB 0)]) []:=by
 obtain ⟨h1,h2,h3⟩:=bSr h;have I1:bJ (fun x=>decide (bib=x)) (aP (aA sk) 0)=(i:Int):=hp
 exact cIp h ⟨h1,h2⟩ h3 (by rw [I1];omega) (by rw [I1];simpa using hs) (by rw [I1];omega) h1
theorem cIm{dl:Int}{sk dc:Lqq}(h:bO dl sk dc){bib:Int}(hp:oI (aA sk) bib = -1){base:Nat}:FV Tp 135 [.p (.agg (bC dl sk dc)),.p (aB bib)] base (.tup [.p (.v (.pointer none)),.p (.agg [aB 0,aB 0]),.p (aB 1)]) []:=by
 obtain ⟨h1,h2,h3⟩:=bSr h;have I1:bJ (fun x=>decide (bib=x)) (aP (aA sk) 0) = -1:=hp
 exact cIo h ⟨h1,h2⟩ h3 (by rw [I1];omega)
theorem bZc{dl:Int}{sk dc:Lqq}(us:uni 2 sk)(ud:uni 6 dc)(h:cY dl sk dc≠0){bib:Int}{base:Nat}:FV Tp 135 [.p (.agg (bC dl sk dc)),.p (aB bib)] base (.tup [.p (.v (.pointer none)),.p (.agg [aB 0,aB 0]),.p (aB (cY dl sk dc))]) []:=cIq us ud h rfl
theorem bSt{dl:Int}{sk dc:Lqq}(h:bO dl sk dc){base:Nat}:FV Tp 19 [.p (.agg (bC dl sk dc))] base (.tup [.p (aF (aJ dl (aA dc))),.p (aB 0)]) []:=cIr h (dA h)
theorem bBt{q:Lqq}(hq:(q.map dN).Nodup):atF q=q.map fun x=>(.int .i64 (dN x),wH x):=by
 have key:∀ (q p:Lqq),((p++q).map dN).Nodup→q.foldl lZ (p.map fun x=>(.int .i64 (dN x),wH x))=(p++q).map fun x=>(.int .i64 (dN x),wH x):=by
  intro q
  induction q with
  | nil=>intro p _;simp
  | cons x q ih =>
   intro p h;rw [kO];have hn:eA (p.map fun x=>((.int .i64 (dN x),wH x):Value × PV)) (.int .i64 (dN x))=false:=by
    unfold eA;rw [List.any_eq_false];intro e he;obtain ⟨y,hy,rfl⟩:=B3.1 he;rw [iA,List.nodup_append] at h
    have:=h.2.2 (dN y) (B3.2 ⟨y,hy,rfl⟩) (dN x) (by simp)
    simpa [jU] using this
   have hst:lZ (p.map fun x=>((.int .i64 (dN x),wH x):Value × PV)) x=(p.map fun x=>((.int .i64 (dN x),wH x):Value × PV))++[(.int .i64 (dN x),wH x)]:=by
    unfold lZ;rw [hn,if_neg (by simp)]
   rw [hst];have e:(p.map fun x=>((.int .i64 (dN x),wH x):Value × PV))++[(.int .i64 (dN x),wH x)]=(p++[x]).map fun x=>((.int .i64 (dN x),wH x):Value × PV):=by simp
   have e2:p++x::q=(p++[x])++q:=by simp
   rw [e,ih (p++[x]) (by rw [← e2];exact h),e2]
 exact key q [] (by simpa using hq)
theorem aRs{dc:Lqq}(h:bP dc):(dc.reverse.map dN).Nodup:=by
 rw [List.map_reverse,List.Nodup,List.pairwise_reverse,List.pairwise_map];exact h.up.imp fun h=>by omega
theorem zE{dc:Lqq}(h:bP dc){n:Int}(hn:inR n):cR .i64 (atF dc.reverse) (.int .i64 n):=by
 have ha:aAz (atF dc.reverse):=bTp fun x hx=>by have:=eT h (yZ.1 hx);omega
 refine ⟨ha.ky,?_,ha.nd⟩;show (decide (IntKind.i64=IntKind.i64) && (Lit.int .i64 n).wf)=true;have:(Lit.int .i64 n).wf=true:=by
  have e1:IntKind.i64.min = -9223372036854775808:=rfl;have e2:IntKind.i64.max=9223372036854775807:=rfl;unfold inR at hn
  show (decide _ && decide _)=true;rw [Ce,decide_eq_true_eq,decide_eq_true_eq,e1,e2];omega
 rw [this];rfl
theorem aXk{dc:Lqq}(h:bP dc){x:List Int}(hx:x∈dc):eA (atF dc.reverse) (.int .i64 (dN x))=true∧gG (atF dc.reverse) (.int .i64 (dN x))=some (wH x):=by
 rw [bBt (aRs h)];have hf:dc.reverse.find? (fun y=>decide (dN y=dN x))=some x:=by
  cases hf:dc.reverse.find? (fun y=>decide (dN y=dN x)) with
  | none =>
   have:=aCz.1 hf x (yZ.2 hx);simp at this
  | some y =>
   have h1:=rD hf;have h2:dN y=dN x:=by simpa using aMr hf
   rw [zG h (yZ.1 h1) hx h2]
 constructor
 ·unfold eA
  rw [List.any_map];exact List.any_eq_true.2 ⟨x,yZ.2 hx,by simp [jU]⟩
 ·unfold gG
  rw [List.find?_map];have e:(fun e:Value × PV=>decide (jU e.1=jU (Value.int IntKind.i64 (dN x)))) ∘ (fun x:List Int=>((Value.int .i64 (dN x),wH x):Value × PV))=fun y=>decide (dN y=dN x):=rfl
  rw [e,hf];rfl
theorem bBu{dc:Lqq}(h:bP dc){n:Int}(hn:∀ x∈dc,dN x≠n):eA (atF dc.reverse) (.int .i64 n)=false:=by
 rw [bBt (aRs h)];unfold eA;rw [List.any_map,List.any_eq_false];intro x hx;have:=hn x (yZ.1 hx);show ¬ (decide (dN x=n))=true;simpa using this
def ofN(dc:Lqq)(n:Int):Option (List Int):=dc.find? fun x=>dN x == n
theorem uJ{dc:Lqq}{n:Int}{x:List Int}(h:ofN dc n=some x):x∈dc∧dN x=n:=⟨rD h,by simpa using aMr h⟩
theorem aRt{dc:Lqq}{n:Int}(h:ofN dc n=none):∀ x∈dc,dN x≠n:=fun x hx=>by simpa using aCz.1 h x hx
theorem zF{dc:Lqq}(hd:bP dc){x:List Int}(hx:x∈dc):ofN dc (dN x)=some x:=by
 cases h:ofN dc (dN x) with
 | none=>exact absurd rfl (aRt h x hx)
 | some y=>obtain ⟨h1,h2⟩:=uJ h;rw [zG hd h1 hx h2]
def mQ(dc:Lqq):Nat→List Int→Int
 | 0,_=>0
 | k+1,x=>if dK x≤4 then dB x else match ofN dc (dAb x) with
  | some y=>mQ dc k y
  | none=>0
def jI(dc:Lqq)(x:List Int):Int:=mQ dc (10000+1) x
theorem cIn{dl:Int}{sk dc:Lqq}(hd:bP dc):∀ (k:Nat) (a b c d e f:Int),inR f→([a,b,c,d,e,f]∈dc∨b≤4∨∀ y∈dc,dN y≠f)→a<(k:Int) →
  (∃ a' b' c' d' e' f',mQ dc (k+1) [a,b,c,d,e,f]=d'∧aD Tp 0 (sub (cd Tryz.f128) [1,0,0,0]) (lF dl sk dc a b c d e f) (.exit 0) (lF dl sk dc a' b' c' d' e' f')) ∨
  (mQ dc (k+1) [a,b,c,d,e,f]=0∧∃ a' b' c' d' e' f',aD Tp 0 (sub (cd Tryz.f128) [1,0,0,0]) (lF dl sk dc a b c d e f) .ret (bQ (lF dl sk dc a' b' c' d' e' f') [(4,.p (aB 0))])):=by
 intro k
 induction k with
 | zero =>
  intro a b c d e f hf hm hk
  by_cases h4:b≤4
  ·refine .inl ⟨a,b,c,d,e,f,?_,.exit (aKw (decide_eq_true h4)) (by simp)⟩
   unfold mQ;rw [if_pos (show dK [a,b,c,d,e,f]≤4 from h4)];rfl
  ·rcases hm with hm | hm | hm
   ·have:1≤a:=(eT hd hm).1
    omega
   ·exact absurd hm h4
   ·refine .inr ⟨?_,a,b,c,d,e,f,.exit (aKv (decide_eq_false h4) (zE hd hf) (bBu hd hm)) (by simp)⟩
    unfold mQ;rw [if_neg (show ¬ dK [a,b,c,d,e,f]≤4 from h4)]
    have:ofN dc (dAb [a,b,c,d,e,f])=none:=by
     cases h:ofN dc (dAb [a,b,c,d,e,f]) with
     | none=>rfl
     | some y=>exact absurd (uJ h).2 (hm y (uJ h).1)
    rw [this]
 | succ k ih =>
  intro a b c d e f hf hm hk
  by_cases h4:b≤4
  ·refine .inl ⟨a,b,c,d,e,f,?_,.exit (aKw (decide_eq_true h4)) (by simp)⟩
   unfold mQ;rw [if_pos (show dK [a,b,c,d,e,f]≤4 from h4)];rfl
  ·have hu:mQ dc (k+1+1) [a,b,c,d,e,f]=match ofN dc (dAb [a,b,c,d,e,f]) with | some y=>mQ dc (k+1) y | none=>0:=by
    conv=>lhs;unfold mQ
    rw [if_neg (show ¬ dK [a,b,c,d,e,f]≤4 from h4)]
   rw [hu];cases h:ofN dc (dAb [a,b,c,d,e,f]) with
   | none=>exact .inr ⟨rfl,a,b,c,d,e,f,.exit (aKv (decide_eq_false h4) (zE hd hf) (bBu hd (aRt h))) (by simp)⟩
   | some y =>
    obtain ⟨h1,h2⟩:=uJ h
    rcases hm with hm | hm | hm
    ·obtain ⟨h3,h5⟩:=aXk hd h1
     rw [h2] at h3 h5
     have ho:=hd.ord _ hm;unfold orB at ho
     rw [if_neg (show ¬ [a,b,c,d,e,f].getD 1 0≤4 from h4)] at ho
     have Kn:=bW.1 ho;have ho3:f≤a-1:=Kn.2;obtain ⟨y0,y1,y2,y3,y4,y5,rfl⟩:=A7 (hd.ud y h1);have G1:y0=f:=h2;have Vj:=nY hd _ h1;have hst:=bKh (dl:=dl) (sk:=sk) (dc:=dc) (u0:=a) (u1:=b) (u2:=c) (u3:=d) (u4:=e) (u5:=f) (decide_eq_false h4) (zE hd hf) h3 h5
     rcases ih y0 y1 y2 y3 y4 y5 (by have q1:0≤y5:=Vj.1;have q2:y5≤9998:=Vj.2;unfold inR;omega) (.inl h1) (by omega) with ⟨a',b',c',d',e',f',q1,q2⟩ | ⟨q1,a',b',c',d',e',f',q2⟩
     ·exact .inl ⟨a',b',c',d',e',f',q1,.step hst q2⟩
     ·exact .inr ⟨q1,a',b',c',d',e',f',.step hst q2⟩
    ·exact absurd hm h4
    ·exact absurd h2 (hm y h1)
theorem bSu{dl:Int}{sk dc:Lqq}(hd:bP dc){a b c d e f:Int}(hf:inR f)(hm:[a,b,c,d,e,f]∈dc∨b≤4∨∀ y∈dc,dN y≠f)(ha:a≤9999){base:Nat}:FV Tp 128 [uM dl sk dc,.p (.agg [aB a,aB b,aB c,aB d,aB e,aB f])] base (.p (aB (jI dc [a,b,c,d,e,f]))) []:=by
 unfold jI
 rcases cIn (dl:=dl) (sk:=sk) hd 10000 a b c d e f hf hm (by omega) with ⟨a',b',c',d',e',f',q1,q2⟩ | ⟨q1,a',b',c',d',e',f',q2⟩
 ·rw [q1];exact cIs q2
 ·rw [q1];exact cIt q2
end
section
theorem cFa(dl:Int)(q x:List Int)(T:List DS):cX dl (mkS dl q x T)=(iI dl x,(oG x (!iI dl x) (cV T (dN x))).1,fA (dK x) && ((oG x (!iI dl x) (cV T (dN x))).1 && !(oG x (!iI dl x) (cV T (dN x))).2.2.2.2.2),
  (oG x (!iI dl x) (cV T (dN x))).2.1 || (!(oG x (!iI dl x) (cV T (dN x))).2.2.2.2.2 && q.contains (dN x)),(oG x (!iI dl x) (cV T (dN x))).2.2.1,(oG x (!iI dl x) (cV T (dN x))).2.2.2.1,(oG x (!iI dl x) (cV T (dN x))).2.2.2.2.1):=by
 unfold cX mkS oG;dsimp only;cases h1:(cV T (dN x)).find? prB with
 | none=>cases h2:(cV T (dN x)).find? pcB with
  | none=>simp [uOf,mOf,nOf]
  | some z=>simp [uOf,mOf,nOf]
 | some y=>cases h2:(cV T (dN x)).find? pcB with
  | none=>simp [uOf,mOf,nOf]
  | some z=>simp [uOf,mOf,nOf]
section
variable {dl:Int} {sk dc:Lqq} {q:List Int}
theorem cCs{dc:Lqq}(hd:bP dc){x:List Int}(hx:x∈dc):dK x≤9:=by
 have:=iH.1 (hd.rng x hx);exact this.2.1.2
theorem bHj(hd:bP dc){a r:Lqq}{Aa Ab Ac Ad Ae Af:Int}(hdc:dc=a++[Aa,Ab,Ac,Ad,Ae,Af]::r)(c0:Bool){LL:List RS}(hLL:LL=List.replicate (a.length+1) Og++(bL dl q r).map (cX dl))(l aa:Bool){A:Acc}(hA:A=oG [Aa,Ab,Ac,Ad,Ae,Af] c0 (cV (bL dl q r) Aa)) :
  aD Tp 0 (sub (cd Tryz.f75) ba) (cJ dl sk dc q (a.length:Int) LL Aa Ab Ac Ad Ae Af ((LL.length:Int)-(1:Int)) l aa c0 false Ae 0 0 false) (.exit 2) (cJ dl sk dc q (a.length:Int) LL Aa Ab Ac Ad Ae Af (a.length:Int) l aa A.1 A.2.1 A.2.2.1 A.2.2.2.1 A.2.2.2.2.1 A.2.2.2.2.2):=by
 have hl1:LL.length=a.length+1+r.length:=by rw [hLL];simp [jW]
 have C6:dc.length=a.length+1+r.length:=by rw [hdc];simp;omega
 have hlen:=hd.len;have hrm:∀ s∈bL dl q r,1≤dN s.x∧dK s.x≤9:=fun s hs=>by
  have hm:s.x∈dc:=by
   have:s.x∈r:=by
    have:=bEu (f:=fun s:DS=>s.x) hs
    rwa [pY] at this
   rw [hdc];exact aCy _ (Ch _ this)
  exact ⟨(eT hd hm).1,cCs hd hm⟩
 have W6:dK [Aa,Ab,Ac,Ad,Ae,Af]≤9:=cCs hd (by rw [hdc];simp)
 have:=aD.range (P:=Tp) (k:=0) (b:=sub (cd Tryz.f75) ba) (e := .exit 2) (fun t (A:Acc)=>cJ dl sk dc q (a.length:Int) LL Aa Ab Ac Ad Ae Af ((LL.length:Int)-1-(t:Int)) l aa A.1 A.2.1 A.2.2.1 A.2.2.2.1 A.2.2.2.2.1 A.2.2.2.2.2)
  (fun A=>cJ dl sk dc q (a.length:Int) LL Aa Ab Ac Ad Ae Af (a.length:Int) l aa A.1 A.2.1 A.2.2.1 A.2.2.2.1 A.2.2.2.2.1 A.2.2.2.2.2) (aWa (dN [Aa,Ab,Ac,Ad,Ae,Af]) (dK [Aa,Ab,Ac,Ad,Ae,Af])) (fun _ _=>True) (by simp) (bL dl q r).reverse (a0:=(c0,false,dMu [Aa,Ab,Ac,Ad,Ae,Af],0,0,false)) trivial
  (fun t s A hs _=>by
   refine ⟨trivial,?_⟩;have ht:=aM hs;rw [bXa,jW] at ht
   have Cj:(bL dl q r)[r.length-1-t]? = some s:=by
    rw [List.getElem?_reverse (by rw [jW];exact ht),jW] at hs
    exact hs
   have hr:r[r.length-1-t]? = some s.x:=by
    have:=congrArg (fun l=>l[r.length-1-t]?) (pY dl q r)
    simp only [fV,Cj] at this
    exact this.symm
   have hdcj:dc[a.length+1+(r.length-1-t)]? = some s.x:=by
    rw [hdc,show a++[Aa,Ab,Ac,Ad,Ae,Af]::r=(a++[[Aa,Ab,Ac,Ad,Ae,Af]])++r by simp,xJ (by simp)]
    simp only [iJ,oE,List.length_nil];rw [show a.length+1+(r.length-1-t)-(a.length+(0+1))=r.length-1-t by omega]
    exact hr
   have hLj:LL[a.length+1+(r.length-1-t)]? = some (cX dl s):=by
    rw [hLL,xJ (by simp),List.length_replicate,Nat.add_sub_cancel_left,fV,Cj]
    rfl
   obtain ⟨z0,z1,z2,z3,z4,z5,hz⟩:=A7 (hd.ud _ (Bl hdcj));have hkt:((LL.length:Int)-1-(t:Int)).toNat=a.length+1+(r.length-1-t):=by omega
   have e:((LL.length:Int)-1-((t+1:Nat):Int))=(LL.length:Int)-1-(t:Int)-1:=by omega
   rw [hz] at hdcj
   show aC Tp 0 _ _ .normal (cJ dl sk dc q (a.length:Int) LL Aa Ab Ac Ad Ae Af ((LL.length:Int)-1-((t+1:Nat):Int)) l aa _ _ _ _ _ _);rw [e];unfold aWa;rw [hz];exact bXq (by omega) (by rw [hkt];exact hdcj) (by omega) hd.ud (by omega) (by rw [hkt];exact hLj) (by show _∧_;omega))
  (fun A _=>by
   have e:((LL.length:Int)-1-((bL dl q r).reverse.length:Int))=(a.length:Int):=by
    rw [bXa,jW];omega
   show aC Tp 0 _ (cJ dl sk dc q (a.length:Int) LL Aa Ab Ac Ad Ae Af ((LL.length:Int)-1-((bL dl q r).reverse.length:Int)) l aa _ _ _ _ _ _) _ _;rw [e];exact aWk (bEv _))
 rw [aRe W6 c0 hrm] at this
 rw [hA];have e0:((LL.length:Int)-1-((0:Nat):Int))=(LL.length:Int)-1:=by omega
 simp only [e0] at this
 exact this
theorem aVy(hd:bP dc)(hq:q.length≤1000){base:Nat}:FV Tp 75 [.p (.agg (bC dl sk dc)),.p (aF q)] base (.own base) [(base,.row 121 ((bL dl q dc).map (cX dl)).length ((((bL dl q dc).map (cX dl)).map rsE).flatten))]:=by
 have hlen:=hd.len;obtain ⟨L,hI,hL⟩:=aD.ex (P:=Tp) (k:=0) (b:=sub (cd Tryz.f75) fy) (e := .exit 0) (fun t (L:List RS)=>iE dl sk dc q ((dc.length:Int)-1-(t:Int)) L.length ((L.map rsE).flatten)) (fun L=>iE dl sk dc q (-1) L.length ((L.map rsE).flatten))
  (fun t L=>L=List.replicate (dc.length-t) Og++(bL dl q (dc.drop (dc.length-t))).map (cX dl)) (by simp) dc.length
  (fun t L ht hL=>by
   have hi:dc.length-1-t<dc.length:=by omega
   have hdc:dc=dc.take (dc.length-1-t)++dc[dc.length-1-t]::dc.drop (dc.length-1-t+1):=by rw [← aMo hi,aQw]
   have hal:(dc.take (dc.length-1-t)).length=dc.length-1-t:=by rw [oD];omega
   have hmem:=fP hi;obtain ⟨y0,y1,y2,y3,y4,y5,hy⟩:=A7 (hd.ud _ hmem);rw [hy] at hdc
   have hx:dc[dc.length-1-t]? = some [y0,y1,y2,y3,y4,y5]:=by rw [Ay hi,hy]
   have hLL:L=List.replicate ((dc.take (dc.length-1-t)).length+1) Og++(bL dl q (dc.drop (dc.length-1-t+1))).map (cX dl):=by
    rw [hL,hal];rw [show dc.length-t=dc.length-1-t+1 by omega]
   have hll:L.length=dc.length:=by
    rw [hLL,hal];simp [jW];omega
   have hst:=bRt (dl:=dl) (sk:=sk) (dc:=dc) (q:=q) (i:=((dc.take (dc.length-1-t)).length:Int)) (L:=L) (lt:=iI dl [y0,y1,y2,y3,y4,y5]) (A:=oG [y0,y1,y2,y3,y4,y5] (!iI dl [y0,y1,y2,y3,y4,y5]) (cV (bL dl q (dc.drop (dc.length-1-t+1))) y0)) rfl (by omega) (by rw [aMq,hal];exact hx) hd.ud (by omega) (by omega)
    (fun l aa=>bHj hd hdc _ hLL l aa rfl) (fun l c m b f o u=>bXp l c m b f _ o u hq)
   rw [aMq] at hst
   refine ⟨L.set (dc.take (dc.length-1-t)).length (cX dl (mkS dl q [y0,y1,y2,y3,y4,y5] (bL dl q (dc.drop (dc.length-1-t+1))))),?_,?_⟩
   ·rw [hLL,cFb,hal,show dc.length-(t+1)=dc.length-1-t by omega]
    have:dc.drop (dc.length-1-t)=[y0,y1,y2,y3,y4,y5]::dc.drop (dc.length-1-t+1):=by rw [aMo hi,hy]
    rw [this];rfl
   ·have e1:((dc.length:Int)-1-(t:Int))=((dc.take (dc.length-1-t)).length:Int):=by omega
    have e2:((dc.length:Int)-1-((t+1:Nat):Int))=((dc.take (dc.length-1-t)).length:Int)-1:=by omega
    simp only [e1,e2];rw [cFa];exact hst)
  (fun L _=>by
   have e:((dc.length:Int)-1-(dc.length:Int)) = -1:=by omega
   simp only [e];exact bHq (by decide)) (acc:=List.replicate dc.length Og) (by simp [bL])
 rw [aQy,List.drop_zero,List.replicate_zero,List.nil_append] at hI
 rw [← hI];have e0:((dc.length:Int)-1-((0:Nat):Int))=(dc.length:Int)-1:=by omega
 simp only [e0,List.length_replicate,List.map_replicate] at hL
 exact cFc ⟨by omega,by omega,by omega⟩ (by show _∧_;omega) hL
end
end
end KV
end Go.Proofs
section
namespace Go.Proofs
open Go.RowKit
namespace KV
open Tryz
variable {P:Program} {n:Nat}
def aLd{α:Type}(F:Fence)(n:Nat)(P:Program)(g:Nat)(lb:Array Value)(encs:α→Array Value)(R:α→World→World→Prop)(Kp:World→World→Prop)(S Sp:List α→Prop)(N:Nat)(w:World):Prop :=
 ∀ (l:Nat) (J Jx:List α→World→Prop) (W:World),Below w.heap.size w W→AbidesFrom W.heap.size J→AbidesFrom W.heap.size Jx →
  (∀ pre x W0 W1,J pre W0→W0.grownBy W1 none→R x W0 W1→pre.length<N→YieldAt F (n-1) P l (encs x) W1 fun e W' =>
   (e = .returned (.bool true)∧J (pre++[x]) W'∧Kp W0 W')∨(e = .returned (.bool false)∧Jx (pre++[x]) W')) →
  J [] W →
  CallsIn F n P g (#[.func (.yield l) #[] #[]]++lb) W fun e W'=>(∃ v,e = .returned v)∧((∃ xs,S xs∧J xs W')∨(∃ pre,Sp pre∧Jx pre W'))

def bUw{α:Type}(B:Nat)(Kp:World→World→Prop)(I:List α→World→Prop)(Ix:Code→List α→World→Prop)(xs:List α)(V W:World):Exit→Act→World→Prop
 | .normal,_,W'=>KeepsFrom B W W'∧Kp V W'∧I xs W'
 | .ret,_,W'=>KeepsFrom B W W'∧Ix .ret xs W'
 | .exit id,_,W'=>KeepsFrom B W W'∧Ix (.exit id) xs W'
 | .goto t,_,W'=>KeepsFrom B W W'∧Ix (.goto t) xs W'
 | .panic _,_,_=>False
 | .outgrown,_,_=>False

theorem wJ{α:Type}{F:Fence}{g:Operand}{ps:Array Tmp}{assign body:Code}{Q:Exit→Act→World→Prop}{a:Act}{w:World}
  (hro:F.round=none) (h1:1≤n) {gf:Nat} {lb:Array Value} (hg:a.eval g = .func (.func gf) #[] lb) (hFg:F.fn gf) (eg:∀ args w,(callFunc gf args).run P w = .ok (.enter gf args) w)
  {encs:α→Array Value} {R:α→World→World→Prop} {Kp:World→World→Prop} {S Sp:List α→Prop} {N:Nat} {w0:World} (hseq:aLd F (n-1) P gf lb encs R Kp S Sp N w0)
  (hKt:∀ {A B C:World},Kp A B→Kp B C→Kp A C) (hKb:∀ (W:World) (l:Nat) (o o':Obj),w.heap.size≤l→W.heap[l]? = some o→o.isCells=false→o.isWalk=false→Kp W (W.putObj l o')) (Qy:Below w0.heap.size w0 w) (hps:∀ x,(encs x).size=ps.size)
  (I:List α→World→Prop) (Ix:Code→List α→World→Prop) (hI:OwnFrom w.heap.size I) (hIx:∀ c,OwnFrom w.heap.size (Ix c)) (h0:I [] w) (Ax:List α→α→World→Act→World→Prop) (hAx:∀ pre x V a',OwnFrom w.heap.size (fun (_:Unit) W=>Ax pre x V a' W))
  (hassign:∀ (l:Nat) (pre:List α) (x:α) (V W:World) (K:Act→World→Prop),I pre V→V.grownBy W none→R x V W→(∀ a' W',KeepsFrom w.heap.size W W'→Ax pre x V a' W'→K a' W') →
   assign.wpIn (F.inRound l) (n-1-1) P (Exit.then K (fun _ _ _=>False)) { tmps:=(ps.zip (encs x)).foldl (fun t (p,v)=>t.setIfInBounds p v) a.tmps,defers:=[] } W)
  (hbody:∀ (l:Nat) (pre:List α) (x:α) (a':Act) (V W:World),w.heap.size≤l→(∃ r,W.heap[l]? = some (.loop r))→Ax pre x V a' W→pre.length<N→body.wpIn (F.inRound l) (n-1-1) P (bUw w.heap.size Kp I Ix (pre++[x]) V W) a' W)
  (hdone:∀ (D:Nat) (xs:List α) (W:World),w.heap.size≤D→S xs→I xs W→W.heap[D]? = some (.deferred (some []))→Q .normal { a with defers:={ target := .collected D,args := #[] }::a.defers } W)
  (hstop:∀ (D:Nat) (c:Code) (pre:List α) (W:World),w.heap.size≤D→Sp pre→Ix c pre W→W.heap[D]? = some (.deferred (some []))→c.wpIn F n P Q { a with defers:={ target := .collected D,args := #[] }::a.defers } W) :
  (Code.rangeFunc g ps assign body).wpIn F n P Q a w:=by
 refine wpIn_rangeFunc fun fn hfn => ?_
 rw [hro];obtain ⟨rc,hrc⟩:∃ rc:LoopState→Option Code→Loop,rc=fun st pe=>{ state:=st,pending:=pe,fn,tmps:=a.tmps,params:=ps,assign,body,defers:=w.heap.size }:=⟨_,rfl⟩
 obtain ⟨W1,Jp⟩:∃ W1,(w.alloc (.deferred (some []))).alloc (.loop (rc .ready none))=W1:=⟨_,rfl⟩;have hsz:W1.heap.size=w.heap.size+2:=by rw [← Jp];simp
 have Yr:W1.heap[w.heap.size+1]? = some (.loop (rc .ready none)):=by
  have:=World.alloc_heap_new (w.alloc (.deferred (some []))) (.loop (rc .ready none));rw [World.size_alloc] at this
  rw [← Jp];exact this
 have Ui:W1.heap[w.heap.size]? = some (.deferred (some [])):=by
  rw [← Jp];exact (Below.heap_alloc _ _ _ (by simp)).trans (World.alloc_heap_new w _)
 have Ys:I [] W1:=by rw [← Jp];exact hI.alloc _ (hI.alloc _ h0)
 have Dm:Below w0.heap.size w0 W1:=by
  rw [← Jp];exact Qy.trans ((((Below.refl _ w).alloc (dF _) _).alloc (by simp) _).mono Qy.size)
 let Bk (st:LoopState) (pe:Option Code) (W:World):Prop:=W.heap[w.heap.size+1]? = some (.loop (rc st pe))∧W.heap[w.heap.size]? = some (.deferred (some []))
 have bkKeep:∀ {st:LoopState} {pe:Option Code} {A B:World} {row:Option Nat},Bk st pe A→A.grownBy B row→(∀ r,row=some r→∃ o:Obj,A.heap[r]? = some o∧o.isWalk=true)→Bk st pe B:=fun hs Iw hr =>
  ⟨(grownBy_keeps Iw hr hs.1 rfl).trans hs.1,(grownBy_keeps Iw hr hs.2 rfl).trans hs.2⟩
 have walkOwn:∀ {A:World} {row:Option Nat},(∀ r,row=some r→W1.heap.size≤r∧∃ o:Obj,A.heap[r]? = some o∧o.isWalk=true)→∀ r,row=some r→w.heap.size≤r∧∃ o:Obj,A.heap[r]? = some o∧o.isCells=false:=fun hr r e=>by
  obtain ⟨hB,o,ho,hw⟩:=hr r e;exact ⟨by omega,o,ho,Obj.not_cells_of_walk hw⟩
 refine ⟨w.heap.size+1,[{ target := .collected w.heap.size,args := #[] }],W1,{ target := .fn (.func gf) lb,args := #[.func (.yield (w.heap.size+1)) #[] #[]] },W1,gf,
  #[.func (.yield (w.heap.size+1)) #[] #[]]++lb,W1,?_,?_,?_,?_,fun _=>h1,?_⟩
 ·rw [← Jp,hrc];exact run_enterLoop_outer _ _ _ _ _
 ·simp only [resolve,hg]
  simp [go_sem]
 ·intro f' Vx;simp [Target.leads] at Vx;subst Vx;exact hFg
 ·simp [invoke,go_sem,eg]
 ·refine (hseq (w.heap.size+1) (fun pre W=>I pre W∧Bk .ready none W) (fun pre W=>∃ c,Ix c pre W∧Bk .done (some c) W) W1 Dm
   (fun s A B row hs Iw hr=>⟨hI s A B row hs.1 Iw (walkOwn hr),bkKeep hs.2 Iw fun r e=>(hr r e).2⟩)
   (fun s A B row hs Iw hr=>by
    obtain ⟨c,hc,hb⟩:=hs;exact ⟨c,hIx c s A B row hc Iw (walkOwn hr),bkKeep hb Iw fun r e=>(hr r e).2⟩)
   ?_ ⟨Ys,Yr,Ui⟩).mono ?_
  ·-- a round
   rintro pre x V W ⟨hi,hbk⟩ Iw hR hlen;have hbW:=bkKeep hbk Iw (fun r e=>by cases e)
   have hlt:w.heap.size+1<W.heap.size:=(nR.1 hbW.1).1;have hy:=run_yield (P:=P) (args:=encs x) hbW.1 (by rw [hrc];exact hps x)
   rw [hrc] at hy
   refine ⟨fn,_,assign,body,hy,roundIn_of_wpIn hfn (hassign _ pre x V W _ hi Iw hR ?_)⟩;clear hy;intro a' Wa hkf hax;have hl:=hkf.same _ _ (by omega) hbW.1 rfl
   have hk:=hkf.same _ _ (dF _) hbW.2 rfl;have hlta:w.heap.size+1<Wa.heap.size:=(nR.1 hl).1;refine ⟨_,run_beginRound hl (by rw [hrc]),?_⟩
   have C6:(Wa.putObj (w.heap.size+1) (.loop { rc .ready none with state := .busy })).heap[w.heap.size+1]? = some (.loop { rc .ready none with state := .busy }):=World.putObj_heap_same hlta
   have Fz:(Wa.putObj (w.heap.size+1) (.loop { rc .ready none with state := .busy })).heap[w.heap.size]? = some (.deferred (some [])):=(World.putObj_heap_other (by omega)).trans hk
   refine wpIn_mono (hbody _ pre x a' V _ (by omega) ⟨_,C6⟩ ((hAx pre x V a').putObj (s:=()) _ hax (by omega) hl rfl) hlen) ?_
   have fin:∀ (jump:Option Code) (W3:World),KeepsFrom w.heap.size (Wa.putObj (w.heap.size+1) (.loop { rc .ready none with state := .busy })) W3 →
     (Instr.endRound (w.heap.size+1) jump).run P W3 = .ok (.bool jump.isNone) (W3.putObj (w.heap.size+1) (.loop (rc (if jump.isNone then .ready else .done) jump))) ∧
     W3.heap[w.heap.size+1]? = some (.loop { rc .ready none with state := .busy })∧Bk (if jump.isNone then .ready else .done) jump (W3.putObj (w.heap.size+1) (.loop (rc (if jump.isNone then .ready else .done) jump))):=fun jump W3 Jq=>by
    have Dl:=Jq.same _ _ (by omega) C6 rfl
    have hrun:=run_endRound (P:=P) jump Dl;rw [hrc] at hrun
    refine ⟨by rw [hrc];exact hrun,Dl,?_⟩
    exact ⟨World.putObj_heap_same (nR.1 Dl).1,(World.putObj_heap_other (by omega)).trans (Jq.same _ _ (dF _) Fz rfl)⟩
   rintro e a3 W3 hp;cases e with
   | normal =>
    obtain ⟨Jq,Um,Lr⟩:=hp;obtain ⟨hr,Dl,N6⟩:=fin none W3 Jq;exact ⟨_,_,hr,.inl ⟨rfl,⟨hI.putObj _ Lr (by omega) Dl rfl,N6⟩,hKt Um (hKb _ _ _ _ (by omega) Dl rfl rfl)⟩⟩
   | ret =>
    obtain ⟨Jq,Lr⟩:=hp;obtain ⟨hr,Dl,N6⟩:=fin (some .ret) W3 Jq;exact ⟨_,_,hr,.inr ⟨rfl,.ret,(hIx _).putObj _ Lr (by omega) Dl rfl,N6⟩⟩
   | exit id =>
    obtain ⟨Jq,Lr⟩:=hp;obtain ⟨hr,Dl,N6⟩:=fin (some (.exit id)) W3 Jq;exact ⟨_,_,hr,.inr ⟨rfl,.exit id,(hIx _).putObj _ Lr (by omega) Dl rfl,N6⟩⟩
   | goto t =>
    obtain ⟨Jq,Lr⟩:=hp;obtain ⟨hr,Dl,N6⟩:=fin (some (.goto t)) W3 Jq;exact ⟨_,_,hr,.inr ⟨rfl,.goto t,(hIx _).putObj _ Lr (by omega) Dl rfl,N6⟩⟩
   | panic ch=>exact hp.elim
   | outgrown=>exact hp.elim
  ·-- behind the iterator
   rintro e W2 ⟨⟨v,rfl⟩,(⟨xs,hS,hi,hb⟩ | ⟨pre,hSp,c,hi,hb⟩)⟩
   ·have:=run_endLoop (P:=P) hb.1 (by rw [hrc];simp)
    rw [hrc] at this
    exact ⟨none,_,this,hdone _ xs _ (dF _) hS (hI.putObj _ hi (by omega) hb.1 rfl) ((World.putObj_heap_other (by omega)).trans hb.2)⟩
   ·have:=run_endLoop (P:=P) hb.1 (by rw [hrc];simp)
    rw [hrc] at this
    exact ⟨some c,_,this,hstop _ c pre _ (dF _) hSp ((hIx c).putObj _ hi (by omega) hb.1 rfl) ((World.putObj_heap_other (by omega)).trans hb.2)⟩
end KV
end Go.Proofs
end
section
namespace Go.Proofs
open Go.RowKit
namespace KV
open Tryz
variable {P:Program} {C C0:Cx} {M M0:Mem} {w w0:World}
abbrev nT(l:List Int):AO := .row 3 l.length (l.map aB)
def bUt(P:Program)(x:List Int × Value)(W0 W1:World):Prop:=x.1.length≤1000∧∃ C1:Cx,aU P C1 [some (nT x.1)] W1∧Rep C1 [some (nT x.1)] W1 (.own 0) x.2∧∀ b,C1.ι 0=some b→W0.heap.size≤b

theorem rJ{W0 W1:World}(hg:W0.grownBy W1 none)(b:Nat)(hb:b<W0.heap.size):W1.heap[b]? = W0.heap[b]? := hg.block b hb (fun e=>by cases e)
theorem bUu{M':Mem}{W0 W1:World}{x:List Int × Value}(hM:aU P C M' W0)(hg:W0.grownBy W1 none)(hR:bUt P x W0 W1) :
  ∃ C2,aU P C2 (M'++[some (nT x.1)]) W1∧Fr C M' W0 C2 (M'++[some (nT x.1)]) W1∧Rep C2 (M'++[some (nT x.1)]) W1 (.own M'.length) x.2:=by
 obtain ⟨_,C1,h1,h2,h3⟩:=hR
 let C2:Cx:={ ι:=fun i=>if i=M'.length then C1.ι 0 else C.ι i,κ:=fun i=>if i=M'.length then C1.κ 0 else C.κ i,F:=C.F }
 have old:∀ (i:Nat) (o:AO),M'[i]? = some (some o)→i<M'.length∧(M'++[some (nT x.1)])[i]? = some (some o)∧C2.ι i=C.ι i∧C2.κ i=C.κ i:=fun i o h=>by
  have hl:=(Ca.1 h).1;refine ⟨hl,by rw [aAh hl];exact h,if_neg (by omega),if_neg (by omega)⟩
 have cls:∀ (i:Nat) (o:AO),(M'++[some (nT x.1)])[i]? = some (some o)→M'[i]? = some (some o)∨(i=M'.length∧o=nT x.1):=fun i o h=>by
  rcases Nat.lt_or_ge i M'.length with hl | hl
  ·rw [aAh hl] at h;exact .inl h
  ·rw [xJ hl] at h
   cases hd:i-M'.length with
   | zero =>
    rw [hd] at h
    simp at h
    exact .inr ⟨by omega,h.symm⟩
   | succ j=>rw [hd] at h;simp at h
 have new:C2.ι M'.length=C1.ι 0∧C2.κ M'.length=C1.κ 0:=⟨if_pos rfl,if_pos rfl⟩;have f:Fr C M' W0 C2 (M'++[some (nT x.1)]) W1:=by
  refine ⟨hg.os,hg.tape,hg.output,hg.size,fun b hb _=>rJ hg b hb,fun i o h => ?_,fun i o h ty n cs hm => ?_,fun i o h o' h' hl => ?_,fun i o b h hl hb => ?_,fun b h=>h,fun b h => .inl h⟩
  ·obtain ⟨_,q1,q2,q3⟩:=old i o h
   exact ⟨⟨o,q1⟩,q2,q3⟩
  ·rw [(old i o h).2.1] at hm;cases hm;exact ⟨cs,h⟩
  ·rw [(old i o h).2.1] at h';cases h';exact hl
  ·rcases cls i o h with q | ⟨rfl,rfl⟩
   ·rw [(old i o q).2.2.1] at hb;exact .inr ⟨i,o,q,hl,hb⟩
   ·rw [new.1] at hb;exact .inl (h3 b hb)
 have hL:=hM.le f;have Yl:=h1.row 0 3 x.1.length (x.1.map aB) rfl;refine ⟨C2,⟨fun i ty n cs hm => ?_,fun i ty cs hm => ?_,fun i es cl hm => ?_,fun i i' o1 o2 b q1 l1 q2 l2 e1 e2 => ?_,fun i o b hm hl hb => ?_,fun b hb=>gF (hM.Fs b hb) hg.size,fun i o b hm hl hb => ?_⟩,f,?_⟩
 ·rcases cls i _ hm with q | ⟨rfl,q⟩
  ·obtain ⟨hlt,_,q2,q3⟩:=old i _ q
   rw [q2,q3]
   rcases hM.row _ _ _ _ q with h4 | ⟨b,arr,inf,p0,p1,p2,p3,p4,p5,p6,p7,p8⟩
   ·exact .inl h4
   ·exact .inr ⟨b,arr,inf,p0,by rw [rJ hg b (hM.lt i _ b q rfl p0)];exact p1,p2,p3,p4,p5,p6,fun j hj=>(p7 j hj).mono hL.F hL.fz,p8⟩
  ·cases q
   rw [new.1,new.2]
   rcases Yl with h4 | ⟨b,arr,inf,p0,p1,p2,p3,p4,p5,p6,p7,p8⟩
   ·exact .inl h4
   ·refine .inr ⟨b,arr,inf,p0,p1,p2,p3,p4,p5,p6,fun j hj => ?_,p8⟩
    have:=p7 j hj;revert this;rw [oF];generalize arr.getD j undef=u;intro h;cases h;exact .v _
 ·rcases cls i _ hm with q | ⟨rfl,q⟩
  ·obtain ⟨b,arr,p0,p1,p2,p3,p4⟩:=hM.box _ _ _ q
   exact ⟨b,arr,by rw [(old i _ q).2.2.1];exact p0,by rw [rJ hg b (hM.lt i _ b q rfl p0)];exact p1,p2,fun j hj=>(p3 j hj).mono hL,p4⟩
  ·cases q
 ·rcases cls i _ hm with q | ⟨rfl,q⟩
  ·obtain ⟨b,arr,p0,p1,p2,p3⟩:=hM.mp _ _ _ q
   refine ⟨b,arr,by rw [(old i _ q).2.2.1];exact p0,by rw [rJ hg b (hM.lt i _ b q rfl p0)];exact p1,p2,fun j hj => ?_⟩
   obtain ⟨en,r1,r2,r3,r4⟩:=p3 j hj;exact ⟨en,r1,r2,r3,r4.mono hL.F hL.fz⟩
  ·cases q
 ·rcases cls i _ q1 with c1 | ⟨rfl,rfl⟩ <;> rcases cls i' _ q2 with c2 | ⟨rfl,rfl⟩
  ·rw [(old i _ c1).2.2.1] at e1
   rw [(old i' _ c2).2.2.1] at e2
   exact hM.inj _ _ _ _ _ c1 l1 c2 l2 e1 e2
  ·rw [(old i _ c1).2.2.1] at e1
   rw [new.1] at e2
   have:=hM.lt _ _ _ c1 l1 e1;have:=h3 b e2;omega
  ·rw [new.1] at e1
   rw [(old i' _ c2).2.2.1] at e2
   have:=hM.lt _ _ _ c2 l2 e2;have:=h3 b e1;omega
  ·rfl
 ·rcases cls i _ hm with c1 | ⟨rfl,rfl⟩
  ·rw [(old i _ c1).2.2.1] at hb
   exact hM.nF _ _ _ c1 hl hb
  ·rw [new.1] at hb
   intro hF;have:=hM.Fs b hF;have:=h3 b hb;omega
 ·rcases cls i _ hm with c1 | ⟨rfl,rfl⟩
  ·rw [(old i _ c1).2.2.1] at hb
   exact gF (hM.lt _ _ _ c1 hl hb) hg.size
  ·rw [new.1] at hb
   exact h1.lt 0 _ b rfl rfl hb
 ·cases h2 with
  | own _ _ q0 qa q =>
   refine .own _ _ q0 ⟨nT x.1,by rw [xJ (dF _),aQy];rfl⟩ fun ty n cs hm => ?_
   rw [xJ (dF _),aQy] at hm
   rw [new.1,new.2];exact q ty n cs hm

theorem sN:∀ {m m':Mem},nmM m=true→nmM m'=true→nmM (m++m')=true
 | [],_,_,h=>h
 | none::r,m',h,h'=>by
  have:nmM (r++m')=true:=sN (m:=r) h h';exact this
 | some x::r,m',h,h'=>by
  cases x with
  | row ty n cs =>
   simp only [nmM,Ce] at h
   show (lE cs && nmM (r++m'))=true;rw [h.1,sN h.2 h'];rfl
  | box ty l =>
   simp only [nmM,Ce] at h
   show (nmL l && nmM (r++m'))=true;rw [h.1,sN h.2 h'];rfl
  | mp=>exact sN (m:=r) h h'
  | pk=>exact sN (m:=r) h h'
  | dead=>exact sN (m:=r) h h'
theorem mC:∀ {m m':Mem},gP m=true→gP m'=true→gP (m++m')=true
 | [],_,_,h=>h
 | none::r,m',h,h'=>mC (m:=r) h h'
 | some x::r,m',h,h'=>by
  cases x with
  | mp=>simp [gP] at h
  | pk=>simp [gP] at h
  | row=>exact mC (m:=r) h h'
  | box=>exact mC (m:=r) h h'
  | dead=>exact mC (m:=r) h h'

theorem bUv{M':Mem}{W W':World}{C1:Cx}{row:Option Nat}(hn:aCj M')(hq:nmM M'=true)(hF:∀ b,C.F b→b<w.heap.size)(h1:aU P C1 M' W)(h2:Fr C M w C1 M' W)(hg:W.grownBy W' row)
  (hr:∀ r,row=some r→w.heap.size≤r∧∃ o:Obj,W.heap[r]? = some o∧o.isCells=false):∃ C',C'.ι=C1.ι∧C'.κ=C1.κ∧aU P C' M' W'∧Fr C M w C' M' W':=by
 let C':Cx:=⟨C1.ι,C1.κ,fun b=>C1.F b∧(b<w.heap.size∨nK W b),[]⟩
 have hM:aU P C' M' W:=by
  refine ⟨fun i ty n cs hm => ?_,fun i ty cs hm => ?_,fun i es cl hm=>absurd hm (hn.1 _ _ _),h1.inj,fun i o b ho hl hb hf=>h1.nF i o b ho hl hb hf.1,fun b hb=>h1.Fs b hb.1,h1.lt⟩
  ·rcases h1.row _ _ _ _ hm with h4 | ⟨b,arr,inf,q0,q1,q2,q3,q4,q5,q6,q7,q8⟩
   ·exact .inl h4
   ·exact .inr ⟨b,arr,inf,q0,q1,q2,q3,q4,q5,q6,fun j hj=>(q7 j hj).shrink (fun b hb hs=>⟨hb,.inr hs⟩) (sI ((aGj hq).1 _ _ _ _ hm) j hj),q8⟩
  ·obtain ⟨b,arr,q0,q1,q2,q3,q4⟩:=h1.box _ _ _ hm
   exact ⟨b,arr,q0,q1,q2,fun j hj=>(q3 j hj).shrink (fun b hb hs=>⟨hb,.inr hs⟩) (xR ((aGj hq).2 _ _ _ hm) j hj),q4⟩
 have f:Fr C M w C' M' W:=⟨h2.os,h2.tape,h2.out,h2.size,h2.keep,h2.ids,h2.row,h2.liv,h2.new,fun b hb=>⟨h2.F1 b hb,.inl (hF b hb)⟩,fun b hb=>h2.F2 b hb.1⟩
 have hS:∀ b,C'.F b→b<w.heap.size∨nK W b:=fun b hb=>hb.2
 have hsame:∀ b,b<W.heap.size→(b<w.heap.size∨nK W b)→W'.heap[b]? = W.heap[b]? := fun b hb hd=>hg.block b hb (fun e=>by
  obtain ⟨q1,o,q2,q3⟩:=hr b e.symm
  rcases hd with hd | hd
  ·omega
  ·exact kL q2 q3 hd)
 have hFz:∀ b,C'.F b→W'.heap[b]? = W.heap[b]? := fun b hb=>hsame b (hM.Fs b hb) (hS b hb)
 have hL:Le C' C' M' M' W W':=⟨fun _ o h=>⟨o,h⟩,fun _ _ _ _ _ cs h=>⟨cs,h⟩,fun _ o h o' h' hl=>by rw [h] at h';cases h';exact ⟨hl,rfl,rfl⟩,fun _ h=>h,hFz⟩
 refine ⟨C',rfl,rfl,⟨fun i ty n cs hm => ?_,fun i ty cs hm => ?_,fun i es cl hm=>absurd hm (hn.1 _ _ _),hM.inj,hM.nF,fun b hb=>gF (hM.Fs b hb) hg.size,fun i o b ho hl hb=>gF (hM.lt i o b ho hl hb) hg.size⟩,
  ⟨hg.os.trans f.os,hg.tape.trans f.tape,hg.output.trans f.out,fL f.size hg.size,fun b hb hno=>(hsame b (gF hb f.size) (.inl hb)).trans (f.keep b hb hno),f.ids,f.row,f.liv,f.new,f.F1,f.F2⟩⟩
 ·rcases hM.row _ _ _ _ hm with h4 | ⟨b,arr,inf,q0,q1,q2,q3,q4,q5,q6,q7,q8⟩
  ·exact .inl h4
  ·exact .inr ⟨b,arr,inf,q0,(hsame b (nR.1 q1).1 (.inr (gD q1))).trans q1,q2,q3,q4,q5,q6,fun j hj=>(q7 j hj).mono hL.F hL.fz,q8⟩
 ·obtain ⟨b,arr,q0,q1,q2,q3,q4⟩:=hM.box _ _ _ hm
  exact ⟨b,arr,q0,(hsame b (nR.1 q1).1 (.inr (gD q1))).trans q1,q2,fun j hj=>(q3 j hj).mono hL,q4⟩
theorem aZa{C1 C':Cx}{M':Mem}{W W':World}{i:Nat}{u:Value}(h:Rep C1 M' W (.own i) u)(e1:C'.ι=C1.ι)(e2:C'.κ=C1.κ):Rep C' M' W' (.own i) u:=by
 cases h with
 | own _ _ q0 qa q=>exact .own _ _ q0 qa fun ty n cs hm=>by rw [e1,e2];exact q ty n cs hm

def cCx(P:Program)(g:AV)(gf N:Nat)(xs:Lqq):Prop:=∀ (C:Cx) (M:Mem) (w:World) (u:Value),Rep C M w g u→(∀ b,C.F b→b<w.heap.size) →
 ∃ lb,u = .func (.func gf) #[] lb∧aLd Fence.wide 2 P gf lb (fun x:List Int × Value => #[x.2]) (bUt P) (KpG C.F) (fun ys=>ys.map (·.1)=xs) (fun ys=>ys.map (·.1) <+: xs) N w

def rfO(st:St)(p1 d:Nat)(l:List Int):St:=⟨put (put st.t (some p1) (.own st.m.length)) (some d) (.own st.m.length),st.m++[some (nT l)]⟩

section
variable {k kb gi gf p1 d id ty:Nat} {pos:String} {body:Code} {g:AV} {N:Nat} {xs:Lqq}
theorem aLc(Ii:St)(S:Lqq→St)(E ER:Lqq→List Int→St)(T:List AV)(MR:Mem)(p:Lqq→List Int→Bool){cc:Code}(hcc:cc = .rangeFunc (.tmp gi) #[p1] (.region id #[{ dst:=some d,op := .assign (.tmp p1),type:=ty,pos:=pos,after := #[],guard:=none }] false) body)
  (Ym:Ii.t=T) (hT:∀ pre,(S pre).t=T) (hg:T[gi]? = some g) (hit:cCx P g gf N xs) (eg:∀ args w,(callFunc gf args).run P w = .ok (.enter gf args) w)
  (hmp:∀ pre,gP (S pre).m=true) (hq:∀ pre,nmM (S pre).m=true) (hmE:∀ pre l,gP (E pre l).m=true) (hmER:∀ pre l,gP (ER pre l).m=true) (hmR:gP MR=true) (hqR:nmM MR=true) (hlen:∀ pre,(S pre).m.length<kb) (hnrf:nrf body=true)
  (hp:∀ (x:AV),(put T (some p1) x)[p1]? = some x) {kk:Nat} {g0 g1 gR:Gh} (hkk:Ii.m.length≤kk) (Yn:gP Ii.m=true) (Yo:gh kk g0 Ii=some (S [])) (hgh:∀ pre l,gh kk g1 (E pre l)=some ⟨(E pre l).t,(S (pre++[l])).m⟩) (hgR:∀ pre l,p pre l=true→gh kk gR (ER pre l)=some ⟨(ER pre l).t,MR⟩)
  (hbody:∀ pre l,pre.length<N→l.length≤1000→(p pre l=false→aC P kb body (rfO (S pre) p1 d l) .normal (E pre l))∧(p pre l=true→aC P kb body (rfO (S pre) p1 d l) .ret (ER pre l))) :
  ((∀ pre l,pre++[l] <+: xs→p pre l=false)→aC P k cc Ii .normal (S xs)) ∧
  ((∃ pre l,pre++[l] <+: xs∧p pre l=true)→aC P k cc Ii .ret ⟨T,MR⟩):=by
 have Qx:∀ pre,aCj (S pre).m:=fun pre=>eM (hmp pre)
 have N5:aCj MR:=eM hmR;have main:∀ (Qf:Ex→St→Prop),((∀ pre l,pre++[l] <+: xs→p pre l=false)→Qf .normal (S xs))→((∃ pre l,pre++[l] <+: xs∧p pre l=true)→Qf .ret ⟨T,MR⟩) →
   ∀ (C0:Cx) (M0:Mem) (w0:World) (a:Act) (w:World),M0.length≤k→Sim P C0 M0 w0 Ii a w→∀ (ro:Option Nat),mU ro cc→∀ (n:Nat),cc.wpIn (Fen ro) n P (fun e' a' w'=>∃ e Am,Qf e Am∧e'=e.toExit∧Sim P C0 M0 w0 Am a' w') a w:=by
  intro Qf Yp Yq C0 M0 w0 a w hk hs ro hro n;subst hcc;have Nt:ro=none:=hro.resolve_right (by simp [nrf])
  subst Nt;refine aGk (n:=3) ?_;obtain ⟨C,hSl,hM,hF,hD⟩:=hs;have hini:bKf P C Ii.m w (S []).m w:=by
   obtain ⟨C1,_,h1,h2,_⟩:=eX hkk Yo (show Sim P (C.with []) Ii.m w Ii { a with defers:=[] } w from ⟨C,hSl,hM,(Fr.refl _ _ _).based [],.nil rfl (eM Yn).2⟩)
   exact ⟨C1,h1,h2.unbased⟩
  rw [Ym] at hSl
  obtain ⟨lb,hu,hseq⟩:=hit C Ii.m w _ (hSl.at hg) hM.Fs
  have actOf:∀ x:List Int × Value,Act:=fun x=>({ tmps:=a.tmps.setIfInBounds p1 x.2,defers:=[] }:Act).put (some d) (({ tmps:=a.tmps.setIfInBounds p1 x.2,defers:=[] }:Act).eval (.tmp p1))
  refine wJ (F:=Fen none) (n:=3) rfl (by omega) (gf:=gf) (lb:=lb) hu trivial eg hseq (fun h k=>h.trans k)
   (fun W l o o' hl h1 h2 h3=>⟨by simp,fun b hb=>(grownBy_putObj' W l o').block b (gF (hM.Fs b hb) (fL hl (Nat.le_of_lt (nR.1 h1).1))) (fun e=>by cases e;have:=hM.Fs _ hb;omega)⟩)
   (Below.refl _ _) (fun _=>rfl)
   (fun pre W=>bKf P C Ii.m w (S (pre.map (·.1))).m W∧∀ q l,q++[l] <+: pre.map (·.1)→p q l=false)
   (fun c pre W=>c = .ret∧bKf P C Ii.m w MR W∧∃ q l,q++[l]=pre.map (·.1)∧p q l=true)
   (fun pre X Y row hs hg hr=>⟨hs.1.own (Qx _) (hq _) hM.Fs hg hr,hs.2⟩) (fun c pre X Y row hs hg hr=>⟨hs.1,hs.2.1.own N5 hqR hM.Fs hg hr,hs.2.2⟩)
   ⟨hini,fun q l h=>by simp at h⟩
   (fun pre x V a' W=>a'=({ tmps:=a.tmps.setIfInBounds p1 x.2,defers:=[] }:Act).put (some d) (({ tmps:=a.tmps.setIfInBounds p1 x.2,defers:=[] }:Act).eval (.tmp p1)) ∧
    (∃ C2,aU P C2 ((S (pre.map (·.1))).m++[some (nT x.1)]) W∧Fr C Ii.m w C2 ((S (pre.map (·.1))).m++[some (nT x.1)]) W∧Rep C2 ((S (pre.map (·.1))).m++[some (nT x.1)]) W (.own (S (pre.map (·.1))).m.length) x.2) ∧
    KpG C.F V W∧x.1.length≤1000∧∀ q l,q++[l] <+: pre.map (·.1)→p q l=false)
   (fun pre x V a' s X Y row hs hg hr=>by
    obtain ⟨e1,⟨C2,q1,q2,q3⟩,e3,e4,e5⟩:=hs;have hnr:nmM [some (nT x.1)]=true:=by
     show (lE (x.1.map aB) && nmM [])=true;rw [aGi aB (fun _=>rfl)];rfl
    obtain ⟨C',i1,i2,i3,i4⟩:=bUv (eM (mC (hmp _) (by rfl))) (sN (hq _) hnr) hM.Fs q1 q2 hg hr
    refine ⟨e1,⟨C',i3,i4,aZa q3 i1 i2⟩,⟨fL e3.size hg.size,fun b hb => ?_⟩,e4,e5⟩
    refine (hg.block b (gF (hM.Fs b hb) q2.size) (fun e => ?_)).trans (e3.same b hb)
    have:=(hr b e.symm).1;have:=hM.Fs b hb;omega)
   ?assign ?body ?done ?stop
  case assign =>
   intro l pre x V W K hI Iw hR hK;obtain ⟨⟨C',Hh,Re⟩,hpre⟩:=hI;obtain ⟨C2,j1,j2,j3⟩:=bUu Hh Iw hR;have hz:(#[p1].zip #[x.2]).foldl (fun t (y:Nat × Value)=>t.setIfInBounds y.1 y.2) a.tmps=a.tmps.setIfInBounds p1 x.2:=by simp
   rw [hz];refine wpIn_region_lit (wpListIn_plain rfl fun K' Tm => ?_)
   unfold Oper.wpIn;refine ⟨fun f _=>trivial,?_⟩
   rw [Oper.semAt_plain _ _ _ (by intro c Ig;cases Ig)]
   simp only [execOp,Sem.run_pure];exact Tm _ _ (wpListIn_nil (hK _ _ (KeepsFrom.refl _ _) ⟨rfl,⟨C2,j1,Re.trans j2,j3⟩,⟨Iw.size,fun b hb=>rJ Iw b (gF (hM.Fs b hb) Re.size)⟩,hR.1,hpre⟩))
  case body =>
   rintro l pre x a' V W hl _ ⟨rfl,⟨C2,Iz,Hg,Gv⟩,P4,hxl,hpre⟩ hlt;have hpl:(pre.map (·.1)).length<N:=by simpa using hlt
   have hSW:eN C2 ((S (pre.map (·.1))).m++[some (nT x.1)]) W T a.tmps:=hSl.le (hM.le Hg)
   have s1:eN C2 ((S (pre.map (·.1))).m++[some (nT x.1)]) W (put T (some p1) (.own (S (pre.map (·.1))).m.length)) (({ tmps:=a.tmps,defers:=[] }:Act).put (some p1) x.2).tmps :=
    eN.put (a:={ tmps:=a.tmps,defers:=[] }) hSW Gv
   have s2:eN C2 ((S (pre.map (·.1))).m++[some (nT x.1)]) W (put (put T (some p1) (.own (S (pre.map (·.1))).m.length)) (some d) (.own (S (pre.map (·.1))).m.length)) (({ tmps:=a.tmps.setIfInBounds p1 x.2,defers:=[] }:Act).put (some d) (({ tmps:=a.tmps.setIfInBounds p1 x.2,defers:=[] }:Act).eval (.tmp p1))).tmps :=
    eN.put s1 (s1.at (hp _))
   have hnr:gP ((S (pre.map (·.1))).m++[some (nT x.1)])=true:=mC (hmp _) (by rfl)
   have hsim:Sim P (C2.with []) ((S (pre.map (·.1))).m++[some (nT x.1)]) W (rfO (S (pre.map (·.1))) p1 d x.1) (({ tmps:=a.tmps.setIfInBounds p1 x.2,defers:=[] }:Act).put (some d) (({ tmps:=a.tmps.setIfInBounds p1 x.2,defers:=[] }:Act).eval (.tmp p1))) W:=by
    refine ⟨C2,?_,Iz,(Fr.refl _ _ _).based [],.nil rfl (eM hnr).2⟩;unfold rfO;rw [hT];exact s2
   have hkl:((S (pre.map (·.1))).m++[some (nT x.1)]).length≤kb:=by
    rw [iJ];exact hlen _
   have keepO:∀ {M2:Mem} {W2:World} {C3:Cx},Fr C2 ((S (pre.map (·.1))).m++[some (nT x.1)]) W C3 M2 W2→KeepsFrom w.heap.size W W2∧KpG C.F V W2:=fun f3 =>
    ⟨⟨f3.size,fun b o _ hb ho=>(f3.keep b (nR.1 hb).1 (aNh Iz (eM hnr) hb ho)).trans hb⟩,
     P4.trans ⟨f3.size,fun b hb=>f3.keep b (gF (hM.Fs b hb) Hg.size) (fun id o ho hl he=>Iz.nF id o b ho hl he (Hg.F1 b hb))⟩⟩
   have hmapp:(pre++[x]).map (·.1)=pre.map (·.1)++[x.1]:=by simp
   cases hpx:p (pre.map (·.1)) x.1 with
   | false =>
    refine wpIn_mono ((hbody _ x.1 hpl hxl).1 hpx (C2.with []) _ W _ W hkl hsim (some l) (.inr hnrf) 1) ?_
    rintro e a2 W2 ⟨rfl,C3,Ku,Iu,Jj,_⟩;have Jj:=Jj.unbased;obtain ⟨k1,k2⟩:=keepO Jj;have Ki:Sim P (C.with []) Ii.m w (E (pre.map (·.1)) x.1) { a2 with defers:=[] } W2 :=
     ⟨C3,Ku,Iu,(Hg.trans Jj).based [],.nil rfl (eM (hmE _ _)).2⟩
    obtain ⟨C4,_,Qa,Ul,_⟩:=eX hkk (hgh _ _) Ki;refine ⟨k1,k2,⟨C4,?_,?_⟩,fun q l h => ?_⟩
    ·rw [hmapp];exact Qa
    ·rw [hmapp];exact Ul.unbased
    ·rw [hmapp] at h
     rcases List.prefix_concat_iff.1 h with h | h
     ·obtain ⟨e1,e2⟩:=List.append_inj' h rfl
      cases e2;rw [e1];exact hpx
     ·exact hpre q l h
   | true =>
    have hc:=(hbody _ x.1 hpl hxl).2 hpx;refine wpIn_mono (hc (C2.with []) _ W _ W hkl hsim (some l) (.inr hnrf) 1) ?_
    rintro e a2 W2 ⟨rfl,C3,Ku,Iu,Jj,_⟩;have Jj:=Jj.unbased;obtain ⟨k1,k2⟩:=keepO Jj;have Ki:Sim P (C.with []) Ii.m w (ER (pre.map (·.1)) x.1) { a2 with defers:=[] } W2 :=
     ⟨C3,Ku,Iu,(Hg.trans Jj).based [],.nil rfl (eM (hmER _ _)).2⟩
    obtain ⟨C4,_,Qa,Ul,_⟩:=eX hkk (hgR _ _ hpx) Ki;exact ⟨k1,rfl,⟨C4,Qa,Ul.unbased⟩,_,_,hmapp.symm,hpx⟩
  case done =>
   intro D ys W Kx hSx hI hDm;obtain ⟨⟨C1,h1,h2⟩,hpre⟩:=hI;rw [hSx] at h1 h2 hpre
   refine ⟨.normal,S xs,Yp hpre,rfl,?_⟩;have hnm:aCj (S xs).m:=Qx xs;obtain ⟨C',Hh,f,hSo⟩:=xS hnm (hq xs) hM.Fs h1 h2;refine ⟨C',by rw [hT];exact hSl.le (hM.le f),Hh,hF.trans f,?_⟩
   obtain ⟨⟨l,e1,e2,e3⟩,hR⟩:=hD.fr hM (fun i to ti sz L h=>by have:=hnm.2 _ _ h;cases this) f
   obtain ⟨⟨l',Lq,_,Nu⟩,_⟩:=hD;have hll:l=l':=by
    have:=e1.symm.trans Lq;exact (List.map_inj_right (fun x y h=>by simpa [mark] using h)).1 this
   refine ⟨⟨D::l,by rw [e1];rfl,List.nodup_cons.2 ⟨fun hin => ?_,e2⟩,fun D' Nv => ?_⟩,hR⟩
   ·rw [hll] at hin
    have:=(nR.1 (Nu D hin).1).1;omega
   ·rcases fW.1 Nv with rfl | hin
    ·refine ⟨hDm,fL hF.size Kx,fun hf => ?_⟩
     rcases hSo _ hf with h | h
     ·omega
     ·exact kL hDm rfl h
    ·exact e3 D' hin
  case stop =>
   rintro D c pre W Kx hSp ⟨rfl,⟨C1,h1,h2⟩,q,l0,hql,hpq⟩ hDm;refine wpIn_ret ?_;refine ⟨.ret,⟨T,MR⟩,Yq ⟨q,l0,by rw [hql];exact hSp,hpq⟩,rfl,?_⟩
   obtain ⟨C',Hh,f,hSo⟩:=xS N5 hqR hM.Fs h1 h2;refine ⟨C',hSl.le (hM.le f),Hh,hF.trans f,?_⟩;obtain ⟨⟨l,e1,e2,e3⟩,hR⟩:=hD.fr hM (fun i to ti sz L h=>by have:=N5.2 _ _ h;cases this) f
   obtain ⟨⟨l',Lq,_,Nu⟩,_⟩:=hD;have hll:l=l':=by
    have:=e1.symm.trans Lq;exact (List.map_inj_right (fun x y h=>by simpa [mark] using h)).1 this
   refine ⟨⟨D::l,by rw [e1];rfl,List.nodup_cons.2 ⟨fun hin => ?_,e2⟩,fun D' Nv => ?_⟩,hR⟩
   ·rw [hll] at hin
    have:=(nR.1 (Nu D hin).1).1;omega
   ·rcases fW.1 Nv with rfl | hin
    ·refine ⟨hDm,fL hF.size Kx,fun hf => ?_⟩
     rcases hSo _ hf with h | h
     ·omega
     ·exact kL hDm rfl h
    ·exact e3 D' hin
 refine ⟨fun hall => ?_,fun hex => ?_⟩
 ·intro C0 M0 w0 a w hk hs ro hro n
  refine wpIn_mono (main (fun e Am=>e = .normal∧Am=S xs) (fun _=>⟨rfl,rfl⟩) (fun ⟨q,l,h1,h2⟩=>by rw [hall q l h1] at h2;cases h2) C0 M0 w0 a w hk hs ro hro n) ?_
  rintro e' a' w' ⟨e,Am,⟨rfl,rfl⟩,h1,h2⟩;exact ⟨h1,h2⟩
 ·intro C0 M0 w0 a w hk hs ro hro n
  refine wpIn_mono (main (fun e Am=>e = .ret∧Am=⟨T,MR⟩) (fun hall=>by obtain ⟨q,l,h1,h2⟩:=hex;rw [hall q l h1] at h2;cases h2) (fun _=>⟨rfl,rfl⟩) C0 M0 w0 a w hk hs ro hro n) ?_
  rintro e' a' w' ⟨e,Am,⟨rfl,rfl⟩,h1,h2⟩;exact ⟨h1,h2⟩
end
end KV
end Go.Proofs
end
section
namespace Go.Proofs
open Go.RowKit
namespace KV
open Tryz
variable {P:Program} {T:TT} {E:Env} {C C0:Cx} {M M0:Mem} {w w0:World}
def cOo(P:Program)(ops:Array Oper)(o:Oper)(st Am:St):Prop:=∀ (C0:Cx) (M0:Mem) (w0:World) (a:Act) (w:World),Sim P C0 M0 w0 st a w→∀ (ro:Option Nat) (n:Nat) (K:Act→World→Prop) (Q:Exit→Act→World→Prop),
 (∀ a' w',(∃ v,a'=a.put o.dst v)→Sim P C0 M0 w0 Am a' w'→K a' w')→if Region.wanted o (yielded ops a.tmps) then o.wpIn (Fen ro) n P a w K Q else (∀ f,o.about P w a.eval=some f→(Fen ro).fn f)∧K (a.put o.dst undef) w
theorem bNs(hT:∀ t i,T t=some i→cQ P t=some i)(hE:nG P E){ops:List Oper}{o:Oper}{id:Nat}{st Am:St}{s s':AS}(h:rL P T E ops o id st s=some (Am,s'))(g:bD s'):cOo P ops.toArray o st Am:=by
 intro C0 M0 w0 a w hsim ro n K Q hK;obtain ⟨C,hS,hM,hF,hD⟩:=hsim;unfold rL at h
 obtain ⟨go,s1,h1,k1⟩:=aE h;cases go with
 | true =>
  obtain ⟨vs,s2,h2,k2⟩:=aE k1;obtain ⟨e2,rfl⟩:=aH h2;obtain ⟨⟨x,L⟩,s3,h3,k3⟩:=aE k2;obtain ⟨rfl,rfl⟩:=aL k3;have gd:=rK.good h3 g;rw [oX hS h1 gd,if_pos rfl];refine ⟨fun f _=>trivial,?_⟩
  rw [Oper.semAt_eq _ _ _ (aBx h3)]
  rcases vK h3 with ⟨q,_,_,h4⟩ | ⟨h4,hno⟩
  ·obtain ⟨_,hup⟩:=aBy hT hE hS hM hF hD (tJ hS _ _ e2) h4 g
   revert hup;generalize (execOp a.eval o).run P w=r;intro hup;cases r with
   | halt x w'=>exact hup.elim
   | ok nx w' =>
    cases nx with
    | value u=>exact hK _ _ ⟨_,rfl⟩ hup
    | skip=>exact hK _ _ ⟨_,rfl⟩ (hup _)
    | enter f us =>
     obtain ⟨rfl,hc⟩:=hup;refine ⟨fun h=>by simp [Fen,Fence.wide] at h,(vJ (hc (n-1))).mono ?_⟩
     rintro e Il ⟨u,rfl,hs⟩;exact hK _ _ ⟨_,rfl⟩ hs
    | _=>exact hup.elim
  ·obtain ⟨_,hup⟩:=aFb hT hE hM (tJ hS _ _ e2) h4 g
   have hk:lR st.m (upds st.m L):=tI hno;revert hup;generalize (execOp a.eval o).run P w=r;intro hup;cases r with
   | halt x w'=>exact hup.elim
   | ok nx w' =>
    cases nx with
    | value u =>
     obtain ⟨C',f,m,r⟩:=hup;exact hK _ _ ⟨_,rfl⟩ (oY hS hM hF hD f hk m r)
    | skip =>
     obtain ⟨rfl,C',f,m⟩:=hup;exact hK _ _ ⟨_,rfl⟩ (oY hS hM hF hD f hk m (.any _))
    | enter f us =>
     obtain ⟨rfl,hc⟩:=hup;refine ⟨fun h=>by simp [Fen,Fence.wide] at h,(vJ (hc (n-1))).mono ?_⟩
     rintro e Il ⟨u,rfl,C',f,m,r⟩;exact hK _ _ ⟨_,rfl⟩ (oY hS hM hF hD f hk m r)
    | _=>exact hup.elim
 | false =>
  obtain ⟨rfl,rfl⟩:=aL k1;rw [oX hS h1 g];simp only [Bool.false_eq_true,if_false];exact ⟨fun f _=>trivial,hK _ _ ⟨_,rfl⟩ (oY hS hM hF hD (Fr.refl ..) .refl hM (.tup [] #[] rfl (fun i h=>by simp at h)))⟩
theorem rI{a:Act}{d:Option Nat}{v:Value}{i:Nat}(h:d≠some i):(a.put d v).tmps.getD i undef=a.tmps.getD i undef:=by
 cases d with
 | none=>rfl
 | some j =>
  have hne:j≠i:=fun e=>h (by rw [e])
  show (a.tmps.setIfInBounds j v).getD i undef=_;simp [Cb,Array.getElem?_setIfInBounds_ne hne]
theorem aLb(hT:∀ t i,T t=some i→cQ P t=some i)(hE:nG P E){ops:List Oper}:∀ (l:List Oper) (k:Nat) {st Am:St} {s s':AS},(∀ j,l[j]? = ops[k+j]?)→bEm P T E ops l st s=some (Am,s')→bD s' →
  ∀ (C0:Cx) (M0:Mem) (w0:World) (a:Act) (w:World),Sim P C0 M0 w0 st a w→∀ (ro:Option Nat) (n:Nat) (Q:Exit→Act→World→Prop),(∀ a' w',((∀ i,(∀ o∈l,o.dst≠some i)→a'.tmps.getD i undef=a.tmps.getD i undef)∧a'.defers=a.defers)→Sim P C0 M0 w0 Am a' w'→Q .normal a' w')→wpOpsIn (Fen ro) n P ops.toArray Q ((List.range l.length).map (k + ·)) a w
 | [],k,st,Am,s,s',_,h,g,C0,M0,w0,a,w,hs,ro,n,Q,hQ=>by
  obtain ⟨rfl,rfl⟩:=aL h;exact hQ _ _ ⟨fun _ _=>rfl,rfl⟩ hs
 | o::l,k,st,Am,s,s',hl,h,g,C0,M0,w0,a,w,hs,ro,n,Q,hQ=>by
  obtain ⟨st1,s1,h1,k1⟩:=aE h;have h0:ops[k]? = some o:=by simpa using (hl 0).symm
  have ih:=fun a1 w1=>aLb hT hE l (k+1) (fun j=>by have:=hl (j+1);simpa [Nat.add_assoc,Nat.add_comm 1 j] using this) k1 g C0 M0 w0 a1 w1
  have hst:=bNs hT hE h1 (vL.good k1 g) C0 M0 w0 a w hs ro n (wpOpsIn (Fen ro) n P ops.toArray Q ((List.range l.length).map (k+1 + ·))) Q (fun a1 w1 hv Io=>ih a1 w1 Io ro n Q fun a' w' hk Cj=>hQ a' w' ⟨fun i hi=>by
   obtain ⟨v,rfl⟩:=hv;rw [hk.1 i fun o' D7=>hi o' (Ch _ D7),rI (hi o (gA ..))],by
   obtain ⟨v,rfl⟩:=hv;rw [hk.2];cases o.dst <;> rfl⟩ Cj)
  rw [oE,List.range_succ_eq_map,iB,wC];have hm:(List.range l.length).map ((k + ·) ∘ Nat.succ)=(List.range l.length).map (k+1 + ·):=by
   apply aAi;intro x _;simp only [Function.comp];omega
  rw [hm,Nat.add_zero,wpOpsIn_cons];unfold wpOpIn;simp only [List.getElem?_toArray,h0];exact hst
def wrR(c:Code)(i:Nat):Bool:=match c with
 | .region _ ops _=>ops.toList.any fun o=>match o.dst with
  | some j=>Nat.beq j i
  | none=>false
 | _=>true
def eB(P:Program)(k:Nat)(c:Code)(st:St)(e:Ex)(Am:St):Prop:=∀ (C0:Cx) (M0:Mem) (w0:World) (a:Act) (w:World),M0.length≤k→Sim P C0 M0 w0 st a w→∀ (ro:Option Nat) (n:Nat),c.wpIn (Fen ro) n P (fun e' a' w'=>e'=e.toExit∧Sim P C0 M0 w0 Am a' w'∧(∀ i,wrR c i=false→a'.tmps.getD i undef=a.tmps.getD i undef)∧a'.defers=a.defers) a w
noncomputable def bUs(c:Code)(st:St):Ask (Ex × St):=match c with
 | .region _ ops false=>do
  let Am ← bEm Tp tT EO ops.toList ops.toList st
  pure (.normal,Am)
 | _=>fail
theorem eB.fin{k:Nat}{c:Code}{st Am:St}{e:Ex}{g:Gh}{o:List OI}{l:List Prop}(h:aDb k g (bUs c st (asg o))=some (e,Am,l,[]))(gd:bD (out l)):eB Tp k c st e Am:=by
 unfold aDb at h
 split at h
 ·rename_i e1 st1 s hr
  split at h
  ·rename_i st2 hg
   simp only [Option.some.injEq,Prod.mk.injEq] at h
   obtain ⟨rfl,rfl,rfl,hs⟩:=h;unfold bUs at hr
   split at hr
   ·rename_i id ops
    obtain ⟨Vu,s1,h1,k1⟩:=aE hr;obtain ⟨he,rfl⟩:=aL k1;cases he;intro C0 M0 w0 a w hk hsm ro n;refine wpIn_region ?_;have:=aLb aJt aJs ops.toList 0 (fun j=>by simp) h1 (fun p hp=>gd p hp) C0 M0 w0 a w hsm ro n (fun e' a' w'=>e'=Ex.normal.toExit∧Sim Tp C0 M0 w0 st2 a' w'∧(∀ i,wrR (.region id ops false) i=false→a'.tmps.getD i undef=a.tmps.getD i undef)∧a'.defers=a.defers) (fun a' w' hkp h'=>⟨rfl,eX hk hg h',fun i hi=>hkp.1 i fun o ho e=>by
     unfold wrR at hi
     have:=List.any_eq_false.1 hi o ho;rw [e] at this
     exact this (Nat.beq_refl i),hkp.2⟩)
    simpa using this
   ·cases hr
  ·cases h
 ·cases h
theorem eB.fi{k:Nat}{c:Code}{st Am:St}{e:Ex}(g:Gh)(o:List OI){l:List Prop}(gd:bD (out l))(h:aDb k g (bUs c st (asg o))=some (e,Am,l,[]):=by kernel_rfl):eB Tp k c st e Am:=eB.fin h gd
end KV
end Go.Proofs
end
namespace Go.Proofs
namespace KV
open Tryz
section
section
variable {α:Type}

def mv(A:List α)(x:α)(j:Nat)(R:List α):List α:=A.take j++x::(A.drop j++R)

theorem aBg(A:List α)(x:α)(j:Nat)(R:List α)(hj:j≤A.length):(mv A x j R).length=A.length+1+R.length:=by
 unfold mv;simp;omega

theorem aOm(A:List α)(x:α)(j:Nat)(R:List α)(hj:j≤A.length)(t:Nat) :
  (mv A x j R)[t]? = if t<j then A[t]? else if t=j then some x else if t≤A.length then A[t-1]? else R[t-A.length-1]? := by
 unfold mv
 by_cases h1:t<j
 ·rw [if_pos h1,aAh (by simp;omega),bWy h1]
 ·rw [if_neg h1,xJ (by simp;omega)]
  have hl:(A.take j).length=j:=by simp;omega
  rw [hl]
  by_cases h2:t=j
  ·rw [if_pos h2,show t-j=0 by omega];rfl
  ·rw [if_neg h2,show t-j=(t-j-1)+1 by omega,List.getElem?_cons_succ]
   by_cases h3:t≤A.length
   ·rw [if_pos h3,aAh (by simp;omega),List.getElem?_drop]
    congr 1;omega
   ·rw [if_neg h3,xJ (by simp;omega)]
    congr 1
    simp;omega

theorem cBq(A:List α)(x:α)(j:Nat)(R:List α)(hj:j≤A.length)(h0:0<j)(y:α)(hy:A[j-1]? = some y) :
  ((mv A x j R).set j y).set (j-1) x=mv A x (j-1) R:=by
 have hl:=aBg A x j R hj;apply List.ext_getElem?;intro t;rw [List.getElem?_set,List.getElem?_set,aOm A x (j-1) R (by omega),aOm A x j R hj]
 simp only [oP,hl]
 by_cases h1:j-1=t
 ·subst h1
  rw [if_pos rfl,if_pos (by omega),if_neg (by omega),if_pos rfl]
 ·rw [if_neg h1]
  by_cases h2:j=t
  ·subst h2
   rw [if_pos rfl,if_pos (by omega),if_neg (by omega),if_neg (by omega),if_pos (by omega),hy]
  ·rw [if_neg h2]
   by_cases h3:t<j
   ·rw [if_pos h3,if_pos (by omega)]
   ·rw [if_neg h3,if_neg (by omega:¬ t=j),if_neg (by omega:¬ t<j-1),if_neg (by omega:¬ t=j-1)]

def nD(lt:α→α→Bool)(x:α)(A:List α):Nat:=(A.reverse.dropWhile (lt x)).length
def ins(lt:α→α→Bool)(A:List α)(x:α):List α:=A.take (nD lt x A)++x::A.drop (nD lt x A)
def isort(lt:α→α→Bool)(l:List α):List α:=l.foldl (ins lt) []

theorem mS{p:α→Bool}:∀ (l r:List α),(∀ x∈l,p x=true)→(l++r).dropWhile p=r.dropWhile p
 | [],_,_=>rfl
 | x::l,r,h=>by
  rw [List.cons_append,List.dropWhile_cons,if_pos (h x (by simp))]
  exact mS l r (fun y hy=>h y (by simp [hy]))

theorem aLf(lt:α→α→Bool)(x:α)(A:List α)(j:Nat)(hj:j≤A.length)(h:∀ t (_:t<A.length),j≤t→lt x A[t]=true)
  (h2:j=0∨∃ y,A[j-1]? = some y∧lt x y=false):nD lt x A=j:=by
 unfold nD;have e:A.reverse=(A.drop j).reverse++(A.take j).reverse:=by rw [← List.reverse_append,aQw]
 rw [e,mS]
 ·rcases h2 with h0 | ⟨y,hy,hlt⟩
  ·subst h0;simp
  ·by_cases h0:j=0
   ·subst h0;simp
   ·have e2:A.take j=A.take (j-1)++[y]:=by
     rw [show j=(j-1)+1 by omega,List.take_add_one,Nat.add_sub_cancel,hy];rfl
    have hl:(A.take (j-1)).length=j-1:=by simp;omega
    rw [e2,List.reverse_append];show ((y::(A.take (j-1)).reverse).dropWhile (lt x)).length=j;rw [List.dropWhile_cons,hlt];simp;omega
 ·intro z hz
  rw [yZ] at hz
  obtain ⟨t,ht,rfl⟩:=List.getElem_of_mem hz;rw [List.getElem_drop];exact h (j+t) (by simp at ht;omega) (by omega)

theorem aZl(lt:α→α→Bool)(A:List α)(x:α):(ins lt A x).length=A.length+1:=by
 unfold ins;simp;have:nD lt x A≤A.length:=by
  unfold nD;have h2:((A.reverse).dropWhile (lt x)).length≤A.reverse.length:=(List.dropWhile_sublist _).length_le;simpa using h2
 omega

theorem cMi(A:List α)(x:α)(R:List α):mv A x A.length R=A++x::R:=by unfold mv;simp
theorem bUx(lt:α→α→Bool)(A:List α)(x:α)(R:List α):mv A x (nD lt x A) R=ins lt A x++R:=by unfold mv ins;simp

theorem zN(lt:α→α→Bool)(l:List α):(isort lt l).length=l.length:=by
 unfold isort;have:∀ (l A:List α),(l.foldl (ins lt) A).length=A.length+l.length:=by
  intro l
  induction l with
  | nil=>intro A;simp
  | cons x r ih=>intro A;rw [kO,ih,aZl];simp;omega
 rw [this];simp

theorem aZm(lt:α→α→Bool)(l:List α)(k:Nat)(h:k<l.length):isort lt (l.take (k+1))=ins lt (isort lt (l.take k)) l[k]:=by
 unfold isort;rw [List.take_succ_eq_append_getElem h,aDa];rfl
end
theorem Dd{x:List Int}(h:x.length=3):∃ a b c,x=[a,b,c]:=by
 match x,h with
 | [a,b,c],_=>exact ⟨a,b,c,rfl⟩
theorem vX{α:Type}(lt:α→α→Bool)(l:List α)(y:α):y∈isort lt l↔y∈l:=by
 unfold isort;have : ∀ (l A:List α),y∈l.foldl (ins lt) A↔y∈A∨y∈l:=by
  intro l
  induction l with
  | nil=>intro A;simp
  | cons x r ih =>
   intro A;rw [kO,ih];have:y∈ins lt A x↔y∈A∨y=x:=by
    unfold ins;rw [jK,fW];constructor
    ·rintro (h | h | h)
     ·exact Or.inl (List.mem_of_mem_take h)
     ·exact Or.inr h
     ·exact Or.inl (List.mem_of_mem_drop h)
    ·rintro (h | h)
     ·rw [← aQw (nD lt x A) A,jK] at h
      rcases h with h | h
      ·exact Or.inl h
      ·exact Or.inr (Or.inr h)
     ·exact Or.inr (Or.inl h)
   rw [this,fW];constructor
   ·rintro ((h | h) | h) <;> simp [h]
   ·rintro (h | h | h) <;> simp [h]
 rw [this];simp

section
variable {α:Type}
theorem aBh(lt:α→α→Bool)(A:List α)(x:α):∃ B D:List α,A=B++D∧ins lt A x=B++x::D∧(∀ d∈D,lt x d=true)∧(B=[]∨∃ B' h,B=B'++[h]∧lt x h=false):=by
 have hA:A=(A.reverse.dropWhile (lt x)).reverse++(A.reverse.takeWhile (lt x)).reverse:=by
  rw [← List.reverse_append,List.takeWhile_append_dropWhile,List.reverse_reverse]
 generalize hdw:A.reverse.dropWhile (lt x)=dw at hA
 generalize htw:A.reverse.takeWhile (lt x)=tw at hA
 have hp:nD lt x A=dw.reverse.length:=by unfold nD;rw [hdw,bXa]
 refine ⟨dw.reverse,tw.reverse,hA,?_,fun d hd => ?_,?_⟩
 ·unfold ins
  rw [hp]
  conv=>lhs;rw [hA]
  rw [List.take_left',List.drop_left'] <;> rfl
 ·rw [yZ,← htw] at hd
  exact gB.1 List.all_takeWhile d hd
 ·cases dw with
  | nil=>exact .inl rfl
  | cons h r =>
   refine .inr ⟨r.reverse,h,by simp,?_⟩
   have:=List.head_dropWhile_not (lt x) (l:=A.reverse) (by rw [hdw];simp)
   simp only [hdw,List.head_cons] at this
   simpa using this
theorem aSo(lt:α→α→Bool)(A:List α)(x:α):(ins lt A x).Perm (x::A):=by
 obtain ⟨B,D,h1,h2,_⟩:=aBh lt A x;rw [h2,h1];exact List.perm_middle
theorem aZn(lt:α→α→Bool)(l:List α):(isort lt l).Perm l:=by
 unfold isort;have:∀ (l A:List α),(l.foldl (ins lt) A).Perm (A++l):=by
  intro l
  induction l with
  | nil=>intro A;simp
  | cons x r ih =>
   intro A;rw [kO];refine (ih _).trans (((aSo lt A x).append_right r).trans ?_);exact List.perm_middle.symm
 simpa using this l []
theorem aZo{f:α→Int}{lt:α→α→Bool}(hlt:∀ x y,lt x y=decide (f x<f y)){A:List α}(x:α)(hs:A.Pairwise (fun a b=>f a≤f b)):(ins lt A x).Pairwise (fun a b=>f a≤f b):=by
 obtain ⟨B,D,rfl,h2,h3,h4⟩:=aBh lt A x;rw [h2];obtain ⟨s1,s2,s3⟩:=List.pairwise_append.1 hs;have hB:∀ b∈B,f b≤f x:=fun b hb=>by
  rcases h4 with rfl | ⟨B',h,rfl,hx⟩
  ·simp at hb
  ·rw [hlt,decide_eq_false_iff_not] at hx
   rcases jK.1 hb with hb | hb
   ·have:=(List.pairwise_append.1 s1).2.2 b hb h (by simp)
    omega
   ·simp at hb;subst hb;omega
 have hD:∀ d∈D,f x≤f d:=fun d hd=>by
  have:=h3 d hd;rw [hlt,decide_eq_true_eq] at this
  omega
 refine List.pairwise_append.2 ⟨s1,aMp.2 ⟨hD,s2⟩,fun a ha b hb => ?_⟩
 rcases fW.1 hb with rfl | hb
 ·exact hB a ha
 ·exact s3 a ha b hb
theorem sO{f:α→Int}{lt:α→α→Bool}(hlt:∀ x y,lt x y=decide (f x<f y))(l:List α):(isort lt l).Pairwise (fun a b=>f a≤f b):=by
 unfold isort;have:∀ (l A:List α),A.Pairwise (fun a b=>f a≤f b)→(l.foldl (ins lt) A).Pairwise (fun a b=>f a≤f b):=by
  intro l
  induction l with
  | nil=>intro A h;exact h
  | cons x r ih=>intro A h;rw [kO];exact ih _ (aZo hlt x h)
 exact this l [] .nil
end
section
variable {α:Type}
theorem aZp{f g:α→Int}{lt:α→α→Bool}(hlt:∀ x y,lt x y=decide (f x<f y)){A:List α}(x:α)(hs:A.Pairwise (fun a b=>f a<f b∨f a=f b∧g a<g b))(hg:∀ a∈A,g a<g x):(ins lt A x).Pairwise (fun a b=>f a<f b∨f a=f b∧g a<g b):=by
 obtain ⟨B,D,rfl,h2,h3,h4⟩:=aBh lt A x;rw [h2];obtain ⟨s1,s2,s3⟩:=List.pairwise_append.1 hs;have hB:∀ b∈B,f b≤f x:=fun b hb=>by
  rcases h4 with rfl | ⟨B',h,rfl,hx⟩
  ·simp at hb
  ·rw [hlt,decide_eq_false_iff_not] at hx
   rcases jK.1 hb with hb | hb
   ·have:=(List.pairwise_append.1 s1).2.2 b hb h (by simp)
    omega
   ·simp at hb;subst hb;omega
 have hD:∀ d∈D,f x<f d:=fun d hd=>by
  have:=h3 d hd
  rwa [hlt,decide_eq_true_eq] at this
 refine List.pairwise_append.2 ⟨s1,aMp.2 ⟨fun d hd => .inl (hD d hd),s2⟩,fun a ha b hb => ?_⟩
 rcases fW.1 hb with rfl | hb
 ·have h5:=hB a ha
  have h6:=hg a (pN _ ha)
  by_cases e:f a=f b
  ·exact .inr ⟨e,h6⟩
  ·exact .inl (by omega)
 ·exact s3 a ha b hb
theorem aOn{f g:α→Int}{lt:α→α→Bool}(hlt:∀ x y,lt x y=decide (f x<f y))(l:List α)(hl:l.Pairwise (fun a b=>g a<g b)):(isort lt l).Pairwise (fun a b=>f a<f b∨f a=f b∧g a<g b):=by
 unfold isort;have:∀ (l A:List α),l.Pairwise (fun a b=>g a<g b)→(∀ a∈A,∀ x∈l,g a<g x)→A.Pairwise (fun a b=>f a<f b∨f a=f b∧g a<g b)→(l.foldl (ins lt) A).Pairwise (fun a b=>f a<f b∨f a=f b∧g a<g b):=by
  intro l
  induction l with
  | nil=>intro A _ _ h;exact h
  | cons x r ih =>
   intro A hl hA h;obtain ⟨h1,h2⟩:=aMp.1 hl;rw [kO];refine ih _ h2 (fun a ha y hy => ?_) (aZp hlt x h (fun a ha=>hA a ha x (gA ..)))
   rcases fW.1 ((aSo lt A x).mem_iff.1 ha) with rfl | ha
   ·exact h1 y hy
   ·exact hA a ha y (Ch _ hy)
 exact this l [] hl (fun a ha=>by simp at ha) .nil
end
end
section
variable {j x y Ap Ah An Aw Ao Al:Int}{L M l:Lqq}{i base:Nat}

noncomputable abbrev aSn:Code:=sub (cd Tryz.f216) [1,0,0,1,0,0,1,0,0]
noncomputable abbrev bCm:Code:=sub (cd Tryz.f216) [1,0,0]
theorem cMb{r0:Bool}(A6:r0=(x != x)):FV Tp 168 [(pI x)] base (pB r0) []:=by
 subst A6;exact FV.fi func168 [] gn
theorem aBf(x:Int){base:Nat}:FV Tp 168 [.p (aB x)] base (pB false) []:=cMb (by simp)
theorem cMc(h0:x<y):FV Tp 116 [(pI x),(pI y)] base (pI (-1)) []:=FV.fi func116 [.c (pB false) [],.c (pB false) [],bF,bF,bT] (gc (bI h0) (gf (gf (gc (fk 0 (aBf y) rfl) (gc (fk 0 (aBf x) rfl) gn)))))
theorem cMd(h0:y≤x)(h1:y<x):FV Tp 116 [(pI x),(pI y)] base (pI 1) []:=FV.fi func116 [.c (pB false) [],.c (pB false) [],bF,bF,bF,bT] (gc (bI h1) (gc (aK h0) (gf (gf (gc (fk 0 (aBf y) rfl) (gc (fk 0 (aBf x) rfl) gn))))))
theorem cMe(h0:y≤x)(h1:x≤y):FV Tp 116 [(pI x),(pI y)] base (pI 0) []:=FV.fi func116 [.c (pB false) [],.c (pB false) [],bF,bF,bF,bF] (gc (aK h1) (gc (aK h0) (gf (gf (gc (fk 0 (aBf y) rfl) (gc (fk 0 (aBf x) rfl) gn))))))
def aDh(x y:Int):Int:=if x<y then -1 else if y<x then 1 else 0
theorem cMf(x y:Int){base:Nat}:FV Tp 116 [.p (aB x),.p (aB y)] base (pI (aDh x y)) []:=by
 unfold aDh
 by_cases h1:x<y
 ·rw [if_pos h1];exact cMc h1
 ·rw [if_neg h1]
  by_cases h2:y<x
  ·rw [if_pos h2];exact cMd (by omega) h2
  ·rw [if_neg h2];exact cMe (by omega) (by omega)
def ltK(f:Nat)(x y:List Int):Bool:=decide (aDh (x.getD f 0) (y.getD f 0)<0)
theorem aOl(f:Nat)(x y:List Int):ltK f x y=decide (x.getD f 0<y.getD f 0):=by
 unfold ltK aDh;rw [decide_eq_decide]
 split
 ·omega
 ·split <;> omega
theorem bCn{a0 a1 a2 b0 b1 b2 r0:Int}(A6:r0=(aDh a2 b2)):FV Tp 152 [(.p (.agg [(aB a0),(aB a1),(aB a2)])),(.p (.agg [(aB b0),(aB b1),(aB b2)]))] base (pI r0) []:=by
 subst A6;have k1:=fk 2 (cMf a2 b2) rfl;exact FV.fi func152 [k1.o] (gc k1 gn)
def pK(l:Lqq)(i Ln:Nat)(Lc:List PV):St:=⟨fr 53 [(0,(.own 0)),(1,(pI 0)),(2,(pI (l.length:Int))),(3,(.fn 152 [] [])),(8,(pI (i:Int)))],[some (.row 48 Ln Lc)]⟩
theorem bCo{Bm:Nat}{L'1:Lqq}(hl0:aD Tp 1 bCm (pK l 1 l.length (l.flatten.map aB)) (.exit 0) (pK l Bm L'1.length (L'1.flatten.map aB))):FMM Tp 216 [(.own 0),(pI 0),(pI (l.length:Int)),(.fn 152 [] [])] [some (.row 48 l.length (l.flatten.map aB))] (.tup []) [some (.row 48 L'1.length (L'1.flatten.map aB))]:=FMM.fi 1 gE func216 [hl0.k 3 (gZ [4,4,9,44])] (gc hl0.code (gt (inR 1) (by show _∧_;omega) gn))
def mJ(l:Lqq)(i:Nat)(j:Int)(Mn:Nat)(Mc:List PV):St:=⟨fr 53 [(0,(.own 0)),(1,(pI 0)),(2,(pI (l.length:Int))),(3,(.fn 152 [] [])),(8,(pI (i:Int))),(9,(pI j)),(12,(pI (i:Int))),(13,(pI (l.length:Int))),(14,(pB (decide ((i:Int)<(l.length:Int))))),(17,(pI (i:Int)))],[some (.row 48 Mn Mc)]⟩
theorem aZf{Qz:Int}{M'101:Lqq}{i':Nat}{L':Lqq}(h0:(i:Int)<(l.length:Int))(hl1:aD Tp 1 aSn (mJ l i (i:Int) L.length (L.flatten.map aB)) (.exit 2) (mJ l i Qz M'101.length (M'101.flatten.map aB)))(h2:gk i)(Ai:i'=(i+1))(D9:L'.length=M'101.length)(Ea:L'.flatten.map aB=(M'101.flatten.map aB)):aC Tp 1 bCm (pK l i L.length (L.flatten.map aB)) .normal (pK l i' L'.length (L'.flatten.map aB)):=by
 subst Ai;rw [D9,Ea];exact aC.fi (gZ [4,4,9,44]) [bT,hl1.k 5 (gZ ee)] (gc h2 (gc hl1.code (g0 h0)))
theorem aHg(h0:(l.length:Int)≤(i:Int)):aC Tp 1 bCm (pK l i L.length (L.flatten.map aB)) (.exit 0) (pK l i L.length (L.flatten.map aB)):=aC.fi (gZ [4,4,9,44]) [bF] (gc (aK h0) gn)
section
variable(h0:(0:Int)<j)(h1:M[j.toNat]? = some [Ap,Ah,An])(h2:0≤j)(h3:uni 3 M)(h4:inR (j-1))(h5:M[(j-1).toNat]? = some [Aw,Ao,Al])(h6:0≤(j-1))
include h0 h1 h2 h3 h4 h5 h6
theorem aZg{j':Int}{M':Lqq}(h7:(aDh An Al)<0)(h8:[(aB Aw),(aB Ao),(aB Al)].length=3∧(j.toNat*3)+3≤(M.flatten.map aB).length)(h9:0≤(j-1)∧(j-1)<(M.length:Int))(A8:[(aB Ap),(aB Ah),(aB An)].length=3∧((j-1).toNat*3)+3≤((M.flatten.map aB).take (j.toNat*3)++[(aB Aw),(aB Ao),(aB Al)]++(M.flatten.map aB).drop ((j.toNat*3)+3)).length)(Fl:j'=(j-1))(Uq:M'.length=M.length)(Ur:M'.flatten.map aB=(((M.flatten.map aB).take (j.toNat*3)++[(aB Aw),(aB Ao),(aB Al)]++(M.flatten.map aB).drop ((j.toNat*3)+3)).take ((j-1).toNat*3)++[(aB Ap),(aB Ah),(aB An)]++((M.flatten.map aB).take (j.toNat*3)++[(aB Aw),(aB Ao),(aB Al)]++(M.flatten.map aB).drop ((j.toNat*3)+3)).drop (((j-1).toNat*3)+3))):aC Tp 1 aSn (mJ l i j M.length (M.flatten.map aB)) .normal (mJ l i j' M'.length (M'.flatten.map aB)):=by
 subst Fl;rw [Uq,Ur];exact aC.fi (gZ ee) (rT 5++[.x (.agg [(aB Ap),(aB Ah),(aB An)])]++rT 5++[.x (.agg [(aB Aw),(aB Ao),(aB Al)]),bT,.c (pI (aDh An Al)) [],bT,bT,bT,.x (.agg [(aB Aw),(aB Ao),(aB Al)]),.x (.agg [(aB Ap),(aB Ah),(aB An)])]) (gc h4 (gc A8 (gc h9 (gc h8 (gc (cG (i:=j) h2 h1) (gc (mH (i:=j.toNat) h3 h1) (gc (nH (i:=j.toNat) h3 h1) (gc (cG (i:=j) h2 h1) (gc (mH (i:=(j-1).toNat) h3 h5) (gc (nH (i:=(j-1).toNat) h3 h5) (gc (cG (i:=(j-1)) h6 h5) (Aq h4 (gc (bI h7) (Aq (bI h0) (gt (FC Tp 152 [(.p (.agg [(aB Ap),(aB Ah),(aB An)])),(.p (.agg [(aB Aw),(aB Ao),(aB Al)]))] [] 1 (pI (aDh An Al)) []) (FV.fc (bCn rfl) rfl) (gc (bI h0) (gc (mH (i:=(j-1).toNat) h3 h5) (gc (nH (i:=(j-1).toNat) h3 h5) (gc (bI h0) (gc (cG (i:=(j-1)) h6 h5) (gc (bI h0) (gc h4 (Ak (bI h0) (gc (mH (i:=j.toNat) h3 h1) (gc (nH (i:=j.toNat) h3 h1) (gc (bI h0) (gc (cG (i:=j) h2 h1) (Ak (bI h0) (g0 h0)))))))))))))))))))))))))))))
theorem aZh(h7:(0:Int)≤(aDh An Al)):aC Tp 1 aSn (mJ l i j M.length (M.flatten.map aB)) (.exit 2) (mJ l i j M.length (M.flatten.map aB)):=aC.fi (gZ ee) (rT 5++[.x (.agg [(aB Ap),(aB Ah),(aB An)])]++rT 5++[.x (.agg [(aB Aw),(aB Ao),(aB Al)]),bT,.c (pI (aDh An Al)) [],bT,bT,bF]) (gc (aK h7) (Aq (bI h0) (gt (FC Tp 152 [(.p (.agg [(aB Ap),(aB Ah),(aB An)])),(.p (.agg [(aB Aw),(aB Ao),(aB Al)]))] [] 1 (pI (aDh An Al)) []) (FV.fc (bCn rfl) rfl) (gc (bI h0) (gc (mH (i:=(j-1).toNat) h3 h5) (gc (nH (i:=(j-1).toNat) h3 h5) (gc (bI h0) (gc (cG (i:=(j-1)) h6 h5) (gc (bI h0) (gc h4 (Ak (bI h0) (gc (mH (i:=j.toNat) h3 h1) (gc (nH (i:=j.toNat) h3 h1) (gc (bI h0) (gc (cG (i:=j) h2 h1) (Ak (bI h0) (g0 h0)))))))))))))))))
end
theorem aZi(h0:j≤0):aC Tp 1 aSn (mJ l i j M.length (M.flatten.map aB)) (.exit 2) (mJ l i j M.length (M.flatten.map aB)):=aC.fi (gZ ee) (rF 13) (E1 (aK h0) (B0 (aK h0) gn))
theorem cMg(l:Lqq)(i:Nat)(A R:Lqq)(hA:A.length<1000)(hi:i=A.length)(x0 x1 x2:Int)(hu:uni 3 (A++[x0,x1,x2]::R)):∀ m,m≤A.length→(∀ t (h:t<A.length),m≤t→ltK 2 [x0,x1,x2] A[t]=true) →
  aD Tp 1 aSn (mJ l i (m:Int) (mv A [x0,x1,x2] m R).length ((mv A [x0,x1,x2] m R).flatten.map aB)) (.exit 2) (mJ l i (nD (ltK 2) [x0,x1,x2] A:Int) (ins (ltK 2) A [x0,x1,x2]++R).length ((ins (ltK 2) A [x0,x1,x2]++R).flatten.map aB)):=by
 have huA:∀ y∈A,y.length=3:=fun y hy=>hu y (pN _ hy)
 have huM:∀ m,uni 3 (mv A [x0,x1,x2] m R):=fun m y hy=>by
  unfold mv at hy
  rcases jK.1 hy with h | h
  ·exact huA y (List.mem_of_mem_take h)
  ·rcases fW.1 h with rfl | h
   ·rfl
   ·rcases jK.1 h with h | h
    ·exact huA y (List.mem_of_mem_drop h)
    ·exact hu y (aCy _ (Ch _ h))
 intro m
 induction m with
 | zero =>
  intro _ hlt;have e:=aLf (ltK 2) [x0,x1,x2] A 0 (Nat.zero_le _) hlt (.inl rfl);rw [← bUx,e];exact .exit (aZi (by simp)) (by simp)
 | succ m ih =>
  intro hm hlt;have hy:=Ay (show m<A.length by omega)
  generalize A[m]=y at hy
  obtain ⟨y0,y1,y2,rfl⟩:=Dd (huA y (Bl hy));have e1:((m+1:Nat):Int).toNat=m+1:=by omega
  have e2:(((m+1:Nat):Int)-1).toNat=m:=by omega
  have hl:=aBg A [x0,x1,x2] (m+1) R hm;have g1:(mv A [x0,x1,x2] (m+1) R)[m+1]? = some [x0,x1,x2]:=by rw [aOm A _ _ R hm];simp
  have g2:(mv A [x0,x1,x2] (m+1) R)[m]? = some [y0,y1,y2]:=by rw [aOm A _ _ R hm,if_pos (by omega)];exact hy
  by_cases hc:aDh x2 y2<0
  ·have st:=zA (k:=3) (i:=m+1) (x:=[y0,y1,y2]) (huM (m+1)) (by omega) rfl
   have Io:uni 3 ((mv A [x0,x1,x2] (m+1) R).set (m+1) [y0,y1,y2]):=bAz (huM _) rfl;have st2:=zA (k:=3) (i:=m) (x:=[x0,x1,x2]) Io (by rw [oP];omega) rfl
   have gm:((mv A [x0,x1,x2] (m+1) R).set (m+1) [y0,y1,y2])[m]? = some [y0,y1,y2]:=by rw [List.getElem?_set,if_neg (by omega)];exact g2
   have hsw:=cBq A [x0,x1,x2] (m+1) R hm (by omega) [y0,y1,y2] (by simpa using hy)
   rw [Nat.add_sub_cancel] at hsw
   simp only [iB,List.map_nil] at st st2
   refine .step (aZg (j:=((m+1:Nat):Int)) (j':=(m:Int)) (M':=mv A [x0,x1,x2] m R) (by omega) (by rw [e1];exact g1) (by omega) (huM _) (by show _∧_;omega) (by rw [e2];exact g2) (by omega) hc ⟨rfl,by rw [e1];exact nH (huM _) g1⟩ ⟨by omega,by omega⟩ ⟨rfl,?_⟩ (by omega) (by rw [hl,aBg A _ _ R (by omega)]) ?_) (ih (by omega) fun t ht h1 => ?_)
   ·rw [e1,e2,st];exact nH Io gm
   ·rw [e1,e2,st,st2,hsw]
   ·by_cases h2:t=m
    ·subst h2
     have h3:=hy;rw [Ay ht,Option.some.injEq] at h3
     rw [h3];simpa [ltK] using hc
    ·exact hlt t ht (by omega)
  ·have e:=aLf (ltK 2) [x0,x1,x2] A (m+1) hm hlt (.inr ⟨[y0,y1,y2],by simpa using hy,by simpa [ltK] using hc⟩)
   rw [← bUx,e];exact .exit (aZh (by omega) (by rw [e1];exact g1) (by omega) (huM _) (by show _∧_;omega) (by rw [e2];exact g2) (by omega) (by omega)) (by simp)
theorem cBm(l:Lqq)(hu:uni 3 l)(hn:l.length<1000):FMM Tp 216 [.own 0,.p (aB 0),.p (aB (l.length:Int)),.fn 152 [] []] [some (.row 48 l.length (l.flatten.map aB))] (.tup []) [some (.row 48 (isort (ltK 2) l).length ((isort (ltK 2) l).flatten.map aB))]:=by
 have hui:∀ i,uni 3 (isort (ltK 2) (l.take i)):=fun i y hy=>hu y (List.mem_of_mem_take ((vX (ltK 2) _ y).1 hy))
 have key:∀ d i,i+d=l.length→1≤i→aD Tp 1 bCm (pK l i (isort (ltK 2) (l.take i)++l.drop i).length ((isort (ltK 2) (l.take i)++l.drop i).flatten.map aB)) (.exit 0) (pK l l.length (isort (ltK 2) l).length ((isort (ltK 2) l).flatten.map aB)):=by
  intro d
  induction d with
  | zero =>
   intro i hi _;obtain rfl:i=l.length:=by omega
   rw [List.take_length,List.drop_length,List.append_nil];exact .exit (aHg (by omega)) (by simp)
  | succ d ih =>
   intro i hi h1;have hlt:i<l.length:=by omega
   have hx:=hu l[i] (fP hlt);generalize hxx:l[i]=x at hx
   obtain ⟨x0,x1,x2,rfl⟩:=Dd hx;have hAl:(isort (ltK 2) (l.take i)).length=i:=by rw [zN,oD];omega
   have hdr:l.drop i=[x0,x1,x2]::l.drop (i+1):=by rw [aMo hlt,hxx]
   have hin:=cMg l i (isort (ltK 2) (l.take i)) (l.drop (i+1)) (by omega) hAl.symm x0 x1 x2 (by
    intro y hy
    rcases jK.1 hy with h | h
    ·exact hui i y h
    ·rcases fW.1 h with rfl | h
     ·rfl
     ·exact hu y (List.mem_of_mem_drop h)) i (by omega) (fun t ht h2=>by omega)
   have hmv:mv (isort (ltK 2) (l.take i)) [x0,x1,x2] i (l.drop (i+1))=isort (ltK 2) (l.take i)++l.drop i:=by
    have:=cMi (isort (ltK 2) (l.take i)) [x0,x1,x2] (l.drop (i+1));rw [hAl] at this;rw [this,hdr]
   have hsn:=aZm (ltK 2) l i hlt;rw [hxx] at hsn
   rw [hmv,← hsn] at hin
   exact .step (aZf (by omega) hin (by show _∧_;omega) rfl rfl rfl) (ih (i+1) (by omega) (by omega))
 rcases Nat.eq_zero_or_pos l.length with h0 | hp
 ·have:l=[]:=aCw h0
  subst this;exact bCo (aD.exit (aHg (l:=[]) (L:=[]) (i:=1) (by simp)) (by simp))
 ·have:=key (l.length-1) 1 (by omega) (by omega)
  have e1:isort (ltK 2) (l.take 1)++l.drop 1=l:=by
   cases l with
   | nil=>simp at hp
   | cons x r=>simp [isort,ins,nD]
  rw [e1] at this
  exact bCo this
def aDt(l:Lqq):St:=⟨fr 63 [(0,(.own 0)),(1,(pI (l.length:Int))),(2,(.fn 152 [] [])),(6,(pI 20)),(7,(pI 0)),(8,(pI 20))],[some (.row 48 l.length (l.flatten.map aB))]⟩
def aDu(l:Lqq):St:=⟨fr 63 [(0,(.own 0)),(1,(pI (l.length:Int))),(2,(.fn 152 [] [])),(6,(pI 20)),(7,(pI 0)),(8,(pI 20))],[some (.row 48 ((isort (ltK 2) l).length) ((isort (ltK 2) l).flatten.map aB))]⟩
theorem cBn(hl0:aD Tp 1 (sub (cd Tryz.f188) [1,1,0,0,0]) (aDt l) (.exit 0) (aDt l))(h1:uni 3 l)(h2:l.length<1000)(Dl:aD Tp 1 (sub (cd Tryz.f188) [1,1,1,1,0,0]) (aDu l) (.exit 2) (aDu l)):FMM Tp 188 [(.own 0),(pI (l.length:Int)),(.fn 152 [] [])] [some (.row 48 l.length (l.flatten.map aB))] (.tup []) [some (.row 48 ((isort (ltK 2) l).length) ((isort (ltK 2) l).flatten.map aB))]:=have k1:=mq [0] 1 (cBm l h1 h2);FMM.fi 1 gE func188 [hl0.k 6 (gZ [3,3,10,13,27,1,43,1,60,1]),k1.o,Dl.k 1 (gZ [3,3,10,53])] (gc Dl.code (gc k1 (gc hl0.code gn)))
theorem aZj(h0:(l.length:Int)<20):aC Tp 1 (sub (cd Tryz.f188) [1,1,0,0,0]) (aDt l) (.exit 0) (aDt l):=aC.fi (gZ [3,3,10,13,27,1,43,1,60,1]) [bF] (gc (kZ h0) gn)
theorem aZk(h0:(l.length:Int)≤20):aC Tp 1 (sub (cd Tryz.f188) [1,1,1,1,0,0]) (aDu l) (.exit 2) (aDu l):=aC.fi (gZ [3,3,10,53]) [bF] (gc (aK h0) gn)
theorem cBo(l:Lqq)(hu:uni 3 l)(hn:l.length<20):FMM Tp 188 [.own 0,.p (aB (l.length:Int)),.fn 152 [] []] [some (.row 48 l.length (l.flatten.map aB))] (.tup []) [some (.row 48 (isort (ltK 2) l).length ((isort (ltK 2) l).flatten.map aB))] := 
 cBn (aD.exit (aZj (by omega)) (by simp)) hu (by omega) (aD.exit (aZk (by omega)) (by simp))
theorem cBp(h0:uni 3 l)(h1:l.length<20):FMM Tp 151 [(.own 0),(.fn 152 [] [])] [some (.row 48 l.length (l.flatten.map aB))] (.tup []) [some (.row 48 ((isort (ltK 2) l).length) ((isort (ltK 2) l).flatten.map aB))]:=have k1:=mq [0] 1 (cBo l h0 h1);FMM.fi 1 gE func151 [k1.o] (gc k1 gn)
theorem cMh(l:Lqq)(hu:uni 3 l)(hn:l.length<20):FMM Tp 151 [.own 0,.fn 152 [] []] [some (.row 48 l.length (l.flatten.map aB))] (.tup []) [some (.row 48 (isort (ltK 2) l).length ((isort (ltK 2) l).flatten.map aB))]:=cBp hu hn
end
section
variable {r0 Gr:Bool}{n102 Aj Cr Aa Ab Ap Ah An Aw Ao Al:Int}{t t' Er T104:Lqb}{L p L' F7 Gy:Lqq}{l q u:List Int}{i j i' j' Bm base:Nat}{ov:PV}
variable {dl:Int}{sk dc:Lqq}

noncomputable abbrev aHd:Code:=sub (cd Tryz.f86) [1,1,1,1,0,1,0,0]
noncomputable abbrev aOj:Code:=sub (cd Tryz.f86) [1,1,0,1,0,0]
noncomputable abbrev aBe:Code:=sub (cd Tryz.f129) [1,0,1,0,0]
noncomputable abbrev aHe:Code:=pS (cd Tryz.f21) 5 [0,1,0,0]
theorem aOk:((0:Int) != 0)=false:=by first | decide | simp
theorem aHf{cs:List PV}{a b:Nat}{v x:PV}(hn:a≠b)(h:cs[b]? = some x):(cs.set a v)[b]? = some x:=by rw [bRj hn];exact h
def ocB(q:List Int)(n:Int):Bool:=q.contains n
abbrev cLr(dl:Int)(sk dc:Lqq)(ov:PV)(R:Lqq)(T T2:Lqb):Prop:=FMM Tp 86 [uM dl sk dc,aAx] (dO dl sk dc ov T) (.own 7) (dO dl sk dc ov T2++[some (.row 48 R.length (R.flatten.map aB))])
def qK(dl:Int)(sk dc:Lqq)(ov:PV)(pn:Nat)(pc:List PV)(qn:Nat)(qc:List PV)(i:Nat)(te:List (Value × PV))(tk:Nat):St:=⟨fr 87 [(0,(.rp (aZ dl sk dc) 0)),(3,(.ptr 7 0)),(4,(.p cC)),(5,(.own 8)),(6,(.own 9)),(16,(.p (fS sk))),(17,(pI (sk.length:Int))),(18,(pI (i:Int)))],[some (Gp dl sk dc),some (.box 33 [(.p ov)]),some Hi,some (.mp te tk),some (.box 207 [(.mp 3)]),some (Gq dl sk dc),some It,some Hi,some (.row 48 pn pc),some (.row 48 qn qc)]⟩
def lL(dl:Int)(sk dc:Lqq)(ov:PV)(F7 Gy:Lqq)(Er:Lqb)(Ln:Nat)(Lc:List PV)(j:Nat):St:=⟨fr 87 [(4,(.p cC)),(5,(.own 7)),(6,(.own 8)),(47,(pI ((isort (ltK 2) F7).length:Int))),(48,(pI (j:Int)))],[some (Gp dl sk dc),some (.box 33 [(.p ov)]),some Hi,some (.mp (aQ Er) Er.length),some (.box 207 [(.mp 3)]),some (Gq dl sk dc),some It,some (.row 48 Ln Lc),some (.row 48 Gy.length (Gy.flatten.map aB))]⟩
theorem cLs{T:Lqb}{Dc:Nat}{L'4:Lqq}{Yt Om:Nat}{Fh:List PV}(hl0:aD Tp 7 aOj (qK dl sk dc ov 0 [] 0 [] 0 (aQ T) T.length) (.exit 0) (qK dl sk dc ov F7.length (F7.flatten.map aB) Gy.length (Gy.flatten.map aB) Dc (aQ Er) Er.length))(h1:uni 3 F7)(h2:F7.length<20)(Dl:aD Tp 7 aHd (lL dl sk dc ov F7 Gy Er ((isort (ltK 2) F7).length) ((isort (ltK 2) F7).flatten.map aB) 0) (.exit 2) (lL dl sk dc ov F7 Gy Er L'4.length (L'4.flatten.map aB) Yt))(h4:(Gy.flatten.map aB).length=Gy.length*3∧L'4.length+Gy.length≤1000000)(N2:Om=(L'4.length+Gy.length))(Es:Fh=((L'4.flatten.map aB)++(Gy.flatten.map aB))):FMM Tp 86 [(.rp (aZ dl sk dc) 0),aAx] (dO dl sk dc ov T) (.own 7) [some (Gp dl sk dc),some (.box 33 [(.p ov)]),some Hi,some (.mp (aQ Er) Er.length),some (.box 207 [(.mp 3)]),some (Gq dl sk dc),some It,some (.row 48 Om Fh)]:=by
 subst N2 Es;have k1:=mq [8] 10 (cMh F7 h1 h2);exact FMM.fi 7 ⟨[],[9],[],[]⟩ func86 [.x (fS sk),hl0.k 1 (gN bz [7,8,9] [(5,48),(6,48)]),k1.o,Dl.k 4 (gI eh [8,9])] (gc h4 (gc Dl.code (gc k1 (gc hl0.code (gr (fS sk) gn)))))
section
variable(h0:(i:Int)<(sk.length:Int))(h1:sk[i]? = some [Aa,Ab])(h2:uni 2 sk)(h3:aIi dl sk dc ov [Aa,Ab] n102 Gr t T104)
include h0 h1 h2 h3
theorem bNt{q q':Lqq}(h4:Gr=true)(h5:[(aB Aa),(aB (-1)),(aB 0)].length=1*3∧q.length+1≤1000000)(h6:gk i)(J5:q'.length=(q.length+1))(J6:q'.flatten.map aB=((q.flatten.map aB)++[(aB Aa),(aB (-1)),(aB 0)]))(Ai:i'=(i+1))(Bh:aQ t'=(aQ T104))(Bi:t'.length=T104.length):aC Tp 7 aOj (qK dl sk dc ov p.length (p.flatten.map aB) q.length (q.flatten.map aB) i (aQ t) t.length) .normal (qK dl sk dc ov p.length (p.flatten.map aB) q'.length (q'.flatten.map aB) i' (aQ t') t'.length):=by
 subst Ai;have k1:=mq fa 11 h3;rw [J5,J6,Bh,Bi];exact aC.fi (gI bz [7,8,12]) [bT,.x (.agg [(aB Aa),(aB Ab)]),k1.o,bT] (gc h6 (gc h5 (gt ([(aB Aa),(aB (-1)),(aB 0)].length=3) (by first | decide | simp) (gc h4 (gc k1 (gfl h2 h1 (g0 h0)))))))
theorem bNu{q p':Lqq}(h4:Gr=false)(h5:[(aB Aa),(aB 0),(aB n102)].length=1*3∧p.length+1≤1000000)(h6:gk i)(Un:p'.length=(p.length+1))(Uo:p'.flatten.map aB=((p.flatten.map aB)++[(aB Aa),(aB 0),(aB n102)]))(Ai:i'=(i+1))(Bh:aQ t'=(aQ T104))(Bi:t'.length=T104.length):aC Tp 7 aOj (qK dl sk dc ov p.length (p.flatten.map aB) q.length (q.flatten.map aB) i (aQ t) t.length) .normal (qK dl sk dc ov p'.length (p'.flatten.map aB) q.length (q.flatten.map aB) i' (aQ t') t'.length):=by
 subst Ai;have k1:=mq fa 11 h3;rw [Un,Uo,Bh,Bi];exact aC.fi (gI bz [7,12,9]) [bT,.x (.agg [(aB Aa),(aB Ab)]),k1.o,bF] (gc h6 (gc h5 (gt ([(aB Aa),(aB 0),(aB n102)].length=3) (by first | decide | simp) (gc h4 (gc k1 (gfl h2 h1 (g0 h0)))))))
end
theorem bNv{q:Lqq}(h0:(sk.length:Int)≤(i:Int)):aC Tp 7 aOj (qK dl sk dc ov p.length (p.flatten.map aB) q.length (q.flatten.map aB) i (aQ t) t.length) (.exit 0) (qK dl sk dc ov p.length (p.flatten.map aB) q.length (q.flatten.map aB) i (aQ t) t.length):=aC.fi (gI bz [7,8,9]) [bF] (gc (aK h0) gn)
section
variable(h0:(j:Int)<((isort (ltK 2) F7).length:Int))(h1:inR (((j+1):Nat):Int))(h2:L[j]? = some [Ap,Ah,An])(h3:((j*3)+1)<(L.flatten.map aB).length)
include h0 h1 h2 h3
theorem bNw(h4:(0:Int)<(j:Int))(h5:uni 3 L)(h6:inR ((j:Int)-1))(h7:L[((j:Int)-1).toNat]? = some [Aw,Ao,Al])(h8:0≤((j:Int)-1))(h9:An=Al)(A8:((j*3)+1)<((L.flatten.map aB).set ((j*3)+1) (aB (((j+1):Nat):Int))).length)(D9:L'.length=L.length)(Ea:L'.flatten.map aB=(((L.flatten.map aB).set ((j*3)+1) (aB (((j+1):Nat):Int))).set ((j*3)+1) (aB Ao)))(Fl:j'=(j+1)):aC Tp 7 aHd (lL dl sk dc ov F7 Gy Er L.length (L.flatten.map aB) j) .normal (lL dl sk dc ov F7 Gy Er L'.length (L'.flatten.map aB) j'):=by
 subst Fl;rw [D9,Ea];exact aC.fi (gI eh [7,8]) (rT 6++[.x (aB An)]++rT 6++[.x (aB Al),bT,bT,bT,.x (aB Ao)]) (gc h1 (gc A8 (gc (cG (i:=(j:Int)) (Bp _) h2) (gt (((L.flatten.map aB).set ((j*3)+1) (aB (((j+1):Nat):Int)))[((((j:Int)-1).toNat*3)+1)]? = some (aB Ao)) (aHf (by omega) (bE (i:=((j:Int)-1).toNat) (f:=1) h5 h7 rfl)) (gc (cG (i:=((j:Int)-1)) h8 h7) (gc h6 (gc (bX h9) (Aq (bI h4) (gt (((L.flatten.map aB).set ((j*3)+1) (aB (((j+1):Nat):Int)))[((((j:Int)-1).toNat*3)+2)]? = some (aB Al)) (aHf (by omega) (bE (i:=((j:Int)-1).toNat) (f:=2) h5 h7 rfl)) (Aq (bI h4) (gc (cG (i:=((j:Int)-1)) h8 h7) (gc (bI h4) (gc h6 (Ak (bI h4) (gt (((L.flatten.map aB).set ((j*3)+1) (aB (((j+1):Nat):Int)))[((j*3)+2)]? = some (aB An)) (aHf (by omega) (bE (i:=j) (f:=2) h5 h2 rfl)) (Aq (bI h4) (gc (cG (i:=(j:Int)) (Bp _) h2) (Ak (bI h4) (gc h3 (gc (cG (i:=(j:Int)) (Bp _) h2) (gc h1 (g0 h0))))))))))))))))))))))
theorem bNx(h4:(0:Int)<(j:Int))(h5:uni 3 L)(h6:inR ((j:Int)-1))(h7:L[((j:Int)-1).toNat]? = some [Aw,Ao,Al])(h8:0≤((j:Int)-1))(h9:An≠Al)(D9:L'.length=L.length)(Ea:L'.flatten.map aB=((L.flatten.map aB).set ((j*3)+1) (aB (((j+1):Nat):Int))))(Fl:j'=(j+1)):aC Tp 7 aHd (lL dl sk dc ov F7 Gy Er L.length (L.flatten.map aB) j) .normal (lL dl sk dc ov F7 Gy Er L'.length (L'.flatten.map aB) j'):=by
 subst Fl;rw [D9,Ea];exact aC.fi (gI eh [7,8]) (rT 6++[.x (aB An)]++rT 6++[.x (aB Al),bT,bT,bF]) (gc h1 (gc (aS h9) (Aq (bI h4) (gt (((L.flatten.map aB).set ((j*3)+1) (aB (((j+1):Nat):Int)))[((((j:Int)-1).toNat*3)+2)]? = some (aB Al)) (aHf (by omega) (bE (i:=((j:Int)-1).toNat) (f:=2) h5 h7 rfl)) (Aq (bI h4) (gc (cG (i:=((j:Int)-1)) h8 h7) (gc (bI h4) (gc h6 (Ak (bI h4) (gt (((L.flatten.map aB).set ((j*3)+1) (aB (((j+1):Nat):Int)))[((j*3)+2)]? = some (aB An)) (aHf (by omega) (bE (i:=j) (f:=2) h5 h2 rfl)) (Aq (bI h4) (gc (cG (i:=(j:Int)) (Bp _) h2) (Ak (bI h4) (gc h3 (gc (cG (i:=(j:Int)) (Bp _) h2) (gc h1 (g0 h0)))))))))))))))))
theorem bNy(h4:(j:Int)≤0)(D9:L'.length=L.length)(Ea:L'.flatten.map aB=((L.flatten.map aB).set ((j*3)+1) (aB (((j+1):Nat):Int))))(Fl:j'=(j+1)):aC Tp 7 aHd (lL dl sk dc ov F7 Gy Er L.length (L.flatten.map aB) j) .normal (lL dl sk dc ov F7 Gy Er L'.length (L'.flatten.map aB) j'):=by
 subst Fl;rw [D9,Ea];exact aC.fi (gI eh [7,8]) ([bT]++rF 13) (gc h1 (E1 (aK h4) (B0 (aK h4) (gc h3 (gc (cG (i:=(j:Int)) (Bp _) h2) (gc h1 (g0 h0)))))))
end
theorem bNz(h0:((isort (ltK 2) F7).length:Int)≤(j:Int)):aC Tp 7 aHd (lL dl sk dc ov F7 Gy Er L.length (L.flatten.map aB) j) (.exit 2) (lL dl sk dc ov F7 Gy Er L.length (L.flatten.map aB) j):=aC.fi (gI eh [7,8]) [bF] (gc (aK h0) gn)
theorem cLt{dl:Int}{sk dc R0:Lqq}{T1:Lqb}(h0:bO dl sk dc)(h1:cLr dl (aA sk) (aA dc) cC R0 ([]:Lqb) T1):FV Tp 28 [(.p (.agg (bC dl sk dc)))] base (.tup [(.own base),(pI 0)]) [(base,(.row 48 R0.length (R0.flatten.map aB)))]:=have k1:=fk 1 (jD dl sk dc h0) rfl;have k2:=mN [] 1 (aNr (dl:=dl) (sk:=(aA sk)) (dc:=(aA dc)));have k3:=mq [1,2,3,4,5,6,7] 8 h1;FV.fi func28 [k1.o,bF,k2.o,k3.o] (gc k3 (gc k2 (gc aOk (gc k1 gn))))
theorem cLu{n:Int}(h0:q.length≤1000)(A6:r0=(q.contains n)):FV Tp 85 [(pI n),(.rp [(aF q)] 0)] base (pB r0) []:=by
 subst A6;have k1:=fk 0 (sH q n h0) rfl;exact FV.fi func85 [.x (aF q),k1.o] (gc k1 (gr (aF q) gn))
theorem cLv(n:Int)(q:List Int)(hq:q.length≤1000){base:Nat}:FV Tp 85 [.p (aB n),.rp [aF q] 0] base (pB (ocB q n)) []:=cLu hq rfl
theorem cBg{x:Int}(h0:q.length≤1000)(A6:r0=(!(ocB q x))):FMM Tp 150 [(pI x),(.ptr 0 0)] [some (.box 96 [(.fn 85 [] [(.rp [(aF q)] 0)])])] (pB r0) [some (.box 96 [(.fn 85 [] [(.rp [(aF q)] 0)])])]:=by
 subst A6;exact FMM.fi 1 gE func150 [.c (pB (ocB q x)) []] (gc (fk 1 (cLv x q h0) rfl) gn)
theorem bCl(x:Int)(q:List Int)(he:q.length≤1000):FMM Tp 150 [(pI x),.ptr 0 0] [some (.box 96 [(.fn 85 [] [(.rp [(aF q)] 0)])])] (pB (!(ocB q x))) [some (.box 96 [(.fn 85 [] [(.rp [(aF q)] 0)])])]:=cBg he rfl
def jH(l q:List Int)(i:Nat):St:=⟨fr 19 [(0,(.p (aF l))),(1,(.fn 150 [] [(.ptr 0 0)])),(7,(pI (l.length:Int))),(8,(pI (i:Int)))],[some (.box 96 [(.fn 85 [] [(.rp [(aF q)] 0)])])]⟩
theorem cBh(hl0:aD Tp 1 aBe (jH l q 0) (.exit 0) (jH l q Bm)):FMM Tp 129 [(.p (aF l)),(.fn 150 [] [(.ptr 0 0)])] [some (.box 96 [(.fn 85 [] [(.rp [(aF q)] 0)])])] (pI (-1)) [some (.box 96 [(.fn 85 [] [(.rp [(aF q)] 0)])])]:=FMM.fi 1 gE func129 [hl0.k 6 (gZ ga)] (gc hl0.code gn)
theorem cBi(hl0:aD Tp 1 aBe (jH l q 0) .ret (bQ (jH l q Bm) [(4,(pI (Bm:Int)))])):FMM Tp 129 [(.p (aF l)),(.fn 150 [] [(.ptr 0 0)])] [some (.box 96 [(.fn 85 [] [(.rp [(aF q)] 0)])])] (pI (Bm:Int)) [some (.box 96 [(.fn 85 [] [(.rp [(aF q)] 0)])])]:=FMM.fi 1 gE func129 [hl0.k 6 (gZ ga)] (gc hl0.code gn)
section
variable(h0:(i:Int)<(l.length:Int))(h1:l[i]? = some Aj)(h2:q.length≤1000)
include h0 h1 h2
theorem aZb(h3:(ocB q Aj)=false):aC Tp 1 aBe (jH l q i) .ret (bQ (jH l q i) [(4,(pI (i:Int)))]):=have k1:=mq [0] 1 (bCl Aj q h2);aC.fi (gZ fm) [bT,.x (aB Aj),k1.o,bT] (gc (bN h3) (gc k1 (gc (atm aB h1) (gc (ixn aB h1) (g0 h0)))))
theorem aZc(h3:(ocB q Aj)=true)(h4:gk i)(Ai:i'=(i+1)):aC Tp 1 aBe (jH l q i) .normal (jH l q i'):=by
 subst Ai;have k1:=mq [0] 1 (bCl Aj q h2);exact aC.fi (gZ ga) [bT,.x (aB Aj),k1.o,bF] (gc h4 (gc (aR h3) (gc k1 (gc (atm aB h1) (gc (ixn aB h1) (g0 h0))))))
end
theorem aZd(h0:(l.length:Int)≤(i:Int)):aC Tp 1 aBe (jH l q i) (.exit 0) (jH l q i):=aC.fi (gZ ga) [bF] (gc (aK h0) gn)
theorem cBj(l q:List Int)(hl:l.length≤1000)(he:∀ x∈l,q.length≤1000):FMM Tp 129 [.p (aF l),(.fn 150 [] [(.ptr 0 0)])] [some (.box 96 [(.fn 85 [] [(.rp [(aF q)] 0)])])] (pI (bJ (fun x => !(ocB q x)) l)) [some (.box 96 [(.fn 85 [] [(.rp [(aF q)] 0)])])]:=by
 rcases aD.find (P:=Tp) (k:=1) (b:=aBe) (fun i=>jH l q i) (fun i _=>bQ (jH l q i) [(4,.p (aB (i:Int)))]) (jH l q l.length) .ret (.exit 0) (by simp) (by simp) (fun x => !(ocB q x)) l
  (fun i x hx hp=>by exact aZc (by have:=aM hx;omega) hx (he _ (Bl hx)) (by simpa using hp) (aI (by have:=aM hx;omega)) rfl)
  (fun i x hx hp=>by exact aZb (by have:=aM hx;omega) hx (he _ (Bl hx)) (by simpa using hp))
  (aZd (l:=l) (i:=l.length) (by omega)) with ⟨i,x,h1,h2,h3,h4⟩ | ⟨h1,h2,h3⟩
 ·rw [eF h2];exact cBi h4
 ·rw [gC h1];exact cBh h3
theorem cBk(h0:l.length≤1000)(h1:∀ x∈l,q.length≤1000)(A6:r0=(decide ((bJ (fun x => !(ocB q x)) l) ≥ 0))):FMM Tp 149 [(.p (aF l)),(.fn 150 [] [(.ptr 0 0)])] [some (.box 96 [(.fn 85 [] [(.rp [(aF q)] 0)])])] (pB r0) [some (.box 96 [(.fn 85 [] [(.rp [(aF q)] 0)])])]:=by
 subst A6;have k1:=mq [0] 1 (cBj l q h0 h1);exact FMM.fi 1 gE func149 [k1.o] (gc k1 gn)
theorem cBl(l q:List Int)(hl:l.length≤1000)(he:∀ x∈l,q.length≤1000):FMM Tp 149 [.p (aF l),(.fn 150 [] [(.ptr 0 0)])] [some (.box 96 [(.fn 85 [] [(.rp [(aF q)] 0)])])] (pB (l.any (fun x => !(ocB q x)))) [some (.box 96 [(.fn 85 [] [(.rp [(aF q)] 0)])])]:=cBk hl he (mP _ _).symm
theorem cLw(h0:l.length≤1000)(h1:∀ x∈l,q.length≤1000)(A6:r0=(!(l.any (fun x => !(ocB q x))))):FV Tp 84 [(.p (aF l)),(.fn 85 [] [(.rp [(aF q)] 0)])] base (pB r0) []:=by
 subst A6;have k1:=mq [0] 1 (cBl l q h0 h1);exact FV.fi func84 [k1.o] (gc k1 gn)
theorem aZe(l q:List Int)(hl:l.length≤1000)(he:∀ x∈l,q.length≤1000){base:Nat}:FV Tp 84 [.p (aF l),(.fn 85 [] [(.rp [(aF q)] 0)])] base (pB (l.all (ocB q))) []:=cLw hl he (by rw [List.all_eq_not_any_not])
def iG(dl:Int)(sk dc:Lqq)(u:List Int)(i:Int):St:=⟨fr 45 [(1,(.p (aF u))),(6,(.rp (aZ dl (aA sk) (aA dc)) 0)),(9,(pI i))],[]⟩
section
variable(h0:bO dl sk dc)(h1:bP (aA dc))(h2:u.length≤1000)(h3:∀ x∈u,(aJ dl (aA dc)).length≤1000)
include h0 h1 h2 h3
theorem cLx(h4:(u.all (ocB (aJ dl (aA dc))))=false):FV Tp 21 [(.p (.agg (bC dl sk dc))),(.p (aF u))] base (.tup [(.p cC),(pI 1)]) []:=have k1:=fk 1 (jD dl sk dc h0) rfl;have k2:=fk 1 (pZ (dl:=dl) (sk:=(aA sk)) (dc:=(aA dc)) h1) rfl;have k3:=fk 1 (aZe u (aJ dl (aA dc)) h2 h3) rfl;FV.fi func21 [k1.o,bF,k2.o,.g 2 ⟨[],[0],[1,2],[]⟩,k3.o,bT] (gc (bN h4) (gc k3 (gc k2 (gc aOk (gc k1 gn)))))
theorem cLy{Bm:Int}{R1:Lqq}{T2:Lqb}(h4:(u.all (ocB (aJ dl (aA dc))))=true)(Dp:aD Tp 0 aHe (iG dl sk dc u 1) (.exit 0) (iG dl sk dc u Bm))(h6:cLr dl (aA sk) (aA dc) (aF u) R1 ([]:Lqb) T2):FV Tp 21 [(.p (.agg (bC dl sk dc))),(.p (aF u))] base (.tup [(.own base),(pI 0)]) [(base,(.row 48 R1.length (R1.flatten.map aB)))]:=have k1:=fk 1 (jD dl sk dc h0) rfl;have k2:=fk 1 (pZ (dl:=dl) (sk:=(aA sk)) (dc:=(aA dc)) h1) rfl;have k3:=fk 1 (aZe u (aJ dl (aA dc)) h2 h3) rfl;have k4:=mN [] 0 (sK (dl:=dl) (sk:=(aA sk)) (dc:=(aA dc)) (on:=u.length) (ol:=(u.map aB)));have k5:=mq fa 7 h6;FV.fi func21 [k1.o,bF,k2.o,.g 2 ⟨[],[0],[1,2],[]⟩,k3.o,bF,Dp.k 4 (gZ dr),k4.o,k5.o] (gc k5 (gc k4 (gc Dp.code (gc (aR h4) (gc k3 (gc k2 (gc aOk (gc k1 gn))))))))
theorem cLz{Bm:Int}(h4:(u.all (ocB (aJ dl (aA dc))))=true)(Dp:aD Tp 0 aHe (iG dl sk dc u 1) .ret (bQ (iG dl sk dc u Bm) [(4,(.p cC)),(5,(pI 4))])):FV Tp 21 [(.p (.agg (bC dl sk dc))),(.p (aF u))] base (.tup [(.p cC),(pI 4)]) []:=have k1:=fk 1 (jD dl sk dc h0) rfl;have k2:=fk 1 (pZ (dl:=dl) (sk:=(aA sk)) (dc:=(aA dc)) h1) rfl;have k3:=fk 1 (aZe u (aJ dl (aA dc)) h2 h3) rfl;FV.fi func21 [k1.o,bF,k2.o,.g 2 ⟨[],[0],[1,2],[]⟩,k3.o,bF,Dp.k 4 (gZ dr)] (gc Dp.code (gc (aR h4) (gc k3 (gc k2 (gc aOk (gc k1 gn))))))
end
theorem cMa{r0:Int}(h0:uni 2 sk)(h1:uni 6 dc)(h2:(cY dl sk dc)≠0)(A6:r0=(cY dl sk dc)):FV Tp 21 [(.p (.agg (bC dl sk dc))),(.p (aF u))] base (.tup [(.p cC),(pI r0)]) []:=by
 subst A6;have k1:=fk 1 (aGr dl sk dc h0 h1 h2) rfl;exact FV.fi func21 [k1.o,bT] (gc (fH h2) (gc k1 gn))
section
variable{i:Int}(h0:i<(u.length:Int))(h1:u[i.toNat]? = some Aj)(h2:0≤i)(h3:inR (i-1))(h4:u[(i-1).toNat]? = some Cr)(h5:0≤(i-1))
include h0 h1 h2 h3 h4 h5
theorem bOa(h6:Aj≤Cr):aC Tp 0 aHe (iG dl sk dc u i) .ret (bQ (iG dl sk dc u i) [(4,(.p cC)),(5,(pI 4))]):=aC.fi (gZ [0,1,2,2,7,2,10,30]) [bT,.x (aB Aj),.x (aB Cr),bT] (gc (oQ h6) (gt ((u.map aB)[((i-1).toNat*1)]? = some (aB Cr)) (sA (i:=(i-1).toNat) h4) (gc (sC (g:=aB) h5 h4) (gc h3 (gt ((u.map aB)[(i.toNat*1)]? = some (aB Aj)) (sA (i:=i.toNat) h1) (gc (sC (g:=aB) h2 h1) (g0 h0)))))))
theorem bOb{i':Int}(h6:Cr<Aj)(h7:inR (i+1))(Ai:i'=(i+1)):aC Tp 0 aHe (iG dl sk dc u i) .normal (iG dl sk dc u i'):=by
 subst Ai;exact aC.fi (gZ dr) [bT,.x (aB Aj),.x (aB Cr),bF] (gc h7 (gc (kZ h6) (gt ((u.map aB)[((i-1).toNat*1)]? = some (aB Cr)) (sA (i:=(i-1).toNat) h4) (gc (sC (g:=aB) h5 h4) (gc h3 (gt ((u.map aB)[(i.toNat*1)]? = some (aB Aj)) (sA (i:=i.toNat) h1) (gc (sC (g:=aB) h2 h1) (g0 h0))))))))
end
theorem aLe{i:Int}(h0:(u.length:Int)≤i):aC Tp 0 aHe (iG dl sk dc u i) (.exit 0) (iG dl sk dc u i):=aC.fi (gZ dr) [bF] (gc (aK h0) gn)
end
section
variable {n8:Int}{o q:List Int}{i l s:Nat}

def fO(q:List Int)(s i:Nat):List Int:=((List.range i).filter fun j=>s / 2 ^ j % 2 == 1).map fun j=>q.getD j 0
def gK(q:List Int):Lqq:=(List.range (2 ^ q.length)).map fun s=>fO q s q.length

theorem cAv(h0:0≤(q.length:Int)∧(q.length:Int)≤60∧IntKind.i64 = .i64)(h1:inR ((1:Int)*2 ^ ((q.length:Int).toNat))):eB Tp 0 (sub (cd Tryz.f182) [0]) ⟨fr 35 [(0,(.yld l)),(1,(.rp [(aF q)] 0))],[]⟩ .normal ⟨fr 35 [(0,(.yld l)),(1,(.rp [(aF q)] 0)),(8,(pI ((1:Int)*2 ^ ((q.length:Int).toNat)))),(9,(pI 0))],[]⟩:=eB.fi (gZ [2,6,10,25]) [.x (aF q)] (gc h1 (gc h0 (gr (aF q) gn)))
theorem cAw:eB Tp 0 (sub (cd Tryz.f182) [1,0,0,0]) ⟨fr 35 [(0,(.yld l)),(1,(.rp [(aF q)] 0)),(8,(pI n8)),(9,(pI (s:Int)))],[]⟩ .normal ⟨fr 35 [(0,(.yld l)),(1,(.rp [(aF q)] 0)),(8,(pI n8)),(9,(pI (s:Int))),(10,(pB (decide ((s:Int)<n8))))],[]⟩:=eB.fi (gZ [2,6,11,24]) [] gn
theorem cAx:eB Tp 0 (sub (cd Tryz.f182) [1,0,0,1,1,0,0,0]) ⟨fr 35 [(0,(.yld l)),(1,(.rp [(aF q)] 0)),(8,(pI n8)),(9,(pI (s:Int)))],[]⟩ .normal ⟨fr 35 [(0,(.yld l)),(1,(.rp [(aF q)] 0)),(3,(pI (s:Int))),(8,(pI n8)),(9,(pI (s:Int)))],[]⟩:=eB.fi (gZ [2,1,4,4,10,25]) [] gn
theorem cAy:eB Tp 0 (sub (cd Tryz.f182) [1,0,0,1,1,0,0,1,0]) ⟨fr 35 [(0,(.yld l)),(1,(.rp [(aF q)] 0)),(3,(pI (s:Int))),(8,(pI n8)),(9,(pI (s:Int)))],[]⟩ .normal ⟨fr 35 [(0,(.yld l)),(1,(.rp [(aF q)] 0)),(3,(pI (s:Int))),(4,(.p cC)),(8,(pI n8)),(9,(pI (s:Int)))],[]⟩:=eB.fi (gZ [2,1,5,3,10,25]) [] gn
theorem cAz:eB Tp 0 (sub (cd Tryz.f182) [1,0,0,1,1,0,0,1,1,0,0]) ⟨fr 35 [(0,(.yld l)),(1,(.rp [(aF q)] 0)),(3,(pI (s:Int))),(4,(.p cC)),(8,(pI n8)),(9,(pI (s:Int)))],[]⟩ .normal ⟨fr 35 [(0,(.yld l)),(1,(.rp [(aF q)] 0)),(3,(pI (s:Int))),(4,(.own 0)),(8,(pI n8)),(9,(pI (s:Int))),(13,(pI (q.length:Int))),(14,(pI 0))],[some (.row 3 0 [])]⟩:=eB.fi (gN dd [0] [(4,3)]) [.x (aF q)] (gr (aF q) gn)
theorem cBa:eB Tp 0 (sub (cd Tryz.f182) [1,0,0,1,1,0,0,1,1,0,1,0,0,0]) ⟨fr 35 [(0,(.yld l)),(1,(.rp [(aF q)] 0)),(3,(pI (s:Int))),(4,(.own 0)),(8,(pI n8)),(9,(pI (s:Int))),(13,(pI (q.length:Int))),(14,(pI (i:Int)))],[some (.row 3 o.length (o.map aB))]⟩ .normal ⟨fr 35 [(0,(.yld l)),(1,(.rp [(aF q)] 0)),(3,(pI (s:Int))),(4,(.own 0)),(8,(pI n8)),(9,(pI (s:Int))),(13,(pI (q.length:Int))),(14,(pI (i:Int))),(15,(pB (decide ((i:Int)<(q.length:Int)))))],[some (.row 3 o.length (o.map aB))]⟩:=eB.fi (gI [2,1,5,3,10,3,16,19] [0]) [] gn
theorem cBb:eB Tp 0 (sub (cd Tryz.f182) be) ⟨fr 35 [(0,(.yld l)),(1,(.rp [(aF q)] 0)),(3,(pI (s:Int))),(4,(.own 0)),(8,(pI n8)),(9,(pI (s:Int))),(13,(pI (q.length:Int))),(14,(pI (i:Int)))],[some (.row 3 o.length (o.map aB))]⟩ .normal ⟨fr 35 [(0,(.yld l)),(1,(.rp [(aF q)] 0)),(3,(pI (s:Int))),(4,(.own 0)),(5,(pI (i:Int))),(8,(pI n8)),(9,(pI (s:Int))),(13,(pI (q.length:Int))),(14,(pI (i:Int)))],[some (.row 3 o.length (o.map aB))]⟩:=eB.fi (gI [2,1,6,2,10,3,15,20] [0]) [] gn
theorem cBc(h0:0≤((s:Int).fdiv (2 ^ min ((i:Int).toNat) (IntKind.bits .i64)))∧((s:Int).fdiv (2 ^ min ((i:Int).toNat) (IntKind.bits .i64)))≤9223372036854775807∧(1:Int)=1∧IntKind.i64 = .i64):eB Tp 0 (sub (cd Tryz.f182) bb) ⟨fr 35 [(0,(.yld l)),(1,(.rp [(aF q)] 0)),(3,(pI (s:Int))),(4,(.own 0)),(5,(pI (i:Int))),(8,(pI n8)),(9,(pI (s:Int))),(13,(pI (q.length:Int))),(14,(pI (i:Int)))],[some (.row 3 o.length (o.map aB))]⟩ .normal ⟨fr 35 [(0,(.yld l)),(1,(.rp [(aF q)] 0)),(3,(pI (s:Int))),(4,(.own 0)),(5,(pI (i:Int))),(8,(pI n8)),(9,(pI (s:Int))),(13,(pI (q.length:Int))),(14,(pI (i:Int))),(21,(pB ((((s:Int).fdiv (2 ^ min ((i:Int).toNat) (IntKind.bits .i64))) % 2) == 1)))],[some (.row 3 o.length (o.map aB))]⟩:=eB.fi (gI [2,1,6,2,10,3,15,6,22,13] [0]) [] (gc h0 (gt (0≤(i:Int)) (Bp _) gn))
theorem cBd{x0:Int}(h0:q[i]? = some x0)(h1:[(aB x0)].length=1*1∧o.length+1≤1000000):eB Tp 0 (sub (cd Tryz.f182) b9) ⟨fr 35 [(0,(.yld l)),(1,(.rp [(aF q)] 0)),(3,(pI (s:Int))),(4,(.own 0)),(5,(pI (i:Int))),(8,(pI n8)),(9,(pI (s:Int))),(13,(pI (q.length:Int))),(14,(pI (i:Int)))],[some (.row 3 o.length (o.map aB))]⟩ .normal ⟨fr 35 [(0,(.yld l)),(1,(.rp [(aF q)] 0)),(3,(pI (s:Int))),(4,(.own 0)),(8,(pI n8)),(9,(pI (s:Int))),(13,(pI (q.length:Int))),(14,(pI (i:Int)))],[some (.row 3 (o.length+1) ((o.map aB)++[(aB x0)]))]⟩:=eB.fi (gI dd [2]) [.x (aF q),.x (aB x0)] (gc h1 (gc (atm aB h0) (gc (ixn aB h0) (gr (aF q) gn))))
theorem cBe(h0:gk i):eB Tp 0 (sub (cd Tryz.f182) bh) ⟨fr 35 [(0,(.yld l)),(1,(.rp [(aF q)] 0)),(3,(pI (s:Int))),(4,(.own 0)),(8,(pI n8)),(9,(pI (s:Int))),(13,(pI (q.length:Int))),(14,(pI (i:Int)))],[some (.row 3 o.length (o.map aB))]⟩ .normal ⟨fr 35 [(0,(.yld l)),(1,(.rp [(aF q)] 0)),(3,(pI (s:Int))),(4,(.own 0)),(8,(pI n8)),(9,(pI (s:Int))),(13,(pI (q.length:Int))),(14,(pI (((i+1):Nat):Int)))],[some (.row 3 o.length (o.map aB))]⟩:=eB.fi (gI dd [0]) [] (gc h0 gn)
theorem cBf(h0:gk s):eB Tp 0 (sub (cd Tryz.f182) [1,0,0,1,1,1]) ⟨fr 35 [(0,(.yld l)),(1,(.rp [(aF q)] 0)),(8,(pI n8)),(9,(pI (s:Int)))],[]⟩ .normal ⟨fr 35 [(0,(.yld l)),(1,(.rp [(aF q)] 0)),(8,(pI n8)),(9,(pI (((s+1):Nat):Int)))],[]⟩:=eB.fi (gZ [2,6,10,25]) [] (gc h0 gn)
end
end KV
end Go.Proofs
section
namespace Go.Proofs
open Go.RowKit
namespace KV
open Tryz
attribute [local go_sem] Oper.semAt_some
theorem aDs(l:List (Nat × AV)):∀ (n k:Nat),(frm l n k).length=n
 | 0,_=>rfl
 | n+1,k=>by unfold frm;rw [oE,aDs]
theorem aYz(l:List (Nat × AV)):∀ (n k j:Nat) (h:j<(frm l n k).length),(frm l n k)[j]=look l (k+j)
 | 0,_,j,h=>by simp [frm] at h
 | n+1,k,0,h=>rfl
 | n+1,k,j+1,h=>by
  have:=aYz l n (k+1) j (by rw [aDs] at h ⊢;omega)
  rw [show k+(j+1)=k+1+j by omega]
  exact this
theorem aSk{C:Cx}{M:Mem}{w:World}{us:Array Value}:∀ {l:List (Nat × AV)},(∀ p∈l,Rep C M w p.2 (us.getD p.1 undef))→∀ j,Rep C M w (look l j) (us.getD j undef)
 | [],_,j => .any _
 | (i,x)::r,h,j=>by
  unfold look
  split
  ·rename_i hb
   rw [← Nat.eq_of_beq_eq_true hb];exact h (i,x) (gA ..)
  ·exact aSk (fun p hp=>h p (Ch _ hp)) j
theorem aSl{C:Cx}{M:Mem}{w:World}{us:Array Value}{n:Nat}{l:List (Nat × AV)}(hs:us.size=n)(h:∀ p∈l,Rep C M w p.2 (us.getD p.1 undef)):eN C M w (fr n l) us:=by
 refine ⟨by rw [hs,aDs],fun i hi => ?_⟩
 rw [aYz,iC];exact aSk h _
theorem xW{C:Cx}{M:Mem}{w:World}{us:Array Value}{n:Nat}{l:List (Nat × AV)}(h:eN C M w (fr n l) us)(i:Nat)(hi:i<n):Rep C M w (look l i) (us.getD i undef):=by
 have:=h.rep i (by rw [aDs];exact hi)
 rwa [aYz,iC] at this

section
variable {P:Program}
def InK(Cv:Cx)(V:World)(v0:Value)(st:St)(a:Act)(w:World):Prop:=Sim Tp Cv [] V st a w∧a.tmps.getD 1 undef=v0∧a.defers=[]
theorem InK.step{Cv:Cx}{V:World}{v0:Value}{c:Code}{st Am:St}{a:Act}{w:World}{n:Nat}{K:Act→World→Prop}{Q:Exit→Act→World→Prop}(h:eB Tp 0 c st .normal Am)(hw:wrR c 1=false)(hi:InK Cv V v0 st a w)
  (hK:∀ a' w',InK Cv V v0 Am a' w'→K a' w'):c.wpIn (Fen none) n Tp (Exit.then K Q) a w :=
 wpIn_mono (h Cv [] V a w (by simp) hi.1 none n) fun e a' w' hq=>by
  obtain ⟨he,hs,hk⟩:=hq;subst he;exact hK a' w' ⟨hs,(hk.1 1 hw).trans hi.2.1,hk.2.trans hi.2.2⟩
end
noncomputable abbrev cO:Code:=cd Tryz.f182
abbrev stA(l:Nat)(q:List Int)(n8:Int)(s:Nat):St:=⟨fr 35 [(0,.yld l),(1,.rp [aF q] 0),(8,.p (aB n8)),(9,.p (aB (s:Int)))],[]⟩
abbrev stB(l:Nat)(q:List Int)(n8:Int)(s:Nat)(o:List Int)(i:Nat):St:=⟨fr 35 [(0,.yld l),(1,.rp [aF q] 0),(3,.p (aB (s:Int))),(4,.own 0),(8,.p (aB n8)),(9,.p (aB (s:Int))),(13,.p (aB (q.length:Int))),(14,.p (aB (i:Int)))],[some (.row 3 o.length (o.map aB))]⟩
theorem bNr(q:List Int)(s i:Nat):fO q s (i+1)=fO q s i++if s / 2 ^ i % 2 == 1 then [q.getD i 0] else []:=by
 unfold fO;rw [List.range_succ,oO,iA]
 congr 1
 cases h:s / 2 ^ i % 2 == 1 <;> simp [h]
theorem aSm(q:List Int)(s i:Nat):(fO q s i).length≤i:=by
 unfold fO;rw [Co];have:=rZ (fun j=>s / 2 ^ j % 2 == 1) (List.range i)
 rwa [aFs] at this
theorem cAu(s i:Nat)(hi:i≤60):(s:Int).fdiv (2 ^ min ((i:Int).toNat) (IntKind.bits .i64))=((s / 2 ^ i:Nat):Int):=by
 have hb:IntKind.bits .i64=64:=rfl;rw [aMq,hb,Nat.min_eq_left (by omega),Int.fdiv_eq_ediv_of_nonneg _ (by exact_mod_cast Nat.zero_le _)]
 push_cast
 rfl
theorem bUr{Cv:Cx}{V:World}{v0:Value}{l:Nat}{q:List Int}{n8:Int}{s:Nat}(hq:q.length≤60)(hs:s≤9223372036854775807){n:Nat}{K:Act→World→Prop}{Q:Exit→Act→World→Prop}{a:Act}{w:World}
  (hi:InK Cv V v0 (stB l q n8 s [] 0) a w) (hK:∀ a' w',InK Cv V v0 (stB l q n8 s (fO q s q.length) q.length) a' w'→K a' w') :
  (Code.block 2 (.loop (sub cO [1,0,0,1,1,0,0,1,1,0,1,0,0]))).wpIn (Fen none) n Tp (Exit.then K Q) a w:=by
 refine wpIn_block ?_;refine wpIn_loop_ghost (fun k a w=>∃ i,i≤q.length∧k=q.length-i∧InK Cv V v0 (stB l q n8 s (fO q s i) i) a w) q.length ⟨0,by omega,by omega,hi⟩ ?_
 rintro k a w ⟨i,hil,rfl,hI⟩;have e1:sub cO [1,0,0,1,1,0,0,1,1,0,1,0,0] = .seq (sub cO [1,0,0,1,1,0,0,1,1,0,1,0,0,0]) (.seq (.cond (.tmp 15) .skip (.exit 2)) (.seq (.block 3 (.seq (sub cO be) (.seq (sub cO bb) (.cond (.tmp 21) (sub cO b9) .skip)))) (sub cO bh))):=by kernel_rfl
 rw [e1];refine wpIn_seq ?_;refine InK.step cBa (by kernel_rfl) hI fun a1 w1 h1 => ?_
 refine wpIn_seq ?_;obtain ⟨⟨C1,Kc,_⟩,_⟩:=id h1;have Qv:a1.eval (.tmp 15) = .bool (decide ((i:Int)<(q.length:Int))):=by
  have:=xW Kc 15 (by omega)
  show a1.tmps.getD 15 undef=_;generalize a1.tmps.getD 15 undef=u at this
  have h2:Rep C1 _ w1 (.p (.v (.bool (decide ((i:Int)<(q.length:Int)))))) u:=this;cases h2 with
  | p _ _ h=>cases h;rfl
 by_cases hlt:i<q.length
 ·refine wpIn_cond_true (by rw [Qv,decide_eq_true (by omega)]) (wpIn_skip ?_)
  show Code.wpIn _ _ _ _ _ _ _;have Jr:InK Cv V v0 (stB l q n8 s (fO q s i) i) a1 w1:=⟨(eX (g:=⟨[15],[0],[],[]⟩) (k:=0) (dF _) (by kernel_rfl) h1.1),h1.2⟩
  refine wpIn_seq ?_;have hsd:=cAu s i (by omega)
  have hx:q[i]? = some (q.getD i 0):=by rw [B5,Ay hlt];rfl
  have hpl:=aSm q s i;have hfin:∀ a2 w2,InK Cv V v0 (stB l q n8 s (fO q s (i+1)) i) a2 w2→(sub cO bh).wpIn (Fen none) n Tp (Exit.then (fun a' w'=>∃ n',n'<q.length-i∧∃ i',i'≤q.length∧n'=q.length-i'∧InK Cv V v0 (stB l q n8 s (fO q s i') i') a' w') (Exit.inBlock 2 (Exit.then K Q))) a2 w2:=fun a2 w2 h2 =>
   InK.step (cBe (aI (by omega))) (by kernel_rfl) h2 fun a3 w3 h3=>⟨q.length-(i+1),by omega,i+1,by omega,rfl,h3⟩
  refine wpIn_block ?_;refine wpIn_seq ?_;refine InK.step cBb (by kernel_rfl) Jr fun a2 w2 h2 => ?_
  refine wpIn_seq ?_;have hle:s / 2 ^ i≤s:=Nat.div_le_self _ _;refine InK.step (cBc (s:=s) (i:=i) ⟨by rw [hsd];exact Bp _,by rw [hsd];exact Int.ofNat_le.2 (fL hle hs),rfl,rfl⟩) (by kernel_rfl) h2 fun a3 w3 h3 => ?_
  obtain ⟨⟨C3,Ku,_⟩,_⟩:=id h3;have Qw:a3.eval (.tmp 21) = .bool (s / 2 ^ i % 2 == 1):=by
   have:=xW Ku 21 (by omega)
   show a3.tmps.getD 21 undef=_;generalize a3.tmps.getD 21 undef=u at this
   have h2:Rep C3 _ w3 (.p (.v (.bool (((s:Int).fdiv (2 ^ min ((i:Int).toNat) (IntKind.bits .i64))) % 2 == 1)))) u:=this;cases h2 with
   | p _ _ h =>
    cases h;rw [hsd]
    congr 1
    generalize s / 2 ^ i=z;rw [Bool.eq_iff_iff,beq_iff_eq,beq_iff_eq];omega
  have Kv:InK Cv V v0 ⟨fr 35 [(0,.yld l),(1,.rp [aF q] 0),(3,.p (aB (s:Int))),(4,.own 0),(5,.p (aB (i:Int))),(8,.p (aB n8)),(9,.p (aB (s:Int))),(13,.p (aB (q.length:Int))),(14,.p (aB (i:Int)))],[some (.row 3 (fO q s i).length ((fO q s i).map aB))]⟩ a3 w3:=⟨(eX (g:=⟨[21],[0],[],[]⟩) (k:=0) (dF _) (by kernel_rfl) h3.1),h3.2⟩
  have hp:=bNr q s i;cases hb:s / 2 ^ i % 2 == 1 with
  | true =>
   refine wpIn_cond_true (by rw [Qw,hb]) ?_
   rw [hb,if_pos rfl] at hp
   refine wpIn_mono (cBd (o:=fO q s i) hx ⟨rfl,by omega⟩ Cv [] V a3 w3 (by simp) Kv.1 none n) ?_
   rintro e a4 w4 ⟨rfl,h4,Vw⟩;refine hfin a4 w4 ⟨?_,(Vw.1 1 (by kernel_rfl)).trans Kv.2.1,Vw.2.trans Kv.2.2⟩
   have e8:(stB l q n8 s (fO q s (i+1)) i)=⟨fr 35 [(0,.yld l),(1,.rp [aF q] 0),(3,.p (aB (s:Int))),(4,.own 0),(8,.p (aB n8)),(9,.p (aB (s:Int))),(13,.p (aB (q.length:Int))),(14,.p (aB (i:Int)))],[some (.row 3 ((fO q s i).length+1) ((fO q s i).map aB++[aB (q.getD i 0)]))]⟩:=by
    rw [hp];unfold stB;rw [iJ,iA];rfl
   rw [e8];exact h4
  | false =>
   refine wpIn_cond_false (by rw [Qw,hb]) (wpIn_skip ?_)
   rw [hb,if_neg (by simp),List.append_nil] at hp
   refine hfin a3 w3 ?_;rw [hp];exact ⟨(eX (g:=⟨[5],[0],[],[]⟩) (k:=0) (dF _) (by kernel_rfl) Kv.1),Kv.2⟩
 ·obtain rfl:i=q.length:=by omega
  refine wpIn_cond_false (by rw [Qv,decide_eq_false (by omega)]) (wpIn_exit ?_)
  show Exit.inBlock 2 (Exit.then K Q) (.exit 2) a1 w1
  unfold Exit.inBlock;dsimp only;rw [if_pos rfl];exact hK a1 w1 ⟨(eX (g:=⟨[15],[0],[],[]⟩) (k:=0) (dF _) (by kernel_rfl) h1.1),h1.2⟩
theorem aOi{a:Act}{W:World}{l id t0 t1 t2 t3:Nat}{ts:Array TypeId}{p0 p1 p2 p3:String}{f0 f1 f2 f3:Array Edge}{u:Value}{A B:World→Prop}{K:Act→World→Prop}{Q:Exit→Act→World→Prop}
  (hs:a.tmps.size=35) (h0:a.tmps.getD 0 undef = .func (.yield l) #[] #[]) (h4:a.tmps.getD 4 undef=u)
  (hy:YieldAt (Fen none) 1 Tp l #[u] W (fun e W'=>(e = .returned (.bool true)∧A W')∨(e = .returned (.bool false)∧B W')))
  (hA:∀ a' W',A W'→a'.defers=a.defers→a'.tmps.size=35→(∀ i,i<30→a'.tmps.getD i undef=a.tmps.getD i undef)→a'.tmps.getD 33 undef = .bool false→K a' W')
  (hB:∀ a' W',B W'→a'.defers=a.defers→a'.tmps.getD 33 undef = .bool true→K a' W') :
  (Code.region id #[{ dst:=some 30,op := .move (.tmp 0),type:=t0,pos:=p0,after:=f0,guard:=none },{ dst:=some 31,op := .move (.tmp 4),type:=t1,pos:=p1,after:=f1,guard:=none },
   {dst:=some 32,op := .call { callee := .value (.tmp 30),args := #[.tmp 31],argTypes:=ts },type:=t2,pos:=p2,after:=f2,guard:=none },{ dst:=some 33,op := .unOp .not 4 (.tmp 32),type:=t3,pos:=p3,after:=f3,guard:=none }] false).wpIn (Fen none) 2 Tp (Exit.then K Q) a W:=by
 refine wpIn_region_lit (wpListIn_plain rfl fun K1 Ui => ?_)
 unfold Oper.wpIn;refine ⟨fun f _=>trivial,?_⟩
 rw [Oper.semAt_plain _ _ _ (by intro c Ig;cases Ig)]
 simp only [execOp,Sem.run_pure];refine Ui _ _ (wpListIn_plain rfl fun K2 P4 => ?_)
 unfold Oper.wpIn;refine ⟨fun f _=>trivial,?_⟩
 rw [Oper.semAt_plain _ _ _ (by intro c Ig;cases Ig)]
 simp only [execOp,Sem.run_pure];refine P4 _ _ (wpListIn_plain rfl fun K3 Qj => ?_)
 unfold Oper.wpIn;refine ⟨fun f _=>trivial,?_⟩
 rw [Oper.semAt_plain _ _ _ (by intro c Ig;cases Ig)]
 obtain ⟨fn,tmps,assign,body,hrun,hR⟩:=hy;have Uj:(((a.put (some 30) (a.eval (.tmp 0))).put (some 31) ((a.put (some 30) (a.eval (.tmp 0))).eval (.tmp 4)))).eval (.tmp 30) = .func (.yield l) #[] #[]:=by
  show ((a.tmps.setIfInBounds 30 (a.tmps.getD 0 undef)).setIfInBounds 31 _).getD 30 undef=_;rw [h0];simp [Cb,Array.getElem?_setIfInBounds,hs]
 have Uk:(((a.put (some 30) (a.eval (.tmp 0))).put (some 31) ((a.put (some 30) (a.eval (.tmp 0))).eval (.tmp 4)))).eval (.tmp 31)=u:=by
  show ((a.tmps.setIfInBounds 30 (a.tmps.getD 0 undef)).setIfInBounds 31 ((a.tmps.setIfInBounds 30 (a.tmps.getD 0 undef)).getD 4 undef)).getD 31 undef=_;rw [← h4];simp [Cb,Array.getElem?_setIfInBounds,hs]
 have Qi:∀ i,i<30→(((a.put (some 30) (a.eval (.tmp 0))).put (some 31) ((a.put (some 30) (a.eval (.tmp 0))).eval (.tmp 4)))).tmps.getD i undef=a.tmps.getD i undef:=fun i hi=>by
  rw [rI (fun e=>by cases e;omega),rI (fun e=>by cases e;omega)]
 have eD:(((a.put (some 30) (a.eval (.tmp 0))).put (some 31) ((a.put (some 30) (a.eval (.tmp 0))).eval (.tmp 4)))).defers=a.defers:=rfl;have eS:(((a.put (some 30) (a.eval (.tmp 0))).put (some 31) ((a.put (some 30) (a.eval (.tmp 0))).eval (.tmp 4)))).tmps.size=35:=by
  show ((a.tmps.setIfInBounds _ _).setIfInBounds _ _).size=35;simp [hs]
 revert Uj Uk Qi eD eS;dsimp only;generalize (((a.put (some 30) (a.eval (.tmp 0))).put (some 31) ((a.put (some 30) (a.eval (.tmp 0))).eval (.tmp 4))))=a2;intro Uj Uk Qi eD eS;have er:Sem.run Tp (execOp a2.eval { dst:=some 32,op := .call { callee := .value (.tmp 30),args := #[.tmp 31],argTypes:=ts },type:=t2,pos:=p2,after:=f2,guard:=none }) W = .ok (.round l fn tmps assign body) W:=by
  rw [← hrun];simp only [execOp,resolve,Deferred.ofValue,Uj,Uk,List.map_toArray,iB,List.map_nil,Sem.run_bind,Sem.run_pure,invoke];simp
 rw [er,Oper.uponIn_round];refine ⟨fun h=>by simp [Fen,Fence.wide] at h,hR.mono ?_⟩
 have last:∀ (b:Bool) (w3:World),(∀ a',a'.defers=a.defers→a'.tmps.size=35→(∀ i,i<30→a'.tmps.getD i undef=a.tmps.getD i undef)→a'.tmps.getD 33 undef = .bool (!b)→K a' w3)→K3 (a2.put (some 32) (.bool b)) w3:=fun b w3 hfin=>by
  refine Qj _ _ (wpListIn_plain rfl fun K4 P9 => ?_)
  unfold Oper.wpIn;refine ⟨fun f _=>trivial,?_⟩
  rw [Oper.semAt_plain _ _ _ (by intro c Ig;cases Ig)]
  have Yk:(a2.put (some 32) (.bool b)).eval (.tmp 32) = .bool b:=by
   show (a2.tmps.setIfInBounds 32 _).getD 32 undef=_;simp [Cb,eS]
  have eu:Sem.run Tp (execOp (a2.put (some 32) (.bool b)).eval { dst:=some 33,op := .unOp .not 4 (.tmp 32),type:=t3,pos:=p3,after:=f3,guard:=none }) w3 = .ok (.value (.bool !b)) w3:=by
   simp only [execOp,Yk];rfl
  rw [eu];refine P9 _ _ (wpListIn_nil (hfin _ eD ?_ (fun i hi => ?_) ?_))
  ·show ((a2.tmps.setIfInBounds _ _).setIfInBounds _ _).size=35
   simp [eS]
  ·rw [rI (fun e=>by cases e;omega),rI (fun e=>by cases e;omega)]
   exact Qi i hi
  ·show ((a2.tmps.setIfInBounds 32 _).setIfInBounds 33 _).getD 33 undef=_
   simp [Cb,eS]
 rintro e w3 (⟨rfl,h⟩ | ⟨rfl,h⟩)
 ·exact last true w3 fun a' h1 h2 h3 h4=>hA a' w3 h h1 h2 h3 h4
 ·exact last false w3 fun a' h1 h2 h3 h4=>hB a' w3 h h1 h4
end KV
end Go.Proofs
end
section
namespace Go.Proofs
open Go.RowKit
namespace KV
open Tryz
structure Lp (l:Nat) (v0:Value) (n8:Int) (s:Nat) (a:Act):Prop where
 size:a.tmps.size=35
 s0:a.tmps.getD 0 undef = .func (.yield l) #[] #[]
 s1:a.tmps.getD 1 undef=v0
 s8:a.tmps.getD 8 undef = .int .i64 n8
 s9:a.tmps.getD 9 undef = .int .i64 (s:Int)
 df:a.defers=[]
abbrev cxF(F:Nat→Prop):Cx:={ ι:=fun _=>none,κ:=fun _=>0,F:=F,R:=[] }
theorem bCj{P:Program}{F:Nat→Prop}{W:World}(hF:∀ b,F b→b<W.heap.size):aU P (cxF F) [] W :=
 ⟨fun _ _ _ _ h=>by simp at h,fun _ _ _ h=>by simp at h,fun _ _ _ h=>by simp at h,fun _ _ _ _ _ h=>by simp at h,fun _ _ _ h=>by simp at h,hF,fun _ _ _ h=>by simp at h⟩
theorem aSi{C:Cx}{M:Mem}{w:World}{n:Int}{u:Value}(h:Rep C M w (.p (aB n)) u):u = .int .i64 n:=by
 cases h with
 | p _ _ h=>cases h;rfl
theorem Lp.ink{F:Nat→Prop}{l:Nat}{v0:Value}{q:List Int}{n8:Int}{s:Nat}{a:Act}{W:World}(h:Lp l v0 n8 s a)(hF:∀ b,F b→b<W.heap.size)(hr:Rep (cxF F) [] W (.rp [aF q] 0) v0):InK (cxF F) W v0 (stA l q n8 s) a W:=by
 refine ⟨⟨cxF F,aSl h.size ?_,bCj hF,Fr.refl _ _ _,?_⟩,h.s1,h.df⟩
 ·intro p hp
  simp only [fW,List.not_mem_nil,or_false] at hp
  rcases hp with rfl | rfl | rfl | rfl
  ·rw [h.s0];exact .yld l
  ·rw [h.s1];exact hr
  ·rw [h.s8];exact .p _ _ (.v _)
  ·rw [h.s9];exact .p _ _ (.v _)
 ·rw [h.df];exact .nil rfl (qU rfl)
theorem InK.lp{Cv:Cx}{V W:World}{l:Nat}{v0:Value}{n8:Int}{s:Nat}{a:Act}{st:St}(h:InK Cv V v0 st a W)(Yg:st.t.length=35)(e0:st.t[0]? = some (.yld l))(e8:st.t[8]? = some (.p (aB n8)))(e9:st.t[9]? = some (.p (aB (s:Int)))):Lp l v0 n8 s a:=by
 obtain ⟨⟨C,hS,_⟩,h1,hd⟩:=h;refine ⟨hS.size.trans Yg,?_,h1,aSi (hS.at e8),aSi (hS.at e9),hd⟩
 have:=hS.at e0
 revert this;generalize a.tmps.getD 0 undef=u;intro this;cases this;rfl
theorem aSj{C0 C:Cx}{V W:World}{M:Mem}(h:Fr C0 [] V C M W):V.grownBy W none :=
 ⟨h.os,h.tape,h.out,h.size,fun k hk _=>h.keep k hk (fun _ _ h=>by simp at h)⟩
theorem InK.grown{Cv:Cx}{V W:World}{v0:Value}{st:St}{a:Act}(h:InK Cv V v0 st a W):V.grownBy W none:=by
 obtain ⟨⟨C,_,_,hF,_⟩,_⟩:=h;exact aSj hF
theorem InK.kp{Cv:Cx}{V W:World}{v0:Value}{st:St}{a:Act}(h:InK Cv V v0 st a W){F:Nat→Prop}(hF:∀ b,F b→b<V.heap.size):KpG F V W :=
 ⟨h.grown.size,fun b hb=>rJ h.grown b (hF b hb)⟩
theorem InK.rowH{F:Nat→Prop}{V W:World}{v0:Value}{st:St}{a:Act}{o:List Int}(h:InK (cxF F) V v0 st a W)(e4:st.t[4]? = some (.own 0))(em:st.m=[some (nT o)])(hl:o.length≤1000):bUt Tp (o,a.tmps.getD 4 undef) V W:=by
 obtain ⟨⟨C,hS,hM,hF,_⟩,_⟩:=h;refine ⟨hl,C,em ▸ hM,em ▸ hS.at e4,fun b hb => ?_⟩
 rcases hF.new 0 (nT o) b (by rw [em];rfl) rfl hb with h | ⟨i,o',h,_⟩
 ·exact h
 ·simp at h
theorem bCk{n:Nat}(h:n≤1152921504606846977):inR (n:Int):=by unfold inR;omega
theorem bUq{n:Nat}(h:n≤60):(2:Nat) ^ n≤1152921504606846976:=fL (Nat.pow_le_pow_right (by omega) h) (by decide)
theorem bNo(q:List Int)(s:Nat)(h:s<2 ^ q.length):(gK q).take (s+1)=(gK q).take s++[fO q s q.length]:=by
 rw [List.take_add_one]
 congr 1
 unfold gK;rw [fV,mO h];rfl
theorem zM(q:List Int):(gK q).length=2 ^ q.length:=by unfold gK;simp
set_option maxHeartbeats 2000000 in
theorem bNp{F:Nat→Prop}{q:List Int}(hq:q.length≤60){l:Nat}{v0:Value}{w:World}(hF:∀ b,F b→b<w.heap.size)(hr:Rep (cxF F) [] w (.rp [aF q] 0) v0){a:Act}(ha:a.tmps.size=35)(Yh:a.tmps.getD 0 undef = .func (.yield l) #[] #[])(Ol:a.tmps.getD 1 undef=v0)(had:a.defers=[])
  {J Jx:List (List Int × Value)→World→Prop} (hJ:AbidesFrom w.heap.size J) (hJx:AbidesFrom w.heap.size Jx)
  (hY:∀ pre x W0 W1,J pre W0→W0.grownBy W1 none→bUt Tp x W0 W1→pre.length<2 ^ q.length→YieldAt (Fen none) 1 Tp l #[x.2] W1 fun e W' =>
   (e = .returned (.bool true)∧J (pre++[x]) W'∧KpG F W0 W')∨(e = .returned (.bool false)∧Jx (pre++[x]) W'))
  (h0:J [] w) {R:Ending→World→Prop} (hR:∀ W',((∃ xs:List (List Int × Value),xs.map (·.1)=gK q∧J xs W')∨(∃ pre:List (List Int × Value),pre.map (·.1) <+: gK q∧Jx pre W'))→R (.returned (.tuple #[])) W') :
  cO.wpIn (Fen none) 2 Tp (bodyPost Tp Tryz.f182 R) a w:=by
 have hpow:=bUq hq;obtain ⟨N,hN⟩:∃ N,2 ^ q.length=N:=⟨_,rfl⟩;rw [hN] at hpow
 have c0 : cO = .seq (sub cO [0]) (.block 0 (.loop (.seq (sub cO [1, 0, 0, 0]) (.seq (.cond (.tmp 10) .skip (.exit 0)) (.seq (.block 1 (.seq (sub cO [1, 0, 0, 1, 1, 0, 0, 0]) (.seq (sub cO [1, 0, 0, 1, 1, 0, 0, 1, 0]) (.seq (.seq (sub cO [1, 0, 0, 1, 1, 0, 0, 1, 1, 0, 0]) (.block 2 (.loop (sub cO [1, 0, 0, 1, 1, 0, 0, 1, 1, 0, 1, 0, 0])))) (.seq (.region 10 #[{ dst := some 30, op := .move (.tmp 0), type := 155, pos := "outcome.go:38", after := #[], guard := none }, { dst := some 31, op := .move (.tmp 4), type := 33, pos := "outcome.go:38", after := #[], guard := none }, { dst := some 32, op := .call { callee := .value (.tmp 30), args := #[.tmp 31], argTypes := #[33] }, type := 4, pos := "outcome.go:38", after := #[{ on := 0, ground := .data }, { on := 1, ground := .data }], guard := none }, { dst := some 33, op := .unOp .not 4 (.tmp 32), type := 4, pos := "outcome.go:38", after := #[{ on := 2, ground := .data }], guard := none }] false) (.cond (.tmp 33) .ret .skip)))))) (sub cO [1, 0, 0, 1, 1, 1])))))) := by kernel_rfl
 rw [c0];have hsame:∀ {W'},KpG F w W'→Rep (cxF F) [] W' (.rp [aF q] 0) v0:=fun hk=>by
  cases hr with
  | rp _ _ b o us h1 h2 h3 =>
   exact .rp _ _ b o us (fun i hi=>⟨(h1 i hi).1,(eV (hk.same b (h1 i hi).1) _).trans (h1 i hi).2⟩) (fun i hi=>(h2 i hi).mono (fun _ h=>h) hk.same) h3
 have hFw:∀ {W'},KpG F w W'→∀ b,F b→b<W'.heap.size:=fun hk b hb=>gF (hF b hb) hk.size
 have Vv:(1:Int)*2 ^ ((q.length:Int).toNat)=(N:Int):=by
  rw [aMq,Int.one_mul,← hN];push_cast;rfl
 have Uf:InK (cxF F) w v0 ⟨fr 35 [(0,.yld l),(1,.rp [aF q] 0)],[]⟩ a w:=by
  refine ⟨⟨cxF F,aSl ha ?_,bCj hF,Fr.refl _ _ _,by rw [had];exact .nil rfl (qU rfl)⟩,Ol,had⟩
  intro p hp;simp only [fW,List.not_mem_nil,or_false] at hp
  rcases hp with rfl | rfl
  ·rw [Yh];exact .yld l
  ·rw [Ol];exact hr
 refine wpIn_seq ?_;refine InK.step (cAv (l:=l) (q:=q) ⟨by omega,by omega,rfl⟩ (by rw [Vv];exact bCk (by omega))) (by kernel_rfl) Uf fun a1 w1 h1 => ?_
 rw [Vv] at h1
 refine wpIn_block ?_;refine wpIn_loop_ghost (fun k a W=>∃ s,s≤N∧k=N-s∧Lp l v0 (N:Int) s a∧KpG F w W∧∃ pre:List (List Int × Value),pre.map (·.1)=(gK q).take s∧J pre W) (N)
  ⟨0,by omega,by omega,h1.lp (s:=0) (by rfl) (by rfl) (by rfl) (by rfl),h1.kp hF,[],by simp,hJ [] w w1 none h0 h1.grown (fun r e=>by cases e)⟩ ?_
 rintro k a W ⟨s,hs,rfl,hL,hK,pre,hpre,hJp⟩;have hI:=hL.ink (hFw hK) (hsame hK);have grow:∀ {W0 W':World} {ys},KpG F w W0→J ys W0→W0.grownBy W' none→J ys W':=fun hk hj hg=>hJ _ _ _ none hj hg (fun r e=>by cases e)
 refine wpIn_seq ?_;refine InK.step cAw (by kernel_rfl) hI fun a2 w2 h2 => ?_
 have Qs:a2.eval (.tmp 10) = .bool (decide ((s:Int)<(N:Int))):=by
  obtain ⟨⟨C2,Qt,_⟩,_⟩:=id h2;have:=xW Qt 10 (by omega)
  show a2.tmps.getD 10 undef=_;revert this;generalize a2.tmps.getD 10 undef=u;intro this;have h3:Rep C2 _ w2 (.p (.v (.bool (decide ((s:Int)<(N:Int)))))) u:=this;cases h3 with
  | p _ _ h=>cases h;rfl
 refine wpIn_seq ?_
 by_cases hlt:s<N
 ·refine wpIn_cond_true (by rw [Qs,decide_eq_true (by omega)]) (wpIn_skip ?_)
  show Code.wpIn _ _ _ _ _ _ _;have G1:InK (cxF F) W v0 (stA l q (N:Int) s) a2 w2:=⟨(eX (g:=⟨[10],[],[],[]⟩) (k:=0) (dF _) (by kernel_rfl) h2.1),h2.2⟩
  refine wpIn_seq ?_;refine wpIn_block ?_;refine wpIn_seq ?_;refine InK.step cAx (by kernel_rfl) G1 fun a3 w3 h3 => ?_
  refine wpIn_seq ?_;refine InK.step cAy (by kernel_rfl) h3 fun a4 w4 h4 => ?_
  refine wpIn_seq ?_;refine wpIn_seq ?_;refine InK.step cAz (by kernel_rfl) h4 fun a5 w5 h5 => ?_
  refine bUr hq (by omega) h5 fun a6 w6 h6 => ?_
  refine wpIn_seq ?_;have Mz:Lp l v0 (N:Int) s a6:=h6.lp (s:=s) (by rfl) (by rfl) (by rfl) (by rfl)
  have hpl:pre.length=s:=by
   have:=congrArg List.length hpre;rw [Co,oD,zM,hN] at this
   omega
  have hrow:bUt Tp (fO q s q.length,a6.tmps.getD 4 undef) W w6:=h6.rowH (by rfl) (by rfl) (fL (aSm q s q.length) (by omega))
  have hmap:(pre++[(fO q s q.length,a6.tmps.getD 4 undef)]).map (·.1)=(gK q).take (s+1):=by
   rw [bNo q s (hN ▸ hlt),iA,hpre];rfl
  refine aOi Mz.size Mz.s0 rfl (hY pre _ W w6 hJp h6.grown hrow (by omega)) (A:=fun W'=>J (pre++[(fO q s q.length,a6.tmps.getD 4 undef)]) W'∧KpG F W W') (B:=fun W'=>Jx (pre++[(fO q s q.length,a6.tmps.getD 4 undef)]) W') ?_ ?_
  ·rintro a7 w7 ⟨Ug,Yi⟩ Uh Tn Em Md
   refine wpIn_cond_false Md (wpIn_skip ?_);show Code.wpIn _ _ _ _ _ _ _;have Yj:Lp l v0 (N:Int) s a7:=⟨Tn,(Em 0 (by omega)).trans Mz.s0,(Em 1 (by omega)).trans Mz.s1,(Em 8 (by omega)).trans Mz.s8,(Em 9 (by omega)).trans Mz.s9,Uh.trans Mz.df⟩
   have Qu:=hK.trans Yi;refine InK.step (cBf (bCk (by omega))) (by kernel_rfl) (Yj.ink (hFw Qu) (hsame Qu)) fun a8 w8 h8 => ?_
   exact ⟨N-(s+1),by omega,s+1,by omega,rfl,h8.lp (by rfl) (by rfl) (by rfl) (by rfl),Qu.trans (h8.kp (hFw Qu)),_,hmap,grow Qu Ug h8.grown⟩
  ·rintro a7 w7 Ug Uh Md
   refine wpIn_cond_true Md (wpIn_ret ?_);exact bodyPost_ret (results_none rfl _ _ _) (Uh.trans Mz.df) (hR _ (.inr ⟨_,by rw [hmap];exact List.take_prefix _ _,Ug⟩))
 ·have hsN:s=N:=by omega
  subst hsN;refine wpIn_cond_false (by rw [Qs,decide_eq_false (by omega)]) (wpIn_exit ?_)
  have Hm:Lp l v0 (s:Int) s a2:=h2.lp (by rfl) (by rfl) (by rfl) (by rfl)
  show Exit.inBlock 0 (bodyPost Tp Tryz.f182 R) (.exit 0) a2 w2;unfold Exit.inBlock;dsimp only;rw [if_pos rfl];refine ⟨Hm.df,_,results_none rfl _ _ _,hR _ (.inl ⟨pre,?_,grow hK hJp h2.grown⟩)⟩;rw [hpre,← hN,← zM,List.take_length]
theorem cOc{C:Cx}{M:Mem}{w:World}{cs:List PV}{k:Nat}{u:Value}(h:Rep C M w (.rp cs k) u):Rep (cxF C.F) [] w (.rp cs k) u:=by
 cases h with
 | rp _ _ b o us h1 h2 h3=>exact .rp _ _ b o us h1 h2 h3
theorem cOd{F:Nat→Prop}{w W:World}{cs:List PV}{k:Nat}{u:Value}(h:Rep (cxF F) [] w (.rp cs k) u)(hk:KpG F w W):Rep (cxF F) [] W (.rp cs k) u:=by
 cases h with
 | rp _ _ b o us h1 h2 h3=>exact .rp _ _ b o us (fun i hi=>⟨(h1 i hi).1,(eV (hk.same b (h1 i hi).1) _).trans (h1 i hi).2⟩) (fun i hi=>(h2 i hi).mono (fun _ h=>h) hk.same) h3
theorem bNq(y v0:Value)(k:Nat):(#[y] ++ #[v0]++Array.replicate k undef).size=2+k∧(#[y] ++ #[v0]++Array.replicate k undef).getD 0 undef=y∧(#[y] ++ #[v0]++Array.replicate k undef).getD 1 undef=v0:=by
 refine ⟨by simp,?_,?_⟩ <;> simp [Cb,Array.getElem?_append]
theorem aLa(q:List Int)(hq:q.length≤60):cCx Tp (.fn 182 [] [.rp [aF q] 0]) 182 (2 ^ q.length) (gK q):=fun C M w u Px hFs=>by
 cases Px with
 | fn _ _ _ us vs h1 h2 h3 h4 =>
  obtain rfl:us = #[]:=by simpa using h1
  have q0:=h4 0 (by simp)
  simp only [List.getElem_cons_zero] at q0
  obtain ⟨v0,rfl⟩:∃ v0,vs = #[v0]:=by
   have:vs.toList.length=1:=by simpa using h2
   match hv:vs.toList,this with
   | [x0],_=>exact ⟨x0,by rw [← hv]⟩
  change Rep C M w (.rp [aF q] 0) v0 at q0
  have hr:=cOc q0;refine ⟨#[v0],rfl,fun l J Jx W hW hJ hJx hY h0 => ?_⟩
  have hk:KpG C.F w W:=⟨hW.size,fun b hb=>hW.block b (hFs b hb)⟩
  have Hj:=cOd hr hk;refine callsIn_of_wp func182 rfl trivial ?_ rfl;obtain ⟨k1,k2,k3⟩:=bNq (.func (.yield l) #[] #[]) v0 (Tryz.f182.ntmps-(#[Value.func (.yield l) #[] #[]] ++ #[v0]).size);exact bNp hq (fun b hb=>gF (hFs b hb) hW.size) Hj (a:={ tmps := #[.func (.yield l) #[] #[]] ++ #[v0]++Array.replicate (Tryz.f182.ntmps-(#[Value.func (.yield l) #[] #[]] ++ #[v0]).size) undef,defers:=[] }) k1 k2 k3 rfl hJ hJx hY h0 fun W' h=>⟨⟨_,rfl⟩,h⟩
end KV
end Go.Proofs
end
namespace Go.Proofs
namespace KV
open Tryz
section
variable {r0 Bj:Bool}{m n dl tm bib Aj:Int}{dc sk:Lqq}{c l c' D6:List Int}{i j i' i0 j' Bm Dc Ry base:Nat}
variable {dl:Int}{sk dc:Lqq}

noncomputable abbrev qG:Code:=sub (cd Tryz.f129) [1,0,1,0,0]
noncomputable abbrev uU:Code:=sub (cd Tryz.f54) [1,1,1,0,1,0,0]
theorem bUn:((-1:Int) == (-1))=true:=by first | decide | simp
theorem aYr{q:List Int}:FV Tp 132 [(.p (aF q))] base (.fn 182 [] [(.rp [(aF q)] 0)]) []:=FV.fi func132 [.g 3 ⟨[],[],[0],[]⟩] gn
abbrev bUo(dl:Int)(sk dc:Lqq)(x:List Int)(r:Int):Prop:=∀ base:Nat,FV Tp 128 [uM dl sk dc,.p (.agg (x.map aB))] base (pI r) []
theorem cLl{y0 y1 y2 y3 y4 y5 r6:Int}(h0:cR .i64 (atF dc.reverse) (.int .i64 n))(h1:(eA (atF dc.reverse) (.int .i64 n))=true)(h2:gG (atF dc.reverse) (.int .i64 n)=some (dcE y0 y1 y2 y3 y4 y5))(h3:bUo dl sk dc [y0,y1,y2,y3,y4,y5] r6)(A6:r0=(r6 != bib)):FV Tp 189 [(pI n),(.rp [(PV.rp (aZ dl sk dc) 0)] 0),(.rp [(aB bib),(aB tm)] 0)] base (pB r0) []:=by
 subst A6;exact FV.fi func189 [.x (PV.rp (aZ dl sk dc) 0),.x (PV.rp (aZ dl sk dc) 0),.x (.mp (atF dc.reverse)),bT,.x (dcE y0 y1 y2 y3 y4 y5),.c (pI r6) [],.x (aB bib)] (gr (aB bib) (gc (fk 0 (h3 _) rfl) (gc h2 (gc h1 (gc h0 (gr (.mp (atF dc.reverse)) (gr (PV.rp (aZ dl sk dc) 0) (gr (PV.rp (aZ dl sk dc) 0) gn))))))))
theorem cLm(A6:r0=(n == m)):FV Tp 133 [(pI n),(.rp [(aB m)] 0)] base (pB r0) []:=by
 subst A6;exact FV.fi func133 [.x (aB m)] (gr (aB m) gn)
abbrev bUp(dl:Int)(sk dc:Lqq):PV := .rp (aZ dl sk dc) 0
abbrev aYs(dl:Int)(sk dc:Lqq)(bib tm n:Int)(b:Bool):Prop:=∀ base:Nat,FV Tp 189 [.p (aB n),.rp [bUp dl sk dc] 0,.rp [aB bib,aB tm] 0] base (pB b) []
theorem aOh(n m:Int){base:Nat}:FV Tp 133 [.p (aB n),.rp [aB m] 0] base (pB (n == m)) []:=cLm rfl
def jF(l:List Int)(dl:Int)(sk dc:Lqq)(bib tm:Int)(i:Nat):St:=⟨fr 19 [(0,(.own 0)),(1,(.fn 189 [] [(.rp [(PV.rp (aZ dl sk dc) 0)] 0),(.rp [(aB bib),(aB tm)] 0)])),(7,(pI (l.length:Int))),(8,(pI (i:Int)))],[some (.row 3 l.length (l.map aB))]⟩
theorem cAo(hl0:aD Tp 1 qG (jF l dl sk dc bib tm 0) (.exit 0) (jF l dl sk dc bib tm Bm)):FMM Tp 129 [(.own 0),(.fn 189 [] [(.rp [(PV.rp (aZ dl sk dc) 0)] 0),(.rp [(aB bib),(aB tm)] 0)])] [some (.row 3 l.length (l.map aB))] (pI (-1)) [some (.row 3 l.length (l.map aB))]:=FMM.fi 1 gE func129 [hl0.k 6 (gZ ga)] (gc hl0.code gn)
theorem cAp(hl0:aD Tp 1 qG (jF l dl sk dc bib tm 0) .ret (bQ (jF l dl sk dc bib tm Bm) [(4,(pI (Bm:Int)))])):FMM Tp 129 [(.own 0),(.fn 189 [] [(.rp [(PV.rp (aZ dl sk dc) 0)] 0),(.rp [(aB bib),(aB tm)] 0)])] [some (.row 3 l.length (l.map aB))] (pI (Bm:Int)) [some (.row 3 l.length (l.map aB))]:=FMM.fi 1 gE func129 [hl0.k 6 (gZ ga)] (gc hl0.code gn)
section
variable(h0:(i:Int)<(l.length:Int))(h1:l[i]? = some Aj)(h2:aYs dl sk dc bib tm Aj Bj)
include h0 h1 h2
theorem aYt(h3:Bj=true):aC Tp 1 qG (jF l dl sk dc bib tm i) .ret (bQ (jF l dl sk dc bib tm i) [(4,(pI (i:Int)))]):=aC.fi (gZ fm) [bT,.x (aB Aj),.c (pB Bj) [],bT] (gc h3 (gc (fk 1 (h2 _) rfl) (gc (atm aB h1) (gc (cG (i:=(i:Int)) (Bp _) h1) (g0 h0)))))
theorem aYu(h3:Bj=false)(h4:gk i)(Ai:i'=(i+1)):aC Tp 1 qG (jF l dl sk dc bib tm i) .normal (jF l dl sk dc bib tm i'):=by
 subst Ai;exact aC.fi (gZ ga) [bT,.x (aB Aj),.c (pB Bj) [],bF] (gc h4 (gc h3 (gc (fk 1 (h2 _) rfl) (gc (atm aB h1) (gc (cG (i:=(i:Int)) (Bp _) h1) (g0 h0))))))
end
theorem aYv(h0:(l.length:Int)≤(i:Int)):aC Tp 1 qG (jF l dl sk dc bib tm i) (.exit 0) (jF l dl sk dc bib tm i):=aC.fi (gZ ga) [bF] (gc (aK h0) gn)
abbrev cAq(l:List Int)(dl:Int)(sk dc:Lqq)(bib tm i:Int):Prop:=FMM Tp 129 [.own 0,(.fn 189 [] [(.rp [(PV.rp (aZ dl sk dc) 0)] 0),(.rp [(aB bib),(aB tm)] 0)])] [some (.row 3 l.length (l.map aB))] (pI i) [some (.row 3 l.length (l.map aB))]
def qH(dl:Int)(sk dc:Lqq)(bib tm:Int)(cn:Nat)(cc:List PV)(i j:Nat):St:=⟨fr 42 [(0,(.own 0)),(1,(.fn 189 [] [(.rp [(PV.rp (aZ dl sk dc) 0)] 0),(.rp [(aB bib),(aB tm)] 0)])),(4,(.p cC)),(5,(pI (i:Int))),(6,(pI (j:Int)))],[some (.row 3 cn cc)]⟩
theorem cLn{Fh:List PV}(h0:cAq l dl sk dc bib tm (i0:Int))(h1:(i0:Int)≠(-1:Int))(h2:gk i0)(Dl:aD Tp 1 uU (qH dl sk dc bib tm l.length (l.map aB) i0 (i0+1)) (.exit 0) (qH dl sk dc bib tm D6.length (D6.map aB) Dc Ry))(h4:0≤(Dc:Int)∧(Dc:Int)≤(D6.length:Int)∧(D6.length:Int)≤(D6.length:Int))(h5:(Dc*1)+(D6.length-Dc)≤(D6.map aB).length)(h6:0≤(0:Int)∧(0:Int)≤(Dc:Int)∧(Dc:Int)≤(D6.length:Int))(Es:Fh=((((D6.map aB).take (Dc*1)++List.replicate (D6.length-Dc) (PV.v (.int .i64 0))++(D6.map aB).drop ((Dc*1)+(List.replicate (D6.length-Dc) (PV.v (.int .i64 0))).length)).drop 0).take (Dc*(((D6.map aB).take (Dc*1)++List.replicate (D6.length-Dc) (PV.v (.int .i64 0))++(D6.map aB).drop ((Dc*1)+(List.replicate (D6.length-Dc) (PV.v (.int .i64 0))).length)).length / D6.length)))):FMM Tp 54 [(.own 0),(.fn 189 [] [(.rp [(PV.rp (aZ dl sk dc) 0)] 0),(.rp [(aB bib),(aB tm)] 0)])] [some (.row 3 l.length (l.map aB))] (.p (.sl Dc Fh)) [some .dead]:=by
 subst Es;have k1:=mq [0] 1 h0;exact FMM.fi 1 ⟨[],[],[0],[]⟩ func54 [k1.o,bF,Dl.k 4 (gZ gb)] (gc h6 (gc h5 (gc h4 (gc Dl.code (gc h2 (gc (aS h1) (gc k1 gn)))))))
theorem cLo(h0:cAq l dl sk dc bib tm (-1)):FMM Tp 54 [(.own 0),(.fn 189 [] [(.rp [(PV.rp (aZ dl sk dc) 0)] 0),(.rp [(aB bib),(aB tm)] 0)])] [some (.row 3 l.length (l.map aB))] (.p (aF l)) [some .dead]:=have k1:=mq [0] 1 h0;FMM.fi 1 ⟨[],[],[0],[]⟩ func54 [k1.o,bT] (gc bUn (gc k1 gn))
section
variable(h0:(j:Int)<(c.length:Int))(h1:c[j]? = some Aj)(h2:aYs dl sk dc bib tm Aj Bj)
include h0 h1 h2
theorem bNi{Ue:Int}(h3:Bj=false)(h4:c[i]? = some Ue)(h5:(i*1)<(c.map aB).length)(h6:gk i)(h7:gk j)(N3:c'.length=c.length)(N4:c'.map aB=((c.map aB).set (i*1) (aB Aj)))(Ai:i'=(i+1))(Fl:j'=(j+1)):aC Tp 1 uU (qH dl sk dc bib tm c.length (c.map aB) i j) .normal (qH dl sk dc bib tm c'.length (c'.map aB) i' j'):=by
 subst Ai Fl;rw [N3,N4];exact aC.fi (gZ gb) [bT,.x (aB Aj),.c (pB Bj) [],bT] (gc h7 (gc h6 (gc h5 (gc (cG (i:=(i:Int)) (Bp _) h4) (gc (bN h3) (gc (fk 1 (h2 _) rfl) (gc (atm aB h1) (gc (cG (i:=(j:Int)) (Bp _) h1) (g0 h0)))))))))
theorem bNj(h3:Bj=true)(h4:gk j)(Fl:j'=(j+1)):aC Tp 1 uU (qH dl sk dc bib tm c.length (c.map aB) i j) .normal (qH dl sk dc bib tm c.length (c.map aB) i j'):=by
 subst Fl;exact aC.fi (gZ gb) [bT,.x (aB Aj),.c (pB Bj) [],bF] (gc h4 (gc (aR h3) (gc (fk 1 (h2 _) rfl) (gc (atm aB h1) (gc (cG (i:=(j:Int)) (Bp _) h1) (g0 h0))))))
end
theorem bNk(h0:(c.length:Int)≤(j:Int)):aC Tp 1 uU (qH dl sk dc bib tm c.length (c.map aB) i j) (.exit 0) (qH dl sk dc bib tm c.length (c.map aB) i j):=aC.fi (gZ gb) [bF] (gc (aK h0) gn)
def jG(l:List Int)(m:Int)(i:Nat):St:=⟨fr 19 [(0,(.own 0)),(1,(.fn 133 [] [(.rp [(aB m)] 0)])),(7,(pI (l.length:Int))),(8,(pI (i:Int)))],[some (.row 3 l.length (l.map aB))]⟩
theorem cAr(hl0:aD Tp 1 qG (jG l m 0) (.exit 0) (jG l m Bm)):FMM Tp 129 [(.own 0),(.fn 133 [] [(.rp [(aB m)] 0)])] [some (.row 3 l.length (l.map aB))] (pI (-1)) [some (.row 3 l.length (l.map aB))]:=FMM.fi 1 gE func129 [hl0.k 6 (gZ ga)] (gc hl0.code gn)
theorem cAs(hl0:aD Tp 1 qG (jG l m 0) .ret (bQ (jG l m Bm) [(4,(pI (Bm:Int)))])):FMM Tp 129 [(.own 0),(.fn 133 [] [(.rp [(aB m)] 0)])] [some (.row 3 l.length (l.map aB))] (pI (Bm:Int)) [some (.row 3 l.length (l.map aB))]:=FMM.fi 1 gE func129 [hl0.k 6 (gZ ga)] (gc hl0.code gn)
section
variable(h0:(i:Int)<(l.length:Int))(h1:l[i]? = some Aj)
include h0 h1
theorem aYw(h2:(Aj == m)=true):aC Tp 1 qG (jG l m i) .ret (bQ (jG l m i) [(4,(pI (i:Int)))]):=aC.fi (gZ fm) [bT,.x (aB Aj),.c (pB (Aj == m)) [],bT] (gc h2 (gc (fk 1 (aOh Aj m) rfl) (gc (atm aB h1) (gc (cG (i:=(i:Int)) (Bp _) h1) (g0 h0)))))
theorem aYx(h2:(Aj == m)=false)(h3:gk i)(Ai:i'=(i+1)):aC Tp 1 qG (jG l m i) .normal (jG l m i'):=by
 subst Ai;exact aC.fi (gZ ga) [bT,.x (aB Aj),.c (pB (Aj == m)) [],bF] (gc h3 (gc h2 (gc (fk 1 (aOh Aj m) rfl) (gc (atm aB h1) (gc (cG (i:=(i:Int)) (Bp _) h1) (g0 h0))))))
end
theorem aYy(h0:(l.length:Int)≤(i:Int)):aC Tp 1 qG (jG l m i) (.exit 0) (jG l m i):=aC.fi (gZ ga) [bF] (gc (aK h0) gn)
abbrev cAt(l:List Int)(m i:Int):Prop:=FMM Tp 129 [.own 0,(.fn 133 [] [(.rp [(aB m)] 0)])] [some (.row 3 l.length (l.map aB))] (pI i) [some (.row 3 l.length (l.map aB))]
def qJ(m:Int)(cn:Nat)(cc:List PV)(i j:Nat):St:=⟨fr 42 [(0,(.own 0)),(1,(.fn 133 [] [(.rp [(aB m)] 0)])),(4,(.p cC)),(5,(pI (i:Int))),(6,(pI (j:Int)))],[some (.row 3 cn cc)]⟩
theorem cLp{Fh:List PV}(h0:cAt l m (i0:Int))(h1:(i0:Int)≠(-1:Int))(h2:gk i0)(Dl:aD Tp 1 uU (qJ m l.length (l.map aB) i0 (i0+1)) (.exit 0) (qJ m D6.length (D6.map aB) Dc Ry))(h4:0≤(Dc:Int)∧(Dc:Int)≤(D6.length:Int)∧(D6.length:Int)≤(D6.length:Int))(h5:(Dc*1)+(D6.length-Dc)≤(D6.map aB).length)(h6:0≤(0:Int)∧(0:Int)≤(Dc:Int)∧(Dc:Int)≤(D6.length:Int))(Es:Fh=((((D6.map aB).take (Dc*1)++List.replicate (D6.length-Dc) (PV.v (.int .i64 0))++(D6.map aB).drop ((Dc*1)+(List.replicate (D6.length-Dc) (PV.v (.int .i64 0))).length)).drop 0).take (Dc*(((D6.map aB).take (Dc*1)++List.replicate (D6.length-Dc) (PV.v (.int .i64 0))++(D6.map aB).drop ((Dc*1)+(List.replicate (D6.length-Dc) (PV.v (.int .i64 0))).length)).length / D6.length)))):FMM Tp 54 [(.own 0),(.fn 133 [] [(.rp [(aB m)] 0)])] [some (.row 3 l.length (l.map aB))] (.p (.sl Dc Fh)) [some .dead]:=by
 subst Es;have k1:=mq [0] 1 h0;exact FMM.fi 1 ⟨[],[],[0],[]⟩ func54 [k1.o,bF,Dl.k 4 (gZ gb)] (gc h6 (gc h5 (gc h4 (gc Dl.code (gc h2 (gc (aS h1) (gc k1 gn)))))))
theorem cLq(h0:cAt l m (-1)):FMM Tp 54 [(.own 0),(.fn 133 [] [(.rp [(aB m)] 0)])] [some (.row 3 l.length (l.map aB))] (.p (aF l)) [some .dead]:=have k1:=mq [0] 1 h0;FMM.fi 1 ⟨[],[],[0],[]⟩ func54 [k1.o,bT] (gc bUn (gc k1 gn))
section
variable(h0:(j:Int)<(c.length:Int))(h1:c[j]? = some Aj)
include h0 h1
theorem bNl{Cr:Int}(h2:(Aj == m)=false)(h3:c[i]? = some Cr)(h4:(i*1)<(c.map aB).length)(h5:gk i)(h6:gk j)(N3:c'.length=c.length)(N4:c'.map aB=((c.map aB).set (i*1) (aB Aj)))(Ai:i'=(i+1))(Fl:j'=(j+1)):aC Tp 1 uU (qJ m c.length (c.map aB) i j) .normal (qJ m c'.length (c'.map aB) i' j'):=by
 subst Ai Fl;rw [N3,N4];exact aC.fi (gZ gb) [bT,.x (aB Aj),.c (pB (Aj == m)) [],bT] (gc h6 (gc h5 (gc h4 (gc (cG (i:=(i:Int)) (Bp _) h3) (gc (bN h2) (gc (fk 1 (aOh Aj m) rfl) (gc (atm aB h1) (gc (cG (i:=(j:Int)) (Bp _) h1) (g0 h0)))))))))
theorem bNm(h2:(Aj == m)=true)(h3:gk j)(Fl:j'=(j+1)):aC Tp 1 uU (qJ m c.length (c.map aB) i j) .normal (qJ m c.length (c.map aB) i j'):=by
 subst Fl;exact aC.fi (gZ gb) [bT,.x (aB Aj),.c (pB (Aj == m)) [],bF] (gc h3 (gc (aR h2) (gc (fk 1 (aOh Aj m) rfl) (gc (atm aB h1) (gc (cG (i:=(j:Int)) (Bp _) h1) (g0 h0))))))
end
theorem bNn(h0:(c.length:Int)≤(j:Int)):aC Tp 1 uU (qJ m c.length (c.map aB) i j) (.exit 0) (qJ m c.length (c.map aB) i j):=aC.fi (gZ gb) [bF] (gc (aK h0) gn)
end
section
structure aDg (p:Int→Bool) (l:List Int) (j:Nat) (x:List Int × Nat):Prop where
 len:x.1.length=l.length
 le:x.2<j
 kept:x.1.take x.2=(l.take j).filter fun n => !p n
 rest:x.1.drop j=l.drop j
theorem aDg.skip{p:Int→Bool}{l:List Int}{j:Nat}{x:List Int × Nat}(h:aDg p l j x)(hj:j<l.length){n:Int}(hn:x.1[j]? = some n)(hp:p n=true):aDg p l (j+1) x:=by
 have hl:l[j]? = some n:=by
  have:=congrArg (·[0]?) h.rest
  simp only [List.getElem?_drop,Nat.add_zero] at this
  rw [← this];exact hn
 refine ⟨h.len,by have:=h.le;omega,?_,?_⟩
 ·rw [h.kept,List.take_add_one,hl]
  simp [oO,hp]
 ·rw [← List.drop_drop,h.rest,List.drop_drop]
theorem aDg.keep{p:Int→Bool}{l:List Int}{j:Nat}{x:List Int × Nat}(h:aDg p l j x)(hj:j<l.length){n:Int}(hn:x.1[j]? = some n)(hp:p n=false):aDg p l (j+1) (x.1.set x.2 n,x.2+1):=by
 have hl:l[j]? = some n:=by
  have:=congrArg (·[0]?) h.rest
  simp only [List.getElem?_drop,Nat.add_zero] at this
  rw [← this];exact hn
 have hle:=h.le;have hlen:=h.len;refine ⟨by simp [h.len],by simpa using hle,?_,?_⟩
 ·show (x.1.set x.2 n).take (x.2+1)=_
  rw [List.take_add_one,List.take_set_of_le (dF _),h.kept,bRi (by omega),List.take_add_one,hl]
  simp [oO,hp]
 ·show (x.1.set x.2 n).drop (j+1)=_
  rw [List.drop_set_of_lt (by omega),← List.drop_drop,h.rest,List.drop_drop]
theorem aDg.start{p:Int→Bool}{l:List Int}{i:Nat}{n:Int}(hi:l[i]? = some n)(hp:p n=true)(hb:∀ m∈l.take i,p m=false):aDg p l (i+1) (l,i):=by
 refine ⟨rfl,Nat.lt_succ_self _,?_,rfl⟩;show l.take i=_;rw [List.take_add_one,hi];simp only [oO];rw [List.filter_eq_self.2 fun m hm=>by simp [hb m hm]]
 simp [hp]
theorem aCq{p:Int→Bool}{l:List Int}{i:Nat}(h:l.findIdx? p=some i):∀ m∈l.take i,p m=false:=fun m hm=>by
 obtain ⟨hi,h1,h2⟩:=List.findIdx?_eq_some_iff_getElem.1 h;obtain ⟨j,hj,rfl⟩:=List.getElem_of_mem hm;rw [List.getElem_take];rw [oD] at hj
 have:=h2 j (by omega)
 simpa using this

theorem cAm{l:List Int}{dl:Int}{sk dc:Lqq}{bib tm:Int}(hl:l.length≤1000){p:Int→Bool}(hp:∀ n∈l,aYs dl sk dc bib tm n (p n)) :
  (∃ i n,l[i]? = some n∧l.findIdx? p=some i∧p n=true∧cAq l dl sk dc bib tm (i:Int))∨(l.any p=false∧cAq l dl sk dc bib tm (-1)):=by
 rcases aD.find (P:=Tp) (k:=1) (b:=(sub (cd Tryz.f129) g8)) (fun i=>jF l dl sk dc bib tm i) (fun i _=>bQ (jF l dl sk dc bib tm i) [(4,.p (aB (i:Int)))]) (jF l dl sk dc bib tm l.length) .ret (.exit 0) (by simp) (by simp) p l
  (fun i x hx hq=>aYu (by have:=aM hx;omega) hx (hp x (Bl hx)) hq (aI (by have:=aM hx;omega)) rfl)
  (fun i x hx hq=>aYt (by have:=aM hx;omega) hx (hp x (Bl hx)) hq)
  (aYv (by omega)) with ⟨i,x,h1,h2,h3,h4⟩ | ⟨h1,h2,h3⟩
 ·exact .inl ⟨i,x,h1,h2,h3,cAp h4⟩
 ·exact .inr ⟨h2,cAo h3⟩
theorem cLk{l:List Int}{dl:Int}{sk dc:Lqq}{bib tm:Int}(hl:l.length≤1000){p:Int→Bool}(hp:∀ n∈l,aYs dl sk dc bib tm n (p n)) :
  FMM Tp 54 [.own 0,.fn 189 [] [.rp [bUp dl sk dc] 0,.rp [aB bib,aB tm] 0]] [some (.row 3 l.length (l.map aB))] (.p (aF (l.filter fun n => !p n))) [some .dead]:=by
 rcases cAm hl hp with ⟨i,n,h1,h2,h3,h4⟩ | ⟨h1,h2⟩
 ·have hi:=aM h1
  obtain ⟨d,hm⟩:∃ d,i+1+d=l.length:=⟨l.length-(i+1),by omega⟩
  obtain ⟨⟨c,k⟩,hI,hL⟩:=aD.ex (P:=Tp) (k:=1) (b:=(sub (cd Tryz.f54) ey)) (e := .exit 0) (fun j (x:List Int × Nat)=>qH dl sk dc bib tm x.1.length (x.1.map aB) x.2 (i+1+j)) (fun x=>qH dl sk dc bib tm x.1.length (x.1.map aB) x.2 l.length) (fun j x=>aDg p l (i+1+j) x∧∀ n∈x.1,n∈l) (by simp) d
   (fun j x hj hx=>by
    obtain ⟨hI,hs⟩:=hx;have hlt:i+1+j<x.1.length:=by rw [hI.len];omega
    have hle:=hI.le;have hlen:=hI.len;obtain ⟨y,hy⟩:∃ y,x.1[i+1+j]? = some y:=⟨_,Ay hlt⟩;have hyl:=hs y (Bl hy);cases hq:p y with
    | true=>exact ⟨x,⟨hI.skip (by omega) hy hq,hs⟩,bNj (by omega) hy (hp y hyl) hq (aI (by omega)) rfl⟩
    | false =>
     obtain ⟨z,hz⟩:∃ z,x.1[x.2]? = some z:=⟨_,Ay (by omega)⟩
     refine ⟨_,⟨hI.keep (by omega) hy hq,fun n hn => ?_⟩,bNi (c:=x.1) (c':=x.1.set x.2 y) (by omega) hy (hp y hyl) hq hz (by rw [Co];omega) (aI (by omega)) (aI (by omega)) (by simp) (by rw [List.map_set,Nat.mul_one]) rfl rfl⟩
     rcases List.mem_or_eq_of_mem_set hn with h | rfl
     ·exact hs n h
     ·exact hyl)
   (fun x hx=>by
    have:=bNk (dl:=dl) (sk:=sk) (dc:=dc) (bib:=bib) (tm:=tm) (c:=x.1) (i:=x.2) (j:=l.length) (by rw [hx.1.len];omega)
    rw [show i+1+d=l.length from hm];exact this)
   (acc:=(l,i)) ⟨aDg.start h1 h3 (aCq h2),fun n h=>h⟩
  obtain ⟨hI,_⟩:=hI;have hlen:=hI.len;have hle:=hI.le;have hk:=hI.kept;simp only [hm,List.take_length] at hlen hle hk
  have fin:=cLn (l:=l) (D6:=c) (Dc:=k) (Ry:=l.length) (Fh:=(c.take k).map aB) h4 (by omega) (aI (by omega)) hL ⟨by omega,by omega,by omega⟩ (by rw [Co];omega) ⟨by omega,by omega,by omega⟩ (by
   rw [List.drop_zero,Nat.mul_one,List.length_replicate];have Hm:(((c.map aB).take k)++List.replicate (c.length-k) (PV.v (.int .i64 0))++(c.map aB).drop (k+(c.length-k))).length=c.length:=by
    simp only [iJ,oD,Co,List.length_replicate,bXb];omega
   rw [Hm,Nat.div_self (by omega),Nat.mul_one,List.append_assoc,List.take_append_of_le_length (by rw [oD,Co];omega),List.take_take,Nat.min_self,List.map_take])
  rw [← hk];have e:aF (c.take k) = .sl k ((c.take k).map aB):=by
   show PV.sl (c.take k).length _=_;rw [oD,Nat.min_eq_left (by omega)]
  rw [e];exact fin
 ·have:(l.filter fun n => !p n)=l:=List.filter_eq_self.2 fun n hn=>by
   have:=List.any_eq_false.1 h1 n hn;simpa using this
  rw [this];exact cLo h2

theorem cAn{l:List Int}{m:Int}(hl:l.length≤1000){p:Int→Bool}(hp:∀ n∈l,p n=(n == m)) :
  (∃ i n,l[i]? = some n∧l.findIdx? p=some i∧p n=true∧cAt l m (i:Int))∨(l.any p=false∧cAt l m (-1)):=by
 rcases aD.find (P:=Tp) (k:=1) (b:=(sub (cd Tryz.f129) g8)) (fun i=>jG l m i) (fun i _=>bQ (jG l m i) [(4,.p (aB (i:Int)))]) (jG l m l.length) .ret (.exit 0) (by simp) (by simp) p l
  (fun i x hx hq=>aYx (by have:=aM hx;omega) hx (by rw [← hp x (Bl hx)];exact hq) (aI (by have:=aM hx;omega)) rfl)
  (fun i x hx hq=>aYw (by have:=aM hx;omega) hx (by rw [← hp x (Bl hx)];exact hq))
  (aYy (by omega)) with ⟨i,x,h1,h2,h3,h4⟩ | ⟨h1,h2,h3⟩
 ·exact .inl ⟨i,x,h1,h2,h3,cAs h4⟩
 ·exact .inr ⟨h2,cAr h3⟩
theorem bUm{l:List Int}{m:Int}(hl:l.length≤1000){p:Int→Bool}(hp:∀ n∈l,p n=(n == m)) :
  FMM Tp 54 [.own 0,.fn 133 [] [.rp [aB m] 0]] [some (.row 3 l.length (l.map aB))] (.p (aF (l.filter fun n => !p n))) [some .dead]:=by
 rcases cAn hl hp with ⟨i,n,h1,h2,h3,h4⟩ | ⟨h1,h2⟩
 ·have hi:=aM h1
  obtain ⟨d,hm⟩:∃ d,i+1+d=l.length:=⟨l.length-(i+1),by omega⟩
  obtain ⟨⟨c,k⟩,hI,hL⟩:=aD.ex (P:=Tp) (k:=1) (b:=(sub (cd Tryz.f54) ey)) (e := .exit 0) (fun j (x:List Int × Nat)=>qJ m x.1.length (x.1.map aB) x.2 (i+1+j)) (fun x=>qJ m x.1.length (x.1.map aB) x.2 l.length) (fun j x=>aDg p l (i+1+j) x∧∀ n∈x.1,n∈l) (by simp) d
   (fun j x hj hx=>by
    obtain ⟨hI,hs⟩:=hx;have hlt:i+1+j<x.1.length:=by rw [hI.len];omega
    have hle:=hI.le;have hlen:=hI.len;obtain ⟨y,hy⟩:∃ y,x.1[i+1+j]? = some y:=⟨_,Ay hlt⟩;have hyl:=hs y (Bl hy);cases hq:p y with
    | true=>exact ⟨x,⟨hI.skip (by omega) hy hq,hs⟩,bNm (by omega) hy (by rw [← hp y hyl];exact hq) (aI (by omega)) rfl⟩
    | false =>
     obtain ⟨z,hz⟩:∃ z,x.1[x.2]? = some z:=⟨_,Ay (by omega)⟩
     refine ⟨_,⟨hI.keep (by omega) hy hq,fun n hn => ?_⟩,bNl (c:=x.1) (c':=x.1.set x.2 y) (by omega) hy (by rw [← hp y hyl];exact hq) hz (by rw [Co];omega) (aI (by omega)) (aI (by omega)) (by simp) (by rw [List.map_set,Nat.mul_one]) rfl rfl⟩
     rcases List.mem_or_eq_of_mem_set hn with h | rfl
     ·exact hs n h
     ·exact hyl)
   (fun x hx=>by
    have:=bNn (m:=m) (c:=x.1) (i:=x.2) (j:=l.length) (by rw [hx.1.len];omega)
    rw [show i+1+d=l.length from hm];exact this)
   (acc:=(l,i)) ⟨aDg.start h1 h3 (aCq h2),fun n h=>h⟩
  obtain ⟨hI,_⟩:=hI;have hlen:=hI.len;have hle:=hI.le;have hk:=hI.kept;simp only [hm,List.take_length] at hlen hle hk
  have fin:=cLp (l:=l) (D6:=c) (Dc:=k) (Ry:=l.length) (Fh:=(c.take k).map aB) h4 (by omega) (aI (by omega)) hL ⟨by omega,by omega,by omega⟩ (by rw [Co];omega) ⟨by omega,by omega,by omega⟩ (by
   rw [List.drop_zero,Nat.mul_one,List.length_replicate];have Hm:(((c.map aB).take k)++List.replicate (c.length-k) (PV.v (.int .i64 0))++(c.map aB).drop (k+(c.length-k))).length=c.length:=by
    simp only [iJ,oD,Co,List.length_replicate,bXb];omega
   rw [Hm,Nat.div_self (by omega),Nat.mul_one,List.append_assoc,List.take_append_of_le_length (by rw [oD,Co];omega),List.take_take,Nat.min_self,List.map_take])
  rw [← hk];have e:aF (c.take k) = .sl k ((c.take k).map aB):=by
   show PV.sl (c.take k).length _=_;rw [oD,Nat.min_eq_left (by omega)]
  rw [e];exact fin
 ·have:(l.filter fun n => !p n)=l:=List.filter_eq_self.2 fun n hn=>by
   have:=List.any_eq_false.1 h1 n hn;simpa using this
  rw [this];exact cLq h2
end
section
open Go.RowKit Go.Lib Go.Shelf
theorem cLj{n:Nat}{x:PV}{r:List PV}{Om:Nat}{Fh:List PV}(h0:(x::r).length=n*1∧0+n≤1000000)(N2:Om=(0+n))(Es:Fh=(x::r)){base:Nat}:FV Tp 55 [(.p (.sl n (x::r)))] base (.own base) [(base,(.row 3 Om Fh))]:=by
 subst N2 Es;exact FV.fi func55 [] (gc h0 gn)
set_option maxHeartbeats 1000000 in
theorem cAl(n c:Nat)(w:World):Calls Tp 55 #[.slice none n c] w fun e w'=>e = .returned (.slice none 0 0)∧w'=w:=by
 have Yf:∀ (w:World) (a:Option Addr) (n c n' c':Nat),(binOp .eql 33 (.slice a n c) (.slice none n' c')).run Tp w = .ok (.bool a.isNone) w:=fun w a n c n' c'=>Lib.run_eql_slice_nil w _ _ a n c n' c' Tryz.underlying33
 go_enter func55,Tryz.ntmps55
 go_wp2
 go_ret
 exact ⟨rfl,rfl⟩
theorem Ud:(Tryz.prog.info? 3).map (fun i=>(i.zero,i.size,i.bytes))=some (some (.int .i64 0),1,8):=by kernel_rfl
set_option maxHeartbeats 2000000 in
theorem bUk(a:Addr)(c:Nat)(w:World):Calls Tp 55 #[.slice (some a) 0 c] w fun e w'=>∃ v',e = .returned v'∧w'.ownsRow w.heap.size 3 1 v' 0 []∧Below w.heap.size w w':=by
 obtain ⟨i0,hi,O2,Gd,Oe⟩:=info_parts Ud;have Yf:∀ (w:World) (a:Option Addr) (n c n' c':Nat),(binOp .eql 33 (.slice a n c) (.slice none n' c')).run Tp w = .ok (.bool a.isNone) w:=fun w a n c n' c'=>Lib.run_eql_slice_nil w _ _ a n c n' c' Tryz.underlying33
 go_enter func55,Tryz.ntmps55
 go_wp2_with (at_builtin;refine wpList_append_own _ rfl _ _ 33 rfl w.heap.size 3 i0 (.int .i64 0) 1 8 Tryz.underlying33 hi O2 Gd Oe rfl (by decide) _ _ _ rfl (World.ownsRow_made w #[] 0 (dF _) (Nat.zero_le _) rfl) a 0 c [] rfl rfl (by intro j u hj;simp at hj) (by intro u hu;cases hu) (by unfold maxLen;omega) (by omega) (by simp) ?_)
 intro v' w1 hown hgrow hnil
 go_wp2
 go_ret
 refine ⟨v',rfl,by simpa using hown,?_⟩
 exact ((Below.refl _ w).alloc (dF _) _).grown hgrow (by simp) (by intro k hk;simp [Value.ownBlock] at hk;omega)
theorem bNh{base:Nat}:FV Tp 55 [.p (.sl 0 [])] base (.own base) [(base,.row 3 0 [])]:=bJx (vS (show (Tryz.prog.info? 3).map (fun i=>i.size)=some 1 by kernel_rfl)) fun p c w=>by
 cases p with
 | none =>
  refine (cAl 0 c w).mono ?_;rintro e w' ⟨rfl,rfl⟩;exact ⟨_,rfl,World.ownsRow_nil _ _ _ _,Below.refl _ _⟩
 | some a=>exact bUk a c w
theorem bUl(l:List Int)(hl:l.length≤1000){base:Nat}:FV Tp 55 [.p (aF l)] base (.own base) [(base,.row 3 l.length (l.map aB))]:=by
 cases l with
 | nil=>exact bNh
 | cons x l=>exact cLj (n:=(x::l).length) (x:=aB x) (r:=l.map aB) ⟨by simp,by simp at hl ⊢;omega⟩ (by simp) rfl
end
section
variable {Gs:Bool}{mn mx Rw Rx n200 Aa Ab:Int}{T202:Lqb}{x Cy:List Int}{i aln chn Lu:Nat}
variable {dl:Int}{sk dc:Lqq}

theorem aOe:0≤(1:Int)∧(1:Int)<2:=by first | decide | simp
theorem aOf:0≤(0:Int)∧(0:Int)<2:=by first | decide | simp
abbrev cOn(l:List Int)(dl:Int)(sk dc:Lqq)(bib tm:Int)(o:List Int):Prop:=FMM Tp 54 [.own 0,.fn 189 [] [.rp [bUp dl sk dc] 0,.rp [aB bib,aB tm] 0]] [some (.row 3 l.length (l.map aB))] (.p (aF o)) [some .dead]
def chE(x:Int × Bool × List Int):List PV:=[aB x.1,blP x.2.1,aF x.2.2]
def qE(dl:Int)(sk dc:Lqq)(aln:Nat)(alc:List PV)(i:Nat):St:=⟨fr 77 [(1,(.rp [(PV.rp (aZ dl sk dc) 0)] 0)),(2,(.p cC)),(3,(pI 0)),(4,(.p (aF (aJ dl dc)))),(5,(.own 0)),(22,(.p (fS sk))),(23,(pI (sk.length:Int))),(24,(pI (i:Int)))],[some (.row 195 aln alc)]⟩
theorem cLi{Mx:Nat}{My:List PV}{E0:Nat}(h0:bP dc)(h1:((aJ dl dc).length:Int)≤8)(C6:aD Tp 0 (sub (cd Tryz.f161) dv) (qE dl sk dc 0 [] 0) (.exit 0) (qE dl sk dc Mx My E0)){base:Nat}:FV Tp 161 [(.rp (aZ dl sk dc) 0)] base (.tup [(.own base),(pI 0)]) [(base,(.row 195 Mx My))]:=have k1:=fk 0 (pZ (dl:=dl) (sk:=sk) (dc:=dc) h0) rfl;FV.fi func161 [.g 3 ⟨[],[],[0],[]⟩,.x (PV.rp (aZ dl sk dc) 0),k1.o,.g 2 ⟨[],[],[0],[]⟩,bF,.x (PV.rp (aZ dl sk dc) 0),.x (fS sk),C6.k 1 (gN [0,1,6,16,25,51] [0] [(5,195)])] (gc C6.code (gr (fS sk) (gr (PV.rp (aZ dl sk dc) 0) (gc (aK h1) (gc k1 (gr (PV.rp (aZ dl sk dc) 0) gn))))))
def aOg(dl:Int)(sk dc:Lqq)(aln:Nat)(alc:List PV)(i:Nat)(Aa Ab:Int)(Cy:List Int)(chn:Nat)(chc:List PV)(mn mx:Int):St:=⟨fr 77 [(1,(.rp [(PV.rp (aZ dl sk dc) 0)] 0)),(2,(.p cC)),(3,(pI 0)),(4,(.p (aF (aJ dl dc)))),(5,(.own 0)),(7,(.rp [(aB Aa),(aB Ab)] 0)),(8,(.p (aF Cy))),(9,(.ptr 2 0)),(22,(.p (fS sk))),(23,(pI (sk.length:Int))),(24,(pI (i:Int))),(25,(pB (decide ((i:Int)<(sk.length:Int))))),(26,(.rp (sk.flatten.map aB) (i*2))),(27,(.p (.agg [(aB Aa),(aB Ab)]))),(28,(.p (aF (aJ dl dc)))),(29,(.own 1)),(30,(.fn 189 [] [(.rp [(PV.rp (aZ dl sk dc) 0)] 0),(.rp [(aB Aa),(aB Ab)] 0)])),(31,(.p (aF Cy))),(32,(.p (.agg [(aB 1099511627776),(aB 0)]))),(33,(.p (.agg [cC,(aB 1099511627776),(aB 0)]))),(34,(.p (aF Cy))),(35,(.fn 182 [] [(.rp [(aF Cy)] 0)]))],[some (.row 195 aln alc),some .dead,some (.box 195 [(.own 3),(pI mn),(pI mx)]),some (.row 197 chn chc)]⟩
def aYp(dl:Int)(sk dc:Lqq)(aln:Nat)(alc:List PV)(i:Nat)(Aa Ab:Int)(Cy:List Int):St:=⟨fr 77 [(1,(.rp [(PV.rp (aZ dl sk dc) 0)] 0)),(2,(.p cC)),(3,(pI 0)),(4,(.p (aF (aJ dl dc)))),(5,(.own 0)),(7,(.rp [(aB Aa),(aB Ab)] 0)),(8,(.p (aF Cy))),(9,(.ptr 2 0)),(22,(.p (fS sk))),(23,(pI (sk.length:Int))),(24,(pI (i:Int))),(25,(pB (decide ((i:Int)<(sk.length:Int))))),(26,(.rp (sk.flatten.map aB) (i*2))),(27,(.p (.agg [(aB Aa),(aB Ab)]))),(28,(.p (aF (aJ dl dc)))),(29,(.own 1)),(30,(.fn 189 [] [(.rp [(PV.rp (aZ dl sk dc) 0)] 0),(.rp [(aB Aa),(aB Ab)] 0)])),(31,(.p (aF Cy))),(32,(.p (.agg [(aB 1099511627776),(aB 0)]))),(33,(.p (.agg [cC,(aB 1099511627776),(aB 0)]))),(34,(.p (aF Cy))),(35,(.fn 182 [] [(.rp [(aF Cy)] 0)]))],[some (.row 195 aln alc),some .dead,some (.box 195 [(.p cC),(pI 1099511627776),(pI 0)])]⟩
theorem bNd{alc:List PV}{Fq:Nat}{Fu:List PV}{Hb Hc:Int}{Qo:Nat}{Qp:List PV}{i':Nat}(h0:(i:Int)<(sk.length:Int))(h1:sk[i]? = some [Aa,Ab])(h2:uni 2 sk)(h3:(aJ dl dc).length≤1000)(h4:cOn (aJ dl dc) dl sk dc Aa Ab Cy)(Dp:aC Tp 0 (sub (cd Tryz.f161) bf) (aYp dl sk dc aln alc i Aa Ab Cy) .normal (aOg dl sk dc aln alc i Aa Ab Cy Fq Fu Hb Hc))(h6:[(.sl Fq Fu),(aB Hb),(aB Hc)].length=1*3∧aln+1≤1000000)(h7:gk i)(Qq:Qo=(aln+1))(Qr:Qp=(alc++[(.sl Fq Fu),(aB Hb),(aB Hc)]))(Ai:i'=(i+1)):aC Tp 0 (sub (cd Tryz.f161) dv) (qE dl sk dc aln alc i) .normal (qE dl sk dc Qo Qp i'):=by
 subst Qq Qr Ai;have k1:=fk 1 (bUl (aJ dl dc) h3) rfl;have k2:=mq [1] 2 h4;have k3:=fk 3 (aYr (q:=Cy)) rfl;exact aC.fi (gI [0,1,6,16,25,51] [3]) [bT,.x (.agg [(aB Aa),(aB Ab)]),.g 1 ⟨[],[0],[1],[]⟩,k1.o,k2.o,k3.o,Dp.k 1 (gI cr [0,1,2]),.g 0 ⟨[29],[0,2],[3],[]⟩] (gc h7 (gc h6 (gt ([(.sl Fq Fu),(aB Hb),(aB Hc)].length=3) (by first | decide | simp) (gc Dp (gc k3 (gc k2 (gc k1 (gfl h2 h1 (g0 h0)))))))))
theorem bNe{alc:List PV}(h0:(sk.length:Int)≤(i:Int)):aC Tp 0 (sub (cd Tryz.f161) dv) (qE dl sk dc aln alc i) (.exit 0) (qE dl sk dc aln alc i):=aC.fi (gI [0,1,6,16,25,51] [0]) [bF] (gc (aK h0) gn)
def aYq(dl:Int)(sk dc:Lqq)(aln:Nat)(alc:List PV)(i:Nat)(Aa Ab:Int)(Cy:List Int)(chn:Nat)(chc:List PV)(mn mx:Int):St:=⟨fr 77 [(1,(.rp [(PV.rp (aZ dl sk dc) 0)] 0)),(2,(.p cC)),(3,(pI 0)),(4,(.p (aF (aJ dl dc)))),(5,(.own 0)),(7,(.rp [(aB Aa),(aB Ab)] 0)),(8,(.p (aF Cy))),(9,(.ptr 2 0)),(22,(.p (fS sk))),(23,(pI (sk.length:Int))),(24,(pI (i:Int))),(25,(pB (decide ((i:Int)<(sk.length:Int))))),(26,(.rp (sk.flatten.map aB) (i*2))),(27,(.p (.agg [(aB Aa),(aB Ab)]))),(28,(.p (aF (aJ dl dc)))),(30,(.fn 189 [] [(.rp [(PV.rp (aZ dl sk dc) 0)] 0),(.rp [(aB Aa),(aB Ab)] 0)])),(31,(.p (aF Cy))),(32,(.p (.agg [(aB 1099511627776),(aB 0)]))),(33,(.p (.agg [cC,(aB 1099511627776),(aB 0)]))),(34,(.p (aF Cy))),(35,(.fn 182 [] [(.rp [(aF Cy)] 0)]))],[some (.row 195 aln alc),some .dead,some (.box 195 [(.own 5),(pI mn),(pI mx)]),some .dead,some .dead,some (.row 197 chn chc)]⟩
section
variable(h0:aIi dl sk dc (aF x) [Aa,Ab] n200 Gs ([]:Lqb) T202)
include h0
theorem bNf{alc chc Kf:List PV}(h1:Gs=true)(h2:[(aB 1099511627776),(blP Gs),(aF x)].length=1*3∧chn+1≤1000000)(h3:([(1099511627776:Int)]:List Int).length≤1000)(Kg:Lu=(chn+1))(Kh:Kf=(chc++[(aB 1099511627776),(blP Gs),(aF x)]))(N0:Rw=(if (1099511627776:Int)<mn then 1099511627776 else mn))(N1:Rx=(aDe mx ([(1099511627776:Int)]:List Int))):aC Tp 5 (sub (cd Tryz.f161) bc) (rfO (aOg dl sk dc aln alc i Aa Ab Cy chn chc mn mx) 36 10 x) .normal (aYq dl sk dc aln alc i Aa Ab Cy Lu Kf Rw Rx):=by
 subst Kg Kh N0 N1;have k1:=mN [] 5 (sK (dl:=dl) (sk:=sk) (dc:=dc) (on:=x.length) (ol:=(x.map aB)));have k2:=mq dz 13 h0;exact aC.fi (gI cr [13]) [.g 2 ⟨[29],[],[4],[]⟩,.x (PV.rp (aZ dl sk dc) 0),.x (.agg [(aB Aa),(aB Ab)]),.x (PV.rp (aZ dl sk dc) 0),k1.o,k2.o,bT,.c (pI (aDe mx ([(1099511627776:Int)]:List Int))) []] (gc aOe (gc aOf (gt (FC Tp 184 [(pI mx),(.own 15)] [(15,(.row 3 1 [(aB 1099511627776)]))] 16 (pI (aDe mx ([(1099511627776:Int)]:List Int))) []) (fv (aXm mx ([(1099511627776:Int)]:List Int) h3)) (gc aOe (gc aOf (gc h2 (gt ([(aB 1099511627776),(blP Gs),(aF x)].length=3) (by first | decide | simp) (gc h1 (gc k2 (gc k1 (gr (PV.rp (aZ dl sk dc) 0) (gr (.agg [(aB Aa),(aB Ab)]) (gt (0+2≤[(aB Aa),(aB Ab)].length) (by first | decide | simp) (gr (PV.rp (aZ dl sk dc) 0) gn))))))))))))))
theorem bNg{alc chc Kf:List PV}(h1:Gs=false)(h2:[(aB n200),(blP Gs),(aF x)].length=1*3∧chn+1≤1000000)(h3:([n200]:List Int).length≤1000)(Kg:Lu=(chn+1))(Kh:Kf=(chc++[(aB n200),(blP Gs),(aF x)]))(N0:Rw=(if n200<mn then n200 else mn))(N1:Rx=(aDe mx ([n200]:List Int))):aC Tp 5 (sub (cd Tryz.f161) bc) (rfO (aOg dl sk dc aln alc i Aa Ab Cy chn chc mn mx) 36 10 x) .normal (aYq dl sk dc aln alc i Aa Ab Cy Lu Kf Rw Rx):=by
 subst Kg Kh N0 N1;have k1:=mN [] 5 (sK (dl:=dl) (sk:=sk) (dc:=dc) (on:=x.length) (ol:=(x.map aB)));have k2:=mq dz 13 h0;exact aC.fi (gI cr [13]) [.g 2 ⟨[29],[],[4],[]⟩,.x (PV.rp (aZ dl sk dc) 0),.x (.agg [(aB Aa),(aB Ab)]),.x (PV.rp (aZ dl sk dc) 0),k1.o,k2.o,bF,.c (pI (aDe mx ([n200]:List Int))) []] (gc aOe (gc aOf (gt (FC Tp 184 [(pI mx),(.own 15)] [(15,(.row 3 1 [(aB n200)]))] 16 (pI (aDe mx ([n200]:List Int))) []) (fv (aXm mx ([n200]:List Int) h3)) (gc aOe (gc aOf (gc h2 (gt ([(aB n200),(blP Gs),(aF x)].length=3) (by first | decide | simp) (gc h1 (gc k2 (gc k1 (gr (PV.rp (aZ dl sk dc) 0) (gr (.agg [(aB Aa),(aB Ab)]) (gt (0+2≤[(aB Aa),(aB Ab)].length) (by first | decide | simp) (gr (PV.rp (aZ dl sk dc) 0) gn))))))))))))))
end
end
section
abbrev aV:=Int × Bool × List Int
abbrev eU:=List aV × Int × Int
def hpE(h:eU):List PV:=[.sl h.1.length (h.1.map chE).flatten,aB h.2.1,aB h.2.2]
abbrev far:Int:=1099511627776
def chM(dl:Int)(dc:Lqq)(s0 s1:Int)(q:List Int):aV:=(if (cA dl q dc s0 s1).2 then far else (cA dl q dc s0 s1).1,(cA dl q dc s0 s1).2,q)
def mnM(l:List aV):Int:=l.foldl (fun m x=>if x.1<m then x.1 else m) far
def mxM(l:List aV):Int:=l.foldl (fun m x=>if x.1 > m then x.1 else m) 0
def lK(dl:Int)(dc:Lqq)(s0 s1:Int)(o:List Int):eU:=((gK o).map (chM dl dc s0 s1),mnM ((gK o).map (chM dl dc s0 s1)),mxM ((gK o).map (chM dl dc s0 s1)))
def rH(dc:Lqq)(n:Int):Int:=match ofN dc n with
 | some x=>jI dc x
 | none=>0
def mR(dl:Int)(dc:Lqq)(bib:Int):List Int:=(aJ dl dc).filter fun n => !(rH dc n != bib)
def aG(dl:Int)(sk dc:Lqq):List eU:=sk.map fun s=>lK dl dc (s.getD 0 0) (s.getD 1 0) (mR dl dc (s.getD 0 0))
theorem bCi(x:aV):lE (chE x)=true:=by
 obtain ⟨a,b,l⟩:=x;show (nmP (aB a) && (nmP (blP b) && (nmP (aF l) && true)))=true;have h:nmP (aF l)=true:=by
  show lE (l.map aB)=true;exact aGi aB (fun _=>rfl) l
 rw [h];rfl
theorem aCp:∀ (a b:List PV),lE (a++b)=(lE a && lE b)
 | [],b=>rfl
 | x::a,b=>by
  show (nmP x && lE (a++b))=((nmP x && lE a) && lE b);rw [aCp a b,Bool.and_assoc]
theorem vW{α:Type}{E:α→List PV}(h:∀ a,lE (E a)=true):∀ l:List α,lE (l.map E).flatten=true
 | []=>rfl
 | a::l=>by rw [iB,tX,aCp,h a,vW h l];rfl
theorem cAj(x:eU):lE (hpE x)=true:=by
 obtain ⟨l,a,b⟩:=x;show (lE (l.map chE).flatten && (nmP (aB a) && (nmP (aB b) && true)))=true;rw [vW bCi];rfl
def cLh(dl:Int)(sk dc:Lqq)(al:List eU)(i:Nat)(y0 y1:Int)(o:List Int)(l:List aV):St:=aOg dl sk dc al.length (al.map hpE).flatten i y0 y1 o l.length (l.map chE).flatten (mnM l) (mxM l)
def cOb(dl:Int)(sk dc:Lqq)(al:List eU)(i:Nat)(y0 y1:Int)(o:List Int)(l:List aV):St:=aYq dl sk dc al.length (al.map hpE).flatten i y0 y1 o l.length (l.map chE).flatten (mnM l) (mxM l)
theorem cAk(l:List aV)(c:aV):(l++[c]).length=l.length+1∧((l++[c]).map chE).flatten=(l.map chE).flatten++chE c∧mnM (l++[c])=(if c.1<mnM l then c.1 else mnM l)∧mxM (l++[c])=aDe (mxM l) [c.1]:=by
 refine ⟨by simp,by simp,?_,?_⟩
 ·unfold mnM;rw [aDa];rfl
 ·unfold mxM;rw [aDa];rfl
theorem bNb{dl:Int}{sk dc:Lqq}(hd:bP dc){al:List eU}{i:Nat}{y0 y1:Int}(hs : -1≤y1∧y1≤360000){o:List Int}{l:List aV}(hl:l.length+1≤1000000){x:List Int}(hx:x.length≤1000) :
  aC Tp 5 (sub (cd Tryz.f161) bc) (rfO (cLh dl sk dc al i y0 y1 o l) 36 10 x) .normal (cOb dl sk dc al i y0 y1 o (l++[chM dl dc y0 y1 x])):=by
 obtain ⟨T',_,hT⟩:=bSv (sk:=sk) hd (fun n=>aGq hx n) y0 y1 hs (T:=[]) cU.nil
 obtain ⟨e1,e2,e3,e4⟩:=cAk l (chM dl dc y0 y1 x);cases hb:(cA dl x dc y0 y1).2 with
 | true =>
  have ec:chM dl dc y0 y1 x=(far,true,x):=by unfold chM;rw [hb];rfl
  rw [hb] at hT
  rw [ec] at e1 e2 e3 e4 ⊢
  exact bNf hT rfl ⟨rfl,hl⟩ (by simp) e1 e2 e3 e4
 | false =>
  have ec:chM dl dc y0 y1 x=((cA dl x dc y0 y1).1,false,x):=by unfold chM;rw [hb];rfl
  rw [hb] at hT
  rw [ec] at e1 e2 e3 e4 ⊢
  exact bNg hT rfl ⟨rfl,hl⟩ (by simp) e1 e2 e3 e4
theorem bNc{dl:Int}{sk dc:Lqq}(hd:bP dc){al:List eU}{i:Nat}{y0 y1:Int}(hs : -1≤y1∧y1≤360000){o:List Int}(ho:o.length≤8) :
  aC Tp 0 (sub (cd Tryz.f161) bf) (aYp dl sk dc al.length (al.map hpE).flatten i y0 y1 o) .normal (cLh dl sk dc al i y0 y1 o ((gK o).map (chM dl dc y0 y1))):=by
 have hp:(2:Nat) ^ o.length≤256:=fL (Nat.pow_le_pow_right (by omega) ho) (by decide)
 refine (aLc (P:=Tp) (k:=0) (kb:=5) (kk:=3) (g0:=⟨[],[3],[],[(102000,197)]⟩) (g1:=⟨[],[5],[],[]⟩) (aYp dl sk dc al.length (al.map hpE).flatten i y0 y1 o)
  (fun pre=>cLh dl sk dc al i y0 y1 o (pre.map (chM dl dc y0 y1))) (fun pre l=>cOb dl sk dc al i y0 y1 o ((pre++[l]).map (chM dl dc y0 y1))) (fun _ _=>⟨[],[]⟩) _ [] (fun _ _=>false)
  (cc := sub (cd Tryz.f161) [1, 1, 1, 1, 0, 1, 0, 0, 1, 1, 0, 0, 1, 1, 1, 0, 1, 0]) (gi := 35) (p1 := 36) (d := 10) (id := 11) (ty := 33) (pos := "outcome.go:71") (body := sub (cd Tryz.f161) [1, 1, 1, 1, 0, 1, 0, 0, 1, 1, 0, 0, 1, 1, 1, 0, 1, 0, 1]) (by kernel_rfl)
  rfl (fun _=>rfl) (g := .fn 182 [] [.rp [aF o] 0]) (by rfl) (aLa o (by omega)) (fun args w=>rfl) (fun _=>rfl) (fun pre => ?_) (fun _ _=>rfl) (fun _ _=>rfl) rfl rfl (fun _=>by show 4<5;omega) (by kernel_rfl) (fun x=>rfl) (by show 3≤3;omega) rfl (by kernel_rfl) (fun pre l=>by kernel_rfl) (fun _ _ h=>by cases h) (gR:=⟨[],[],[],[]⟩) (fun pre l hpl hx=>⟨fun _ => ?_,fun h=>by cases h⟩)).1 (fun _ _ _=>rfl)
 ·show (lE (al.map hpE).flatten && (lE [] && (lE ((pre.map (chM dl dc y0 y1)).map chE).flatten && true)))=true
  rw [vW cAj,vW bCi];rfl
 ·have:=bNb (dl:=dl) (y0:=y0) (sk:=sk) hd (al:=al) (i:=i) hs (o:=o) (l:=pre.map (chM dl dc y0 y1)) (by rw [Co];omega) hx
  rw [iA];exact this
end
section
theorem cLf{dl:Int}{sk dc:Lqq}(hd:bP dc){bib tm n:Int}(hn:n∈aJ dl dc):aYs dl sk dc bib tm n (rH dc n != bib):=fun base=>by
 unfold aJ at hn
 obtain ⟨x,hx,rfl⟩:=B3.1 hn;have hx:=(kY.1 hx).1;have hr:=eT hd hx;have hs:rH dc (dN x)=jI dc x:=by unfold rH;rw [zF hd hx]
 rw [hs];obtain ⟨h1,h2⟩:=aXk hd hx;have hk:=zE hd (n:=dN x) (by show _∧_;omega)
 have hab:=nY hd x hx;obtain ⟨a,b,c,d,e,f,rfl⟩:=A7 (hd.ud x hx);have hf:inR f:=by
  have:=(iH.1 (hd.rng _ hx));unfold inR;simp [dAb] at this hab ⊢;omega
 exact cLl hk h1 h2 (fun base=>bSu hd hf (.inl hx) hr.2) rfl
theorem bUj(dl:Int)(dc:Lqq)(b:Int):(mR dl dc b).length≤(aJ dl dc).length:=rZ _ _
theorem cAi{dl:Int}{sk dc:Lqq}(hd:bP dc)(hu:uni 2 sk)(hl:sk.length≤1000)(hs:∀ s∈sk,-1≤s.getD 1 0∧s.getD 1 0≤360000)(ho:(aJ dl dc).length≤8) :
  aD Tp 0 (sub (cd Tryz.f161) dv) (qE dl sk dc 0 [] 0) (.exit 0) (qE dl sk dc (aG dl sk dc).length ((aG dl sk dc).map hpE).flatten sk.length):=by
 obtain ⟨acc,hI,hL⟩:=aD.ex (P:=Tp) (k:=0) (b:=sub (cd Tryz.f161) dv) (e := .exit 0) (fun i (al:List eU)=>qE dl sk dc al.length (al.map hpE).flatten i) (fun al=>qE dl sk dc al.length (al.map hpE).flatten sk.length) (fun i al=>al=aG dl (sk.take i) dc) (by simp) sk.length
  (fun i al hi hal=>by
   obtain ⟨x,hx⟩:∃ x,sk[i]? = some x:=⟨_,Ay hi⟩;have hm:=Bl hx;have hsx:=hs x hm;obtain ⟨y0,y1,rfl⟩:=len2 (hu x hm);have hlen:al.length=i:=by rw [hal];unfold aG;rw [Co,oD];omega
   refine ⟨al++[lK dl dc y0 y1 (mR dl dc y0)],?_,bNd (Cy:=mR dl dc y0) (by omega) hx hu (by omega) (cLk (by omega) fun n hn=>cLf hd hn) (bNc hd hsx (fL (bUj dl dc y0) ho)) ⟨rfl,by omega⟩ (aI (by omega)) (by simp) (by simp only [iA,iB,List.map_nil,aQx,tX,List.flatten_nil,List.append_nil];rfl) rfl⟩
   rw [hal];unfold aG;rw [List.take_add_one,hx];simp)
  (fun al _=>bNe (by omega)) (acc:=[]) (by simp [aG])
 rw [List.take_length] at hI
 rw [← hI];exact hL
theorem cLg{dl:Int}{sk dc:Lqq}(hd:bP dc)(hu:uni 2 sk)(hl:sk.length≤1000)(hs:∀ s∈sk,-1≤s.getD 1 0∧s.getD 1 0≤360000)(ho:(aJ dl dc).length≤8){base:Nat} :
  FV Tp 161 [uM dl sk dc] base (.tup [.own base,.p (aB 0)]) [(base,.row 195 (aG dl sk dc).length ((aG dl sk dc).map hpE).flatten)]:=cLi hd (by omega) (cAi hd hu hl hs ho)
end
end KV
end Go.Proofs
section
namespace Go.Proofs
open Go.Shelf
def Tryz.lays189_ren:Go.Shelf.Ren:=⟨fun | 189=>57 | 125=>131 | 257=>130 | 128=>180 | 129=>181 | 294=>171 | 295=>172 | 296=>173 | 297=>174 | 298=>175 | 299=>176 | 216=>177 | 300=>178 | 301=>179 | 328=>207 | 329=>208 | 330=>209 | 331=>210 | 332=>211 | 215=>168 | 343=>224 | n=>n,fun | 28=>33 | 3=>3 | 46=>172 | 0=>0 | 51=>127 | 53=>225 | 4=>4 | 183=>218 | 182=>217 | 131=>106 | 5=>5 | 9=>9 | 218=>245 | 222=>249 | 228=>257 | 229=>198 | n=>n,fun | n=>n⟩
theorem Tryz.lays189:Go.Proofs.Lays.n189 Tryz.prog Tryz.lays189_ren:={
 mixed:=by kernel_rfl
 f125:=func131.trans (congrArg some (by kernel_rfl))
 f128:=func180.trans (congrArg some (by kernel_rfl))
 f129:=func181.trans (congrArg some (by kernel_rfl))
 f189:=func57.trans (congrArg some (by kernel_rfl))
 f215:=func168.trans (congrArg some (by kernel_rfl))
 f216:=func177.trans (congrArg some (by kernel_rfl))
 f257:=func130.trans (congrArg some (by kernel_rfl))
 f294:=func171.trans (congrArg some (by kernel_rfl))
 f295:=func172.trans (congrArg some (by kernel_rfl))
 f296:=func173.trans (congrArg some (by kernel_rfl))
 f297:=func174.trans (congrArg some (by kernel_rfl))
 f298:=func175.trans (congrArg some (by kernel_rfl))
 f299:=func176.trans (congrArg some (by kernel_rfl))
 f300:=func178.trans (congrArg some (by kernel_rfl))
 f301:=func179.trans (congrArg some (by kernel_rfl))
 f328:=func207.trans (congrArg some (by kernel_rfl))
 f329:=func208.trans (congrArg some (by kernel_rfl))
 f330:=func209.trans (congrArg some (by kernel_rfl))
 f331:=func210.trans (congrArg some (by kernel_rfl))
 f332:=func211.trans (congrArg some (by kernel_rfl))
 f343:=func224.trans (congrArg some (by kernel_rfl))
 t0:=Tryz.underlying0
 a0:=Tryz.isAgg0
 z0:=Tryz.sizeOf0
 v0:=Tryz.zeroValue0
 t3:=Tryz.underlying3
 a3:=Tryz.isAgg3
 z3:=Tryz.sizeOf3
 v3:=Tryz.zeroValue3
 t4:=Tryz.underlying4
 a4:=Tryz.isAgg4
 z4:=Tryz.sizeOf4
 v4:=Tryz.zeroValue4
 t5:=Tryz.underlying5
 a5:=Tryz.isAgg5
 z5:=Tryz.sizeOf5
 v5:=Tryz.zeroValue5
 t9:=Tryz.underlying9
 a9:=Tryz.isAgg9
 z9:=Tryz.sizeOf9
 v9:=Tryz.zeroValue9
 t28:=Tryz.underlying33
 a28:=Tryz.isAgg33
 z28:=Tryz.sizeOf33
 v28:=Tryz.zeroValue33
 t46:=Tryz.underlying172
 a46:=Tryz.isAgg172
 z46:=Tryz.sizeOf172
 v46:=Tryz.zeroValue172
 t51:=Tryz.underlying127
 a51:=Tryz.isAgg127
 z51:=Tryz.sizeOf127
 v51:=Tryz.zeroValue127
 t53:=Tryz.underlying225
 a53:=Tryz.isAgg225
 z53:=Tryz.sizeOf225
 v53:=Tryz.zeroValue225
 t131:=Tryz.underlying106
 a131:=Tryz.isAgg106
 z131:=Tryz.sizeOf106
 v131:=Tryz.zeroValue106
 t182:=Tryz.underlying217
 a182:=Tryz.isAgg217
 z182:=Tryz.sizeOf217
 v182:=Tryz.zeroValue217
 t183:=Tryz.underlying218
 a183:=Tryz.isAgg218
 z183:=Tryz.sizeOf218
 v183:=Tryz.zeroValue218
 t218:=Tryz.underlying245
 a218:=Tryz.isAgg245
 z218:=Tryz.sizeOf245
 v218:=Tryz.zeroValue245
 t222:=Tryz.underlying249
 a222:=Tryz.isAgg249
 z222:=Tryz.sizeOf249
 v222:=Tryz.zeroValue249
 t228:=Tryz.underlying257
 a228:=Tryz.isAgg257
 z228:=Tryz.sizeOf257
 v228:=Tryz.zeroValue257
 t229:=Tryz.underlying198
 a229:=Tryz.isAgg198
 z229:=Tryz.sizeOf198
 v229:=Tryz.zeroValue198 }
open Go.Sort Go.RowKit in
theorem Tryz.slices_Sort_int(blk off cap:Nat)(zs:List Int)(w:World)(hH:Holds (Value.int .i64) w blk off zs.toArray)(hblk:blk<w.heap.size)(hsz:zs.length<4611686018427387904) :
  Calls Tryz.prog 57 #[.slice (some ⟨blk,off,none⟩) zs.length cap] w fun e w' =>
   e = .returned (.tuple #[])∧∃ n os,w'=grow (putRow (Value.int .i64) (Sort.ahead w n) blk off (zs.mergeSort fun x y=>decide (x≤y)).toArray) os:=Any.slices_Sort_int Tryz.lays189 blk off cap zs w hH hblk hsz
def Tryz.laysNm220_ren:Go.Shelf.Ren:=⟨fun | 20=>186 | n=>n,fun | 22=>33 | 3=>3 | 4=>4 | 0=>0 | n=>n,fun | n=>n⟩
theorem Tryz.laysNm220:Go.Proofs.Lays2.n20 Tryz.prog Tryz.laysNm220_ren:={
 mixed:=by kernel_rfl
 f20:=func186.trans (congrArg some (by kernel_rfl))
 t0:=Tryz.underlying0
 a0:=Tryz.isAgg0
 z0:=Tryz.sizeOf0
 v0:=Tryz.zeroValue0
 t3:=Tryz.underlying3
 a3:=Tryz.isAgg3
 z3:=Tryz.sizeOf3
 v3:=Tryz.zeroValue3
 t4:=Tryz.underlying4
 a4:=Tryz.isAgg4
 z4:=Tryz.sizeOf4
 v4:=Tryz.zeroValue4
 t22:=Tryz.underlying33
 a22:=Tryz.isAgg33
 z22:=Tryz.sizeOf33
 v22:=Tryz.zeroValue33
 i3:=by kernel_rfl }
open Go.RowKit Go.Lib Go.Sort in
theorem Tryz.slices_Compact_int(blk off cap:Nat)(zs:List Int)(w:World)(hH:Holds (Value.int .i64) w blk off zs.toArray)(hsz:zs.length≤9223372036854775807)(hcap:zs.length≤cap) :
  Calls Tryz.prog 186 #[.slice (some ⟨blk,off,none⟩) zs.length cap] w fun e w'=>e = .returned (.slice (some ⟨blk,off,none⟩) (Lib.compact zs).length cap)∧∃ q,w'=putRow (Value.int .i64) (Sort.ahead w q) blk off (Lib.compact zs++List.replicate (zs.length-(Lib.compact zs).length) 0).toArray:=Any.slices_Compact_int Tryz.laysNm220 blk off cap zs w hH hsz hcap
open Go.RowKit Go.Lib Go.Sort in
theorem Tryz.slices_Compact_int_empty(a:Option Addr)(cap:Nat)(w:World) :
  Calls Tryz.prog 186 #[.slice a 0 cap] w fun e w'=>e = .returned (.slice a 0 cap)∧w'=w:=Any.slices_Compact_int_empty Tryz.laysNm220 a cap w
theorem Tryz.slices_Sort_int_none(p:Option Addr)(cap:Nat)(w:World) :
  Calls Tryz.prog 57 #[.slice p 0 cap] w fun e w'=>e = .returned (.tuple #[])∧w'=w:=Any.slices_Sort_int_none Tryz.lays189 p cap w
end Go.Proofs
end
section
namespace Go.Proofs
open Go.RowKit Go.Lib Go.Sort
namespace KL
def OwnI(w:World)(base:Nat)(v:Value)(l:List Int):Prop:=w.ownsRow base 3 1 v l.length (l.map (Value.int .i64))

def leB:Int→Int→Bool:=fun x y=>decide (x≤y)

theorem bUy(base:Nat)(v:Value)(l:List Int)(w:World)(hv:OwnI w base v l)(hlen:l.length≤1000000) :
  Calls Tryz.prog 57 #[v] w fun e w'=>e = .returned (.tuple #[])∧OwnI w' base v (l.mergeSort leB)∧w.grownBy w' v.ownBlock:=by
 have hown:=hv
 rcases hv.2 with ⟨rfl,h0⟩ | ⟨g,cap,cur,rfl,hb,hg,hn,hm,hs,ht⟩
 ·have:l=[]:=List.eq_nil_of_length_eq_zero h0
  subst this;refine (Tryz.slices_Sort_int_none none 0 w).mono ?_;rintro e w' ⟨rfl,rfl⟩;exact ⟨rfl,by simpa using hown,World.grownBy.refl _ _⟩
 ·have hlt:=lt_of_block hg
  refine (Tryz.slices_Sort_int g 0 cap l w (holds_of_blockI hg (by simpa using ht)) hlt (by omega)).mono ?_
  rintro e w' ⟨rfl,n,os,rfl⟩;refine ⟨rfl,?_,grownBy_sortedI _⟩;have hl:(l.mergeSort leB).length=l.length:=List.length_mergeSort l;unfold OwnI;rw [hl];exact ownsRow_sortedI hl hb hg hn hm hs

end KL
open KL
namespace KV
open Tryz
open Go.Shelf
variable {P:Program} {C:Cx} {M:Mem} {w w':World}
abbrev sP(l:List Int):AO := .row 3 l.length (l.map aB)
theorem bUz{F:Nat→Prop}{cur:Array Value}{l:List Int}(hle:l.length≤cur.size)(h:∀ j (hj:j<(l.map aB).length),cM F w (l.map aB)[j] (cur.getD j undef)):cur.toList.take l.length=l.map (Value.int .i64):=by
 apply List.ext_getElem
 ·simp;omega
 ·intro i h1 h2
  have hi:i<l.length:=by simpa using h2
  have:=h i (by simpa using hi)
  rw [List.getElem_map] at this
  rw [List.getElem_map,List.getElem_take];cases hx:cur.getD i undef with
  | int k z =>
   rw [hx] at this
   cases this;rw [Array.getD_eq_getD_getElem?,Array.getElem?_eq_getElem (by omega)] at hx
   simpa using hx
  | _=>rw [hx] at this;cases this
theorem aSp(F:Nat→Prop){cur:Array Value}{l:List Int}(h:cur.toList.take l.length=l.map (Value.int .i64)):(∀ j (hj:j<(l.map aB).length),cM F w (l.map aB)[j] (cur.getD j undef))∧∀ j,j<(l.map aB).length→(cur.getD j undef).oneCell'=true:=by
 have key:∀ j (hj:j<l.length),cur.getD j undef = .int .i64 l[j]:=fun j hj=>by
  have h1:=congrArg (fun x=>x[j]?) h
  simp only [List.getElem?_take,hj,if_true,List.getElem?_map,List.getElem?_eq_getElem hj,Option.map_some,Array.getElem?_toList] at h1
  rw [Array.getD_eq_getD_getElem?,h1];rfl
 refine ⟨fun j hj => ?_,fun j hj => ?_⟩
 ·have C7:j<l.length:=by simpa using hj
  rw [List.getElem_map,key j C7];exact .v _
 ·rw [key j (by simpa using hj)];rfl

theorem Kj:∃ i,Tryz.prog.info? 3=some i∧i.size=1:=vS (show (Tryz.prog.info? 3).map (fun i=>i.size)=some 1 by kernel_rfl)
theorem bVa{id:Nat}{l:List Int}{u:Value}(hM:aU Tryz.prog C M w)(ho:M[id]? = some (some (sP l)))(h:Rep C M w (.own id) u):OwnI w 0 u l:=by
 refine ⟨by simp,?_⟩
 cases h with
 | own _ _ h0 ha hr =>
  rcases hr _ _ _ ho with ⟨rfl,_,hn⟩ | ⟨b,rfl,hb⟩
  ·exact .inl ⟨rfl,hn⟩
  ·rcases hM.row _ _ _ _ ho with ⟨Fx,_⟩ | ⟨b',arr,inf,A4,q1,q2,q3,q4,q5,q6,q7,q8⟩
   ·rw [hb] at Fx;cases Fx
   ·rw [hb] at A4;cases A4
    obtain ⟨i,hi,hs⟩:=Kj;rw [hi] at q2;cases q2
    exact .inr ⟨b,_,arr,rfl,Nat.zero_le _,q1,q5,q6,by rw [q3,hs],by rw [Nat.mul_one];exact bUz (by rw [q3,hs];omega) q7⟩

theorem aLg{l l':List Int}{u u':Value}{d:Bool}(hM:aU Tryz.prog C [some (sP l)] w)(h:Rep C [some (sP l)] w (.own 0) u)(hown:OwnI w' 0 u' l')(hg:w.grownBy w' u.ownBlock)
  (hb:u'.ownBlock=u.ownBlock) (hd:d=false→u'=u∧l'.length=l.length) :
  ∃ C',Fr C [some (sP l)] w C' (if d then [some .dead,some (sP l')] else [some (sP l')]) w'∧aU Tryz.prog C' (if d then [some .dead,some (sP l')] else [some (sP l')]) w'∧Rep C' (if d then [some .dead,some (sP l')] else [some (sP l')]) w' (.own (if d then 1 else 0)) u':=by
 have Kt:∀ (id:Nat) (o:AO),([some (sP l)]:Mem)[id]? = some (some o)→id=0∧o=sP l:=fun id o h=>by
  cases id with
  | zero=>simp at h;exact ⟨rfl,h.symm⟩
  | succ i=>simp at h
 have hblk:∀ b,C.ι 0=some b→u.ownBlock=some b∧∃ cap,u = .slice (some ⟨b,0,none⟩) l.length cap∧cap=C.κ 0:=fun b Qy=>by
  cases h with
  | own _ _ h0 ha hr =>
   rcases hr _ _ _ rfl with ⟨_,hn,_⟩ | ⟨b',rfl,A4⟩
   ·rw [Qy] at hn;cases hn
   ·rw [Qy] at A4;cases A4;exact ⟨rfl,_,rfl,rfl⟩
 have hnb:C.ι 0=none→u = .slice none 0 0:=fun hn=>by
  cases h with
  | own _ _ h0 ha hr =>
   rcases hr _ _ _ rfl with ⟨hu,_,_⟩ | ⟨b',rfl,A4⟩
   ·exact hu
   ·rw [hn] at A4;cases A4
 have hkeep:∀ b,b<w.heap.size→(∀ (id:Nat) (o:AO),([some (sP l)]:Mem)[id]? = some (some o)→o.live=true→C.ι id≠some b)→w'.heap[b]? = w.heap[b]? := fun b Dm hn=>by
  refine hg.block b Dm fun he => ?_
  cases hι:C.ι 0 with
  | none=>rw [hnb hι] at he;cases he
  | some b' =>
   rw [(hblk b' hι).1] at he;cases he
   exact hn 0 _ rfl rfl hι
 have hFz:∀ b,C.F b→w'.heap[b]? = w.heap[b]? := fun b hf=>hkeep b (hM.Fs b hf) fun id o hm hl he=>hM.nF id o b hm hl he hf
 cases d with
 | false =>
  obtain ⟨rfl,hlen⟩:=hd rfl;simp only [Bool.false_eq_true,if_false];have D2:∀ (id:Nat) (o:AO),([some (sP l')]:Mem)[id]? = some (some o)→id=0∧o=sP l':=fun id o h=>by
   cases id with
   | zero=>simp at h;exact ⟨rfl,h.symm⟩
   | succ i=>simp at h
  have Q0:∀ b,C.ι 0=some b→∃ cur,w'.heap[b]? = some (.cells cur 3 (0,0))∧l'.length≤C.κ 0∧C.κ 0≤maxLen∧cur.size=C.κ 0∧cur.toList.take l'.length=l'.map (Value.int .i64):=fun b hι=>by
   obtain ⟨_,cap,hu,hc⟩:=hblk b hι
   rcases hown.2 with ⟨he,_⟩ | ⟨g,Gz,cur,hv,_,hh,r1,r2,r3,r4⟩
   ·rw [hu] at he;cases he
   ·rw [hu] at hv
    obtain ⟨e1,_,e3⟩:=Value.slice.inj hv;cases e1;subst e3;subst hc;exact ⟨cur,hh,r1,r2,by omega,by simpa using r4⟩
  refine ⟨C,⟨hg.os,hg.tape,hg.output,hg.size,hkeep,fun id o hm => ?_,fun id o hm ty n cs hx => ?_,fun id o hm o' hx hl => ?_,fun id o b hm hl hb => ?_,fun _ h=>h,fun _ h => .inl h⟩,
   ⟨fun id ty n cs hm => ?_,fun id ty cs hm => ?_,fun id es cl hm => ?_,fun id G2 o o' b h1 _ h2 _ _ _ => ?_,fun id o b hm hl hb => ?_,fun b hb=>Nat.lt_of_lt_of_le (hM.Fs b hb) hg.size,fun id o b hm hl hb => ?_⟩,?_⟩
  ·obtain ⟨rfl,rfl⟩:=Kt id o hm
   exact ⟨⟨_,rfl⟩,rfl,rfl⟩
  ·obtain ⟨rfl,rfl⟩:=Kt id o hm
   obtain ⟨_,he⟩:=D2 _ _ hx;cases he;exact ⟨l.map aB,by rw [hlen];rfl⟩
  ·obtain ⟨rfl,rfl⟩:=Kt id o hm
   rfl
  ·obtain ⟨rfl,rfl⟩:=D2 id o hm
   exact .inr ⟨0,_,rfl,rfl,hb⟩
  ·obtain ⟨rfl,he⟩:=D2 id _ hm
   cases he;cases hι:C.ι 0 with
   | none =>
    have:=hnb hι
    rcases hown.2 with ⟨_,h0⟩ | ⟨g,Gz,cur,hv,_⟩
    ·have:l'=[]:=List.eq_nil_of_length_eq_zero h0
     subst this;exact .inl ⟨rfl,rfl,rfl⟩
    ·rw [this] at hv;cases hv
   | some b =>
    obtain ⟨cur,q1,q2,q3,q4,q5⟩:=Q0 b hι;obtain ⟨i,hi,hs⟩:=Kj;obtain ⟨r1,r2⟩:=aSp (w:=w') C.F q5;exact .inr ⟨b,cur,i,rfl,q1,hi,by rw [hs,q4,Nat.mul_one],by simp [hs],q2,q3,r1,r2⟩
  ·obtain ⟨_,he⟩:=D2 id _ hm;cases he
  ·obtain ⟨_,he⟩:=D2 id _ hm;cases he
  ·obtain ⟨rfl,_⟩:=D2 id _ h1
   obtain ⟨rfl,_⟩:=D2 G2 _ h2;rfl
  ·obtain ⟨rfl,_⟩:=D2 id _ hm
   exact hM.nF 0 _ b rfl rfl hb
  ·obtain ⟨rfl,_⟩:=D2 id _ hm
   exact Nat.lt_of_lt_of_le (hM.lt 0 _ b rfl rfl hb) hg.size
  ·cases h with
   | own _ _ h0 ha hr =>
    refine .own 0 _ h0 ⟨_,rfl⟩ fun ty n cs hx => ?_
    obtain ⟨_,he⟩:=D2 0 _ hx;cases he
    rcases hr _ _ _ rfl with ⟨q1,q2,q3⟩ | ⟨b,q1,q2⟩
    ·exact .inl ⟨q1,q2,by omega⟩
    ·exact .inr ⟨b,by rw [q1,hlen],q2⟩
 | true =>
  simp only [if_true]
  let Gz:Nat:=match u' with | .slice _ _ c=>c | _=>0
  have D2:∀ (id:Nat) (o:AO),([some .dead,some (sP l')]:Mem)[id]? = some (some o)→(id=0∧o = .dead)∨(id=1∧o=sP l'):=fun id o h=>by
   match id,h with
   | 0,h=>simp at h;exact .inl ⟨rfl,h.symm⟩
   | 1,h=>simp at h;exact .inr ⟨rfl,h.symm⟩
   | i+2,h=>simp at h
  refine ⟨{ ι:=fun i=>if i=1 then u'.ownBlock else C.ι i,κ:=fun i=>if i=1 then Gz else C.κ i,F:=C.F },⟨hg.os,hg.tape,hg.output,hg.size,hkeep,fun id o hm => ?_,fun id o hm ty n cs hx => ?_,fun id o hm o' hx hl => ?_,fun id o b hm hl hbb => ?_,fun _ h=>h,fun _ h => .inl h⟩,
   ⟨fun id ty n cs hm => ?_,fun id ty cs hm => ?_,fun id es cl hm => ?_,fun id G2 o o' b h1 l1 h2 l2 _ _ => ?_,fun id o b hm hl hbb => ?_,fun b hb=>Nat.lt_of_lt_of_le (hM.Fs b hb) hg.size,fun id o b hm hl hbb => ?_⟩,?_⟩
  ·obtain ⟨rfl,rfl⟩:=Kt id o hm
   exact ⟨⟨_,rfl⟩,rfl,rfl⟩
  ·obtain ⟨rfl,rfl⟩:=Kt id o hm
   rcases D2 _ _ hx with ⟨_,he⟩ | ⟨he,_⟩
   ·cases he
   ·cases he
  ·obtain ⟨rfl,rfl⟩:=Kt id o hm
   rfl
  ·rcases D2 id o hm with ⟨rfl,rfl⟩ | ⟨rfl,rfl⟩
   ·cases hl
   ·simp only [if_true] at hbb
    rw [hb] at hbb
    cases hι:C.ι 0 with
    | none=>rw [hnb hι] at hbb;cases hbb
    | some b' =>
     rw [(hblk b' hι).1] at hbb;cases hbb
     exact .inr ⟨0,_,rfl,rfl,hι⟩
  ·rcases D2 id _ hm with ⟨_,he⟩ | ⟨rfl,he⟩
   ·cases he
   ·cases he
    simp only [if_true]
    rcases hown.2 with ⟨rfl,h0⟩ | ⟨g,cp,cur,rfl,_,hh,r1,r2,r3,r4⟩
    ·have:l'=[]:=List.eq_nil_of_length_eq_zero h0
     subst this;exact .inl ⟨rfl,rfl,rfl⟩
    ·obtain ⟨i,hi,hs⟩:=Kj
     obtain ⟨q1,q2⟩:=aSp (w:=w') C.F (by simpa using r4)
     exact .inr ⟨g,cur,i,rfl,hh,hi,by rw [hs];exact r3,by simp [hs],r1,r2,q1,q2⟩
  ·rcases D2 id _ hm with ⟨_,he⟩ | ⟨_,he⟩ <;> cases he
  ·rcases D2 id _ hm with ⟨_,he⟩ | ⟨_,he⟩ <;> cases he
  ·rcases D2 id _ h1 with ⟨_,rfl⟩ | ⟨rfl,_⟩
   ·cases l1
   ·rcases D2 G2 _ h2 with ⟨_,rfl⟩ | ⟨rfl,_⟩
    ·cases l2
    ·rfl
  ·rcases D2 id _ hm with ⟨_,rfl⟩ | ⟨rfl,_⟩
   ·cases hl
   ·simp only [if_true] at hbb
    rw [hb] at hbb
    cases hι:C.ι 0 with
    | none=>rw [hnb hι] at hbb;cases hbb
    | some b' =>
     rw [(hblk b' hι).1] at hbb;cases hbb
     exact hM.nF 0 _ _ rfl rfl hι
  ·rcases D2 id _ hm with ⟨_,rfl⟩ | ⟨rfl,_⟩
   ·cases hl
   ·simp only [if_true] at hbb
    rw [hb] at hbb
    cases hι:C.ι 0 with
    | none=>rw [hnb hι] at hbb;cases hbb
    | some b' =>
     rw [(hblk b' hι).1] at hbb;cases hbb
     exact Nat.lt_of_lt_of_le (hM.lt 0 _ _ rfl rfl hι) hg.size
  ·have h0:u'.oneCell'=true:=by
    rcases hown.2 with ⟨rfl,_⟩ | ⟨g,cp,cur,rfl,_⟩ <;> rfl
   refine .own 1 _ h0 ⟨_,rfl⟩ fun ty n cs hx => ?_
   rcases D2 _ _ hx with ⟨he,_⟩ | ⟨_,he⟩
   ·cases he
   ·cases he
    simp only [if_true]
    rcases hown.2 with ⟨rfl,h9⟩ | ⟨g,cp,cur,rfl,_⟩
    ·exact .inl ⟨rfl,rfl,h9⟩
    ·exact .inr ⟨g,rfl,rfl⟩

theorem aSq(l:List Int)(hl:l.length≤1000000):FMM Tryz.prog 57 [.own 0] [some (sP l)] (.tup []) [some (sP (l.mergeSort leB))]:=fun C w us hus hM n=>by
 obtain ⟨u,rfl,hu⟩:=zB hus;refine (callsIn_wide.2 (bUy 0 u l w (bVa hM rfl hu) hl)).mono ?_;rintro e w' ⟨rfl,h1,h2⟩;obtain ⟨C',f,m,_⟩:=aLg (d:=false) hM hu h1 h2 rfl (fun _=>⟨rfl,List.length_mergeSort l⟩)
 exact ⟨_,rfl,C',f,m,.tup [] #[] rfl (fun i h=>by simp at h)⟩
theorem aHh(l:List Int):(Lib.compact l).length≤l.length:=by
 unfold Lib.compact Lib.compactUpTo;rw [List.length_map];exact Nat.le_trans (List.length_filter_le _ _) (by simp)
theorem aSr(base:Nat)(v:Value)(l:List Int)(w:World)(hv:KL.OwnI w base v l)(hlen:l.length≤1000000) :
  Calls Tryz.prog 186 #[v] w fun e w'=>∃ p' n' Gz,e = .returned (.slice p' n' Gz)∧n'=(Lib.compact l).length∧KL.OwnI w' base (.slice p' n' Gz) (Lib.compact l)∧w.grownBy w' v.ownBlock∧((Value.slice p' n' Gz).ownBlock=v.ownBlock):=by
 have hown:=hv
 rcases hv.2 with ⟨rfl,h0⟩ | ⟨b,cap,cur,rfl,hb,hg,hn,hm,hs,ht⟩
 ·have:l=[]:=List.eq_nil_of_length_eq_zero h0
  subst this;refine (Tryz.slices_Compact_int_empty none 0 w).mono ?_;rintro e w' ⟨rfl,rfl⟩;exact ⟨_,_,_,rfl,rfl,hown,World.grownBy.refl _ _,rfl⟩
 ·refine (Tryz.slices_Compact_int b 0 cap l w (holds_of_blockI hg (by simpa using ht)) (by omega) (by simpa using hn)).mono ?_
  rintro e w' ⟨rfl,q,rfl⟩;have hfl:=aHh l;refine ⟨_,_,_,rfl,rfl,?_,?_,rfl⟩
  ·have:=ownsRow_putRow (enc:=Value.int .i64) (q:=q) (k:=(Lib.compact l).length) (ys:=Lib.compact l++List.replicate (l.length-(Lib.compact l).length) 0) hown (by simp;omega) hfl
   unfold KL.OwnI;simpa using this
  ·exact grownBy_sortedI (os := #[]) (n:=q) (g:=b) (w:=w) ((Lib.compact l++List.replicate (l.length-(Lib.compact l).length) 0).toArray)
theorem aSs(l:List Int)(hl:l.length≤1000000):FMM Tryz.prog 186 [.own 0] [some (.row 3 l.length (l.map aB))] (.own 1) [some .dead,some (.row 3 (Lib.compact l).length ((Lib.compact l).map aB))]:=fun C w us hus hM n=>by
 obtain ⟨u,rfl,hu⟩:=zB hus;refine (callsIn_wide.2 (aSr 0 u l w (bVa hM rfl hu) hl)).mono ?_;rintro e w' ⟨p',n',Gz,rfl,h0,h1,h2,h3⟩;obtain ⟨C',f,m,r⟩:=aLg (d:=true) hM hu h1 h2 h3 (fun h=>by cases h)
 exact ⟨_,rfl,C',f,m,r⟩
end KV
end Go.Proofs
end
