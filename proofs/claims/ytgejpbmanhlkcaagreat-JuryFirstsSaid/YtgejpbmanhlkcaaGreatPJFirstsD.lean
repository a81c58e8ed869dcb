/- Parts of the proof of JFirsts: laws of walks, contracts of functions, plain models. No condition. -/
import Derived.RangeFuncNested
import Derived.Sort.LoopGhostIn
import Derived.Lib.OwnBridge
import Derived.Shelf.Slices.Clone
import Derived.Shelf.Small.Bits
import Derived.Shelf.Small.Wraps
import Derived.Shelf.Strconv.Itoa0
import Derived.Shelf.Sort.Plain
import Derived.Shelf.Slices.Turned
import Derived.Ground.Names2Prog
import Derived.Shelf.Slices.CompactI
import Derived.Shelf.Slices.SearchI
import Derived.Shelf.Slices.Cells
import Derived.Shelf.Slices.In.SortNone
import Derived.Ground.SlgnProg
import Derived.Shelf.SlicesE.Clone
import Derived.Test.YtgejpbmanhlkcaaGreatProg
import Derived.Sort.OwnSortedInts
import Derived.OneCell
import Derived.Test.YtgejpbmanhlkcaaGreatPJFirstsC
set_option linter.unusedVariables false
set_option linter.unusedSimpArgs false
set_option maxRecDepth 100000
namespace Go.Proofs
namespace KV
open Tryz
section
variable {b6 is r0 Bj Ld I1 I2:Bool}{k c0 c1 c2 c3 c4 c5 x0 x1 x2 x3 x4 x5 z0 z1 z2 z3 z4 z5 c0'4 c0'5 c1'5 c1'6 c2'6 c2'7 c3'7 c3'8 c4'8 c4'9 c5'9 Aa Ab Ac Ad Ae Af c5'10:Int}{T t T7 t' Eh E8 Jc T107 T109:Lqb}{l y0 U6 N2 U7:Lqq}{i n i' Bm Ev B5 Q9 N3 U8 base:Nat}{ov:PV}
variable {dl:Int}{sk dc:Lqq}

noncomputable abbrev kA:Code:=sub (cd Tryz.f154) [1,1,1,0,1,0,0]
noncomputable abbrev lA:Code:=sub (cd Tryz.f153) [1,0,1,0,0]
abbrev qL(dl:Int)(sk dc:Lqq):AV := .rp (aY dl sk dc) 0
abbrev dF(dl:Int)(sk dc:Lqq)(ov:PV)(T:Lqb):Mem:=[some (.box 130 [(qL dl sk dc)]),some (.box 33 [(.p ov)]),some (.box 139 [(.fn 154 [] [(.ptr 4 0),(.ptr 5 0),(.ptr 0 0),(.ptr 2 0)]),(.fn 156 [] [(.ptr 6 0)]),(.fn 157 [] [(.ptr 2 0),(.ptr 1 0)]),(.fn 160 [] [(.ptr 2 0)]),(.fn 158 [] [(.ptr 6 0)])]),some (.mp (aR T) T.length),some (.box 207 [(.mp 3)]),some (.box 124 [(.fn 146 [(qL dl sk dc)] [])]),some (.box 209 [(.fn 153 [] [(.ptr 0 0),(.ptr 2 0)])])]
abbrev zV:AV:=(.agg [(.fn 154 [] [(.ptr 4 0),(.ptr 5 0),(.ptr 0 0),(.ptr 2 0)]),(.fn 156 [] [(.ptr 6 0)]),(.fn 157 [] [(.ptr 2 0),(.ptr 1 0)]),(.fn 160 [] [(.ptr 2 0)]),(.fn 158 [] [(.ptr 6 0)])])
abbrev Ga(dl:Int)(sk dc:Lqq):AO:=.box 130 [.rp (aY dl sk dc) 0]
abbrev G5:AO:=.box 139 [(.fn 154 [] [(.ptr 4 0),(.ptr 5 0),(.ptr 0 0),(.ptr 2 0)]),(.fn 156 [] [(.ptr 6 0)]),(.fn 157 [] [(.ptr 2 0),(.ptr 1 0)]),(.fn 160 [] [(.ptr 2 0)]),(.fn 158 [] [(.ptr 6 0)])]
abbrev Gb(dl:Int)(sk dc:Lqq):AO:=.box 124 [.fn 146 [.rp (aY dl sk dc) 0] []]
abbrev H9:AO:=.box 209 [(.fn 153 [] [(.ptr 0 0),(.ptr 2 0)])]
abbrev vU(dl:Int)(sk dc:Lqq)(ov:PV)(T:Lqb):Upd:=[(0,Ga dl sk dc),(1,.box 33 [.p ov]),(2,G5),(3,.mp (aR T) T.length),(4,.box 207 [.mp 3]),(5,Gb dl sk dc),(6,H9)]
abbrev tU(dl:Int)(sk dc:Lqq)(ov:PV)(x:List Int)(b:Bool)(T T2:Lqb):Prop:=FMM Tp 154 [.p (.agg (x.map aA)),.ptr 4 0,.ptr 5 0,.ptr 0 0,.ptr 2 0] (dF dl sk dc ov T) (pB b) (dF dl sk dc ov T2)
abbrev cFs(g:Nat)(dl:Int)(sk dc:Lqq)(ov:PV)(x z:List Int)(b:Bool)(T T2:Lqb):Prop:=FMM Tp 153 [.p (.agg (x.map aA)),.fn g [] [],.ptr 0 0,.ptr 2 0] (dF dl sk dc ov T) (.tup [.p (.agg (z.map aA)),.p (blP b)]) (dF dl sk dc ov T2)
abbrev aQl(dl:Int)(sk dc:Lqq)(ov:PV)(x z:List Int)(b:Bool)(T T2:Lqb):Prop:=FMM Tp 156 [.p (.agg (x.map aA)),.ptr 6 0] (dF dl sk dc ov T) (.tup [.p (.agg (z.map aA)),.p (blP b)]) (dF dl sk dc ov T2)
abbrev cFt(dl:Int)(sk dc:Lqq)(ov:PV)(x z:List Int)(b:Bool)(T T2:Lqb):Prop:=FMM Tp 158 [.p (.agg (x.map aA)),.ptr 6 0] (dF dl sk dc ov T) (.tup [.p (.agg (z.map aA)),.p (blP b)]) (dF dl sk dc ov T2)
abbrev bWj(dl:Int)(sk dc:Lqq)(ov:PV)(x:List Int)(b:Bool)(T T2:Lqb):Prop:=FMM Tp 157 [.p (.agg (x.map aA)),.ptr 2 0,.ptr 1 0] (dF dl sk dc ov T) (pB b) (dF dl sk dc ov T2)
abbrev aCc(dl:Int)(sk dc:Lqq)(ov:PV)(x:List Int)(m:Int)(T T2:Lqb):Prop:=FMM Tp 160 [.p (.agg (x.map aA)),.ptr 2 0] (dF dl sk dc ov T) (pI m) (dF dl sk dc ov T2)
theorem bWk(h0:k=8):FV Tp 155 [(pI k)] base (pB true) []:=FV.fi func155 [bT,bT,bT] (Ak (cH h0) gn)
theorem bWl(h0:k≠8)(A4:r0=(k == 9)):FV Tp 155 [(pI k)] base (pB r0) []:=by
 subst A4;exact FV.fi func155 [bF,bF,bF] (Ak (aU h0) gn)
theorem bWm(A4:r0=(k == 6)):FV Tp 159 [(pI k)] base (pB r0) []:=by
 subst A4;exact FV.fi func159 [] gn
theorem cFu(h0:k=4):FV Tp 148 [(pI k)] base (pB true) []:=FV.fi func148 [bT,bT,bT] (Ak (cH h0) gn)
theorem cFv(h0:k≠4)(A4:r0=(k == 7)):FV Tp 148 [(pI k)] base (pB r0) []:=by
 subst A4;exact FV.fi func148 [bF,bF,bF] (Ak (aU h0) gn)
theorem oQ(k:Int){base:Nat}:FV Tp 155 [.p (aA k)] base (pB (cR k)) []:=by
 by_cases h:k=8
 ·rw [show cR k=true by simp [cR,h]];exact bWk h
 ·exact bWl h (by simp [cR,h])
theorem aLw(k:Int){base:Nat}:FV Tp 159 [.p (aA k)] base (pB (k == 6)) []:=bWm rfl
theorem zW(k:Int){base:Nat}:FV Tp 148 [.p (aA k)] base (pB (eY k)) []:=by
 by_cases h:k=4
 ·rw [show eY k=true by simp [eY,h]];exact cFu h
 ·exact cFv h (by simp [eY,h])
theorem cFw(h0:(eY x1)=true)(A4:r0=(decide (x2 > dl))):FV Tp 146 [(.rp (aY dl sk dc) 0),(.p (dcE x0 x1 x2 x3 x4 x5))] base (pB r0) []:=by
 subst A4;exact FV.fi func146 ([.c (pB (eY x1)) []]++rT 7++[.x (aA dl),bT,bT]) (Az h0 (gr (aA dl) (Kx h0 (gc (fk 1 (zW x1) rfl) gn))))
theorem cFx(h0:(eY x1)=false):FV Tp 146 [(.rp (aY dl sk dc) 0),(.p (dcE x0 x1 x2 x3 x4 x5))] base (pB false) []:=FV.fi func146 ([.c (pB (eY x1)) []]++rF 9) (Eu h0 (gc h0 (gc (fk 1 (zW x1) rfl) gn)))
theorem aLx(dl:Int)(sk dc:Lqq)(x0 x1 x2 x3 x4 x5:Int){base:Nat}:FV Tp 146 [qL dl sk dc,.p (.agg [aA x0,aA x1,aA x2,aA x3,aA x4,aA x5])] base (pB (iC dl [x0,x1,x2,x3,x4,x5])) []:=by
 cases h:eY x1 with
 | true=>exact cFw h (by show (eY x1 && decide (dl<x2))=_;rw [h];rfl)
 | false=>rw [show iC dl [x0,x1,x2,x3,x4,x5]=false by show (eY x1 && decide (dl<x2))=_;rw [h];rfl];exact cFx h
abbrev vG(ov:PV)(n:Int)(b:Bool):Prop:=∀ base:Nat,FV Tp 52 [.p ov,.p (aA n)] base (pB b) []
def dZ(dl:Int)(sk:Lqq)(dc:Lqq)(ov:PV)(i:Nat)(l:Lqq)(n:Nat)(te:List (Value × PV))(tk:Nat)(c0:Int)(c1:Int)(c2:Int)(c3:Int)(c4:Int)(c5:Int):St:=⟨fr 35 [(1,(.fn 155 [] [])),(3,(.ptr 2 0)),(6,(.ptr 7 0)),(16,(.p (fS l))),(17,(pI (n:Int))),(18,(pI (i:Int)))],[some (Ga dl sk dc),some (.box 33 [(.p ov)]),some G5,some (.mp te tk),some (.box 207 [(.mp 3)]),some (Gb dl sk dc),some H9,some (.box 44 [(pI c0),(pI c1),(pI c2),(pI c3),(pI c4),(pI c5)])]⟩
theorem bWn(h0:cP .i64 (abE dc) (.int .i64 x0))(h1:(dS (abE dc) (.int .i64 x0))=true)(h2:gB (abE dc) (.int .i64 x0)=some (fS y0))(Cn:aE Tp 7 lA (dZ dl sk dc ov 0 y0 y0.length (aR T) T.length 0 0 0 0 0 0) (.exit 0) (dZ dl sk dc ov Ev N2 N3 (aR E8) E8.length c0'5 c1'6 c2'7 c3'8 c4'9 c5'10)):FMM Tp 153 [(.p (dcE x0 x1 x2 x3 x4 x5)),(.fn 155 [] []),(.ptr 0 0),(.ptr 2 0)] (dF dl sk dc ov T) (.tup [(.p (dcE 0 0 0 0 0 0)),(pB false)]) (dF dl sk dc ov E8):=FMM.fi 7 gE func153 [.x (.mp (abE dc)),bT,.x (fS y0),Cn.k 1 (gI [0,1,2,1,4,2,7,9,19,15] [8])] (gc Cn.code (gc h2 (gc h1 (gc h0 (gr (.mp (abE dc)) gn)))))
theorem bWo(h0:cP .i64 (abE dc) (.int .i64 x0))(h1:(dS (abE dc) (.int .i64 x0))=true)(h2:gB (abE dc) (.int .i64 x0)=some (fS y0))(Cn:aE Tp 7 lA (dZ dl sk dc ov 0 y0 y0.length (aR T) T.length 0 0 0 0 0 0) .ret (bS (dZ dl sk dc ov Ev N2 N3 (aR E8) E8.length c0'5 c1'6 c2'7 c3'8 c4'9 c5'10) [(7,(.kb true))])):FMM Tp 153 [(.p (dcE x0 x1 x2 x3 x4 x5)),(.fn 155 [] []),(.ptr 0 0),(.ptr 2 0)] (dF dl sk dc ov T) (.tup [(.p (dcE c0'5 c1'6 c2'7 c3'8 c4'9 c5'10)),(pB true)]) (dF dl sk dc ov E8):=FMM.fi 7 gE func153 [.x (.mp (abE dc)),bT,.x (fS y0),Cn.k 1 (gI [0,1,2,1,4,2,7,9,19,15] [8])] (gc Cn.code (gc h2 (gc h1 (gc h0 (gr (.mp (abE dc)) gn)))))
theorem bWp(h0:cP .i64 (abE dc) (.int .i64 x0))(h1:(dS (abE dc) (.int .i64 x0))=false)(Dc:aE Tp 7 lA (dZ dl sk dc ov 0 ([]:Lqq) 0 (aR T) T.length 0 0 0 0 0 0) (.exit 0) (dZ dl sk dc ov Bm U6 Q9 (aR Eh) Eh.length c0'4 c1'5 c2'6 c3'7 c4'8 c5'9)):FMM Tp 153 [(.p (dcE x0 x1 x2 x3 x4 x5)),(.fn 155 [] []),(.ptr 0 0),(.ptr 2 0)] (dF dl sk dc ov T) (.tup [(.p (dcE 0 0 0 0 0 0)),(pB false)]) (dF dl sk dc ov Eh):=FMM.fi 7 gE func153 [.x (.mp (abE dc)),bF,Dc.k 1 (gN [0,1,2,1,4,2,7,9,19,15] [8] [(16,99999)])] (gc Dc.code (gc h1 (gc h0 (gr (.mp (abE dc)) gn))))
theorem aVt(h0:(i:Int)<(n:Int))(h1:l[i]? = some [Aa,Ab,Ac,Ad,Ae,Af])(h2:uni 6 l)(h3:(cR Ab)=true)(h4:tU dl sk dc ov [Aa,Ab,Ac,Ad,Ae,Af] Bj t T107)(h5:Bj=true)(Be:aR t'=(aR T107))(Bf:t'.length=T107.length):aC Tp 7 lA (dZ dl sk dc ov i l n (aR t) t.length c0 c1 c2 c3 c4 c5) .ret (bS (dZ dl sk dc ov i l n (aR t') t'.length Aa Ab Ac Ad Ae Af) [(7,(.kb true))]):=by
 have k1:=fk 9 (oQ Ab) rfl;have k2:=mq [0,1,2,3,4,5,6] 9 h4;rw [Be,Bf];exact aC.fi (gI [0,1,2,1,4,2,8,8,19,15] [7]) [bT,.x (dcE Aa Ab Ac Ad Ae Af),k1.o,bT,bT,bT,bT,k2.o,bT,bT] (gc h5 (gc h3 (gc k2 (Aw h3 (gc k1 (gfl h2 h1 (gc (aI h0) gn)))))))
theorem aVu(h0:(i:Int)<(n:Int))(h1:l[i]? = some [Aa,Ab,Ac,Ad,Ae,Af])(h2:uni 6 l)(h3:(cR Ab)=true)(h4:tU dl sk dc ov [Aa,Ab,Ac,Ad,Ae,Af] Bj t T107)(h5:Bj=false)(h6:inR (((i+1):Nat):Int))(Ai:i'=(i+1))(Be:aR t'=(aR T107))(Bf:t'.length=T107.length):aC Tp 7 lA (dZ dl sk dc ov i l n (aR t) t.length c0 c1 c2 c3 c4 c5) .normal (dZ dl sk dc ov i' l n (aR t') t'.length c0 c1 c2 c3 c4 c5):=by
 subst Ai;have k1:=fk 9 (oQ Ab) rfl;have k2:=mq [0,1,2,3,4,5,6] 9 h4;rw [Be,Bf];exact aC.fi (gI [0,1,2,1,4,2,7,9,19,15] [7]) [bT,.x (dcE Aa Ab Ac Ad Ae Af),k1.o,bT,bT,bT,bT,k2.o,bT,bF] (gc h6 (gc h5 (gc h3 (gc k2 (Aw h3 (gc k1 (gfl h2 h1 (gc (aI h0) gn))))))))
theorem aVv(h0:(i:Int)<(n:Int))(h1:l[i]? = some [Aa,Ab,Ac,Ad,Ae,Af])(h2:uni 6 l)(h3:(cR Ab)=false)(h4:inR (((i+1):Nat):Int))(Ai:i'=(i+1)):aC Tp 7 lA (dZ dl sk dc ov i l n (aR t) t.length c0 c1 c2 c3 c4 c5) .normal (dZ dl sk dc ov i' l n (aR t) t.length c0 c1 c2 c3 c4 c5):=by
 subst Ai;have k1:=fk 9 (oQ Ab) rfl;exact aC.fi (gI [0,1,2,1,4,2,7,9,19,15] [7]) ([bT,.x (dcE Aa Ab Ac Ad Ae Af),k1.o]++rF 5) (gc h4 (Bo h3 (gc k1 (gfl h2 h1 (gc (aI h0) gn)))))
theorem aVw(h0:(n:Int)≤(i:Int)):aC Tp 7 lA (dZ dl sk dc ov i l n (aR t) t.length c0 c1 c2 c3 c4 c5) (.exit 0) (dZ dl sk dc ov i l n (aR t) t.length c0 c1 c2 c3 c4 c5):=aC.fi (gI [0,1,2,1,4,2,7,9,19,15] [7]) [bF] (gc (aN h0) gn)
def eA(dl:Int)(sk:Lqq)(dc:Lqq)(ov:PV)(i:Nat)(l:Lqq)(n:Nat)(te:List (Value × PV))(tk:Nat)(c0:Int)(c1:Int)(c2:Int)(c3:Int)(c4:Int)(c5:Int):St:=⟨fr 35 [(1,(.fn 159 [] [])),(3,(.ptr 2 0)),(6,(.ptr 7 0)),(16,(.p (fS l))),(17,(pI (n:Int))),(18,(pI (i:Int)))],[some (Ga dl sk dc),some (.box 33 [(.p ov)]),some G5,some (.mp te tk),some (.box 207 [(.mp 3)]),some (Gb dl sk dc),some H9,some (.box 44 [(pI c0),(pI c1),(pI c2),(pI c3),(pI c4),(pI c5)])]⟩
theorem bWq(h0:cP .i64 (abE dc) (.int .i64 x0))(h1:(dS (abE dc) (.int .i64 x0))=true)(h2:gB (abE dc) (.int .i64 x0)=some (fS y0))(Cn:aE Tp 7 lA (eA dl sk dc ov 0 y0 y0.length (aR T) T.length 0 0 0 0 0 0) (.exit 0) (eA dl sk dc ov Ev N2 N3 (aR E8) E8.length c0'5 c1'6 c2'7 c3'8 c4'9 c5'10)):FMM Tp 153 [(.p (dcE x0 x1 x2 x3 x4 x5)),(.fn 159 [] []),(.ptr 0 0),(.ptr 2 0)] (dF dl sk dc ov T) (.tup [(.p (dcE 0 0 0 0 0 0)),(pB false)]) (dF dl sk dc ov E8):=FMM.fi 7 gE func153 [.x (.mp (abE dc)),bT,.x (fS y0),Cn.k 1 (gI [0,1,2,1,4,2,7,9,19,15] [8])] (gc Cn.code (gc h2 (gc h1 (gc h0 (gr (.mp (abE dc)) gn)))))
theorem bWr(h0:cP .i64 (abE dc) (.int .i64 x0))(h1:(dS (abE dc) (.int .i64 x0))=true)(h2:gB (abE dc) (.int .i64 x0)=some (fS y0))(Cn:aE Tp 7 lA (eA dl sk dc ov 0 y0 y0.length (aR T) T.length 0 0 0 0 0 0) .ret (bS (eA dl sk dc ov Ev N2 N3 (aR E8) E8.length c0'5 c1'6 c2'7 c3'8 c4'9 c5'10) [(7,(.kb true))])):FMM Tp 153 [(.p (dcE x0 x1 x2 x3 x4 x5)),(.fn 159 [] []),(.ptr 0 0),(.ptr 2 0)] (dF dl sk dc ov T) (.tup [(.p (dcE c0'5 c1'6 c2'7 c3'8 c4'9 c5'10)),(pB true)]) (dF dl sk dc ov E8):=FMM.fi 7 gE func153 [.x (.mp (abE dc)),bT,.x (fS y0),Cn.k 1 (gI [0,1,2,1,4,2,7,9,19,15] [8])] (gc Cn.code (gc h2 (gc h1 (gc h0 (gr (.mp (abE dc)) gn)))))
theorem bWs(h0:cP .i64 (abE dc) (.int .i64 x0))(h1:(dS (abE dc) (.int .i64 x0))=false)(Dc:aE Tp 7 lA (eA dl sk dc ov 0 ([]:Lqq) 0 (aR T) T.length 0 0 0 0 0 0) (.exit 0) (eA dl sk dc ov Bm U6 Q9 (aR Eh) Eh.length c0'4 c1'5 c2'6 c3'7 c4'8 c5'9)):FMM Tp 153 [(.p (dcE x0 x1 x2 x3 x4 x5)),(.fn 159 [] []),(.ptr 0 0),(.ptr 2 0)] (dF dl sk dc ov T) (.tup [(.p (dcE 0 0 0 0 0 0)),(pB false)]) (dF dl sk dc ov Eh):=FMM.fi 7 gE func153 [.x (.mp (abE dc)),bF,Dc.k 1 (gN [0,1,2,1,4,2,7,9,19,15] [8] [(16,99999)])] (gc Dc.code (gc h1 (gc h0 (gr (.mp (abE dc)) gn))))
theorem aVx(h0:(i:Int)<(n:Int))(h1:l[i]? = some [Aa,Ab,Ac,Ad,Ae,Af])(h2:uni 6 l)(h3:(Ab == 6)=true)(h4:tU dl sk dc ov [Aa,Ab,Ac,Ad,Ae,Af] Bj t T107)(h5:Bj=true)(Be:aR t'=(aR T107))(Bf:t'.length=T107.length):aC Tp 7 lA (eA dl sk dc ov i l n (aR t) t.length c0 c1 c2 c3 c4 c5) .ret (bS (eA dl sk dc ov i l n (aR t') t'.length Aa Ab Ac Ad Ae Af) [(7,(.kb true))]):=by
 have k1:=mq [0,1,2,3,4,5,6] 9 h4;rw [Be,Bf];exact aC.fi (gI [0,1,2,1,4,2,8,8,19,15] [7]) [bT,.x (dcE Aa Ab Ac Ad Ae Af),.c (pB (Ab == 6)) [],bT,bT,bT,bT,k1.o,bT,bT] (gc h5 (gc h3 (gc k1 (Aw h3 (gc (fk 9 (aLw Ab) rfl) (gfl h2 h1 (gc (aI h0) gn)))))))
theorem aVy(h0:(i:Int)<(n:Int))(h1:l[i]? = some [Aa,Ab,Ac,Ad,Ae,Af])(h2:uni 6 l)(h3:(Ab == 6)=true)(h4:tU dl sk dc ov [Aa,Ab,Ac,Ad,Ae,Af] Bj t T107)(h5:Bj=false)(h6:inR (((i+1):Nat):Int))(Ai:i'=(i+1))(Be:aR t'=(aR T107))(Bf:t'.length=T107.length):aC Tp 7 lA (eA dl sk dc ov i l n (aR t) t.length c0 c1 c2 c3 c4 c5) .normal (eA dl sk dc ov i' l n (aR t') t'.length c0 c1 c2 c3 c4 c5):=by
 subst Ai;have k1:=mq [0,1,2,3,4,5,6] 9 h4;rw [Be,Bf];exact aC.fi (gI [0,1,2,1,4,2,7,9,19,15] [7]) [bT,.x (dcE Aa Ab Ac Ad Ae Af),.c (pB (Ab == 6)) [],bT,bT,bT,bT,k1.o,bT,bF] (gc h6 (gc h5 (gc h3 (gc k1 (Aw h3 (gc (fk 9 (aLw Ab) rfl) (gfl h2 h1 (gc (aI h0) gn))))))))
theorem aVz(h0:(i:Int)<(n:Int))(h1:l[i]? = some [Aa,Ab,Ac,Ad,Ae,Af])(h2:uni 6 l)(h3:(Ab == 6)=false)(h4:inR (((i+1):Nat):Int))(Ai:i'=(i+1)):aC Tp 7 lA (eA dl sk dc ov i l n (aR t) t.length c0 c1 c2 c3 c4 c5) .normal (eA dl sk dc ov i' l n (aR t) t.length c0 c1 c2 c3 c4 c5):=by
 subst Ai;exact aC.fi (gI [0,1,2,1,4,2,7,9,19,15] [7]) ([bT,.x (dcE Aa Ab Ac Ad Ae Af),.c (pB (Ab == 6)) []]++rF 5) (gc h4 (Bo h3 (gc (fk 9 (aLw Ab) rfl) (gfl h2 h1 (gc (aI h0) gn)))))
theorem aWa(h0:(n:Int)≤(i:Int)):aC Tp 7 lA (eA dl sk dc ov i l n (aR t) t.length c0 c1 c2 c3 c4 c5) (.exit 0) (eA dl sk dc ov i l n (aR t) t.length c0 c1 c2 c3 c4 c5):=aC.fi (gI [0,1,2,1,4,2,7,9,19,15] [7]) [bF] (gc (aN h0) gn)
def cW(dl:Int)(sk:Lqq)(dc:Lqq)(ov:PV)(x0:Int)(x1:Int)(x2:Int)(x3:Int)(x4:Int)(x5:Int)(is:Bool)(i:Nat)(l:Lqq)(n:Nat)(te:List (Value × PV))(tk:Nat):St:=⟨fr 79 [(1,(.ptr 4 0)),(4,(.ptr 2 0)),(5,(.ptr 7 0)),(6,(.kb false)),(9,(pB is)),(32,(.p (fS l))),(33,(pI (n:Int))),(34,(pI (i:Int)))],[some (Ga dl sk dc),some (.box 33 [(.p ov)]),some G5,some (.mp te tk),some (.box 207 [(.mp 3)]),some (Gb dl sk dc),some H9,some (.box 44 [(pI x0),(pI x1),(pI x2),(pI x3),(pI x4),(pI x5)])]⟩
theorem cFy{y0:Bool}(h0:cP .i64 (aR T) (.int .i64 x0))(h1:(dS (aR T) (.int .i64 x0))=true)(h2:gB (aR T) (.int .i64 x0)=some (blP y0)):FMM Tp 154 [(.p (dcE x0 x1 x2 x3 x4 x5)),(.ptr 4 0),(.ptr 5 0),(.ptr 0 0),(.ptr 2 0)] (dF dl sk dc ov T) (pB y0) (dF dl sk dc ov T):=FMM.fi 7 gE func154 [bT,.x (blP y0)] (gc h2 (gc h1 (gc h0 gn)))
theorem cFz(h0:cP .i64 (aR T) (.int .i64 x0))(h1:(dS (aR T) (.int .i64 x0))=false)(h2:cP .i64 (abE dc) (.int .i64 x0))(h3:(dS (abE dc) (.int .i64 x0))=true)(h4:gB (abE dc) (.int .i64 x0)=some (fS y0))(Ea:aE Tp 7 kA (cW dl sk dc ov x0 x1 x2 x3 x4 x5 (!(iC dl [x0,x1,x2,x3,x4,x5])) 0 y0 y0.length (aR T) T.length) (.exit 0) (cW dl sk dc ov x0 x1 x2 x3 x4 x5 I2 B5 U7 U8 (aR Jc) Jc.length))(h6:cP .i64 (aR Jc) (.int .i64 x0))(h7:(dS (aR Jc) (.int .i64 x0))=true):FMM Tp 154 [(.p (dcE x0 x1 x2 x3 x4 x5)),(.ptr 4 0),(.ptr 5 0),(.ptr 0 0),(.ptr 2 0)] (dF dl sk dc ov T) (pB I2) [some (Ga dl sk dc),some (.box 33 [(.p ov)]),some G5,some (.mp (qZ (aR Jc) (.int .i64 x0) (blP I2)) Jc.length),some (.box 207 [(.mp 3)]),some (Gb dl sk dc),some H9]:=have k1:=fk 8 (aLx dl sk dc x0 x1 x2 x3 x4 x5) rfl;FMM.fi 7 gE func154 [bF,k1.o,.x (.mp (abE dc)),bT,.x (fS y0),Ea.k 1 (gI [0,1,2,2,7,2,10,22,35,39] [7]),bT] (gc h7 (gc h6 (gc Ea.code (gc h4 (gc h3 (gc h2 (gr (.mp (abE dc)) (gc k1 (gc h1 (gc h0 gn))))))))))
theorem cGa(h0:cP .i64 (aR T) (.int .i64 x0))(h1:(dS (aR T) (.int .i64 x0))=false)(h2:cP .i64 (abE dc) (.int .i64 x0))(h3:(dS (abE dc) (.int .i64 x0))=true)(h4:gB (abE dc) (.int .i64 x0)=some (fS y0))(Ea:aE Tp 7 kA (cW dl sk dc ov x0 x1 x2 x3 x4 x5 (!(iC dl [x0,x1,x2,x3,x4,x5])) 0 y0 y0.length (aR T) T.length) (.exit 0) (cW dl sk dc ov x0 x1 x2 x3 x4 x5 I2 B5 U7 U8 (aR Jc) Jc.length))(h6:cP .i64 (aR Jc) (.int .i64 x0))(h7:(dS (aR Jc) (.int .i64 x0))=false):FMM Tp 154 [(.p (dcE x0 x1 x2 x3 x4 x5)),(.ptr 4 0),(.ptr 5 0),(.ptr 0 0),(.ptr 2 0)] (dF dl sk dc ov T) (pB I2) [some (Ga dl sk dc),some (.box 33 [(.p ov)]),some G5,some (.mp ((aR Jc)++[((.int .i64 x0),(blP I2))]) (Jc.length+1)),some (.box 207 [(.mp 3)]),some (Gb dl sk dc),some H9]:=have k1:=fk 8 (aLx dl sk dc x0 x1 x2 x3 x4 x5) rfl;FMM.fi 7 gE func154 [bF,k1.o,.x (.mp (abE dc)),bT,.x (fS y0),Ea.k 1 (gI [0,1,2,2,7,2,10,22,35,39] [7]),bF] (gc h7 (gc h6 (gc Ea.code (gc h4 (gc h3 (gc h2 (gr (.mp (abE dc)) (gc k1 (gc h1 (gc h0 gn))))))))))
theorem cGb(h0:cP .i64 (aR T) (.int .i64 x0))(h1:(dS (aR T) (.int .i64 x0))=false)(h2:cP .i64 (abE dc) (.int .i64 x0))(h3:(dS (abE dc) (.int .i64 x0))=false)(E2:aE Tp 7 kA (cW dl sk dc ov x0 x1 x2 x3 x4 x5 (!(iC dl [x0,x1,x2,x3,x4,x5])) 0 ([]:Lqq) 0 (aR T) T.length) (.exit 0) (cW dl sk dc ov x0 x1 x2 x3 x4 x5 I1 Ev N2 N3 (aR E8) E8.length))(h5:cP .i64 (aR E8) (.int .i64 x0))(h6:(dS (aR E8) (.int .i64 x0))=true):FMM Tp 154 [(.p (dcE x0 x1 x2 x3 x4 x5)),(.ptr 4 0),(.ptr 5 0),(.ptr 0 0),(.ptr 2 0)] (dF dl sk dc ov T) (pB I1) [some (Ga dl sk dc),some (.box 33 [(.p ov)]),some G5,some (.mp (qZ (aR E8) (.int .i64 x0) (blP I1)) E8.length),some (.box 207 [(.mp 3)]),some (Gb dl sk dc),some H9]:=have k1:=fk 8 (aLx dl sk dc x0 x1 x2 x3 x4 x5) rfl;FMM.fi 7 gE func154 [bF,k1.o,.x (.mp (abE dc)),bF,E2.k 1 (gN [0,1,2,2,7,2,10,22,35,39] [7] [(32,99999)]),bT] (gc h6 (gc h5 (gc E2.code (gc h3 (gc h2 (gr (.mp (abE dc)) (gc k1 (gc h1 (gc h0 gn)))))))))
theorem cGc(h0:cP .i64 (aR T) (.int .i64 x0))(h1:(dS (aR T) (.int .i64 x0))=false)(h2:cP .i64 (abE dc) (.int .i64 x0))(h3:(dS (abE dc) (.int .i64 x0))=false)(E2:aE Tp 7 kA (cW dl sk dc ov x0 x1 x2 x3 x4 x5 (!(iC dl [x0,x1,x2,x3,x4,x5])) 0 ([]:Lqq) 0 (aR T) T.length) (.exit 0) (cW dl sk dc ov x0 x1 x2 x3 x4 x5 I1 Ev N2 N3 (aR E8) E8.length))(h5:cP .i64 (aR E8) (.int .i64 x0))(h6:(dS (aR E8) (.int .i64 x0))=false):FMM Tp 154 [(.p (dcE x0 x1 x2 x3 x4 x5)),(.ptr 4 0),(.ptr 5 0),(.ptr 0 0),(.ptr 2 0)] (dF dl sk dc ov T) (pB I1) [some (Ga dl sk dc),some (.box 33 [(.p ov)]),some G5,some (.mp ((aR E8)++[((.int .i64 x0),(blP I1))]) (E8.length+1)),some (.box 207 [(.mp 3)]),some (Gb dl sk dc),some H9]:=have k1:=fk 8 (aLx dl sk dc x0 x1 x2 x3 x4 x5) rfl;FMM.fi 7 gE func154 [bF,k1.o,.x (.mp (abE dc)),bF,E2.k 1 (gN [0,1,2,2,7,2,10,22,35,39] [7] [(32,99999)]),bF] (gc h6 (gc h5 (gc E2.code (gc h3 (gc h2 (gr (.mp (abE dc)) (gc k1 (gc h1 (gc h0 gn)))))))))
theorem bIl(h0:(i:Int)<(n:Int))(h1:l[i]? = some [Aa,Ab,Ac,Ad,Ae,Af])(h2:uni 6 l)(h3:Ab=5)(h4:is=true)(h5:tU dl sk dc ov [Aa,Ab,Ac,Ad,Ae,Af] Bj t T107)(h6:Bj=true)(h7:inR (((i+1):Nat):Int))(Ai:i'=(i+1))(Be:aR t'=(aR T107))(Bf:t'.length=T107.length):aC Tp 7 kA (cW dl sk dc ov x0 x1 x2 x3 x4 x5 is i l n (aR t) t.length) .normal (cW dl sk dc ov x0 x1 x2 x3 x4 x5 false i' l n (aR t') t'.length):=by
 subst Ai;have k1:=mq [0,1,2,3,4,5,6] 9 h5;rw [Be,Bf];exact aC.fi (gN [0,1,2,2,7,2,10,22,35,39] [7] [(9,0)]) ([bT,.x (dcE Aa Ab Ac Ad Ae Af)]++rT 8++[k1.o]++rT 11) (gc h7 (gc h6 (gc (cH h3) (gc h6 (Aw (cH h3) (Aw h6 (gc k1 (Az h4 (Fx (cH h3) (gfl h2 h1 (gc (aI h0) gn)))))))))))
theorem bIm(h0:(i:Int)<(n:Int))(h1:l[i]? = some [Aa,Ab,Ac,Ad,Ae,Af])(h2:uni 6 l)(h3:Ab=5)(h4:is=true)(h5:tU dl sk dc ov [Aa,Ab,Ac,Ad,Ae,Af] Bj t T107)(h6:Bj=false)(h7:inR (((i+1):Nat):Int))(Ai:i'=(i+1))(Be:aR t'=(aR T107))(Bf:t'.length=T107.length):aC Tp 7 kA (cW dl sk dc ov x0 x1 x2 x3 x4 x5 is i l n (aR t) t.length) .normal (cW dl sk dc ov x0 x1 x2 x3 x4 x5 is i' l n (aR t') t'.length):=by
 subst Ai;have k1:=mq [0,1,2,3,4,5,6] 9 h5;rw [Be,Bf];exact aC.fi (gI [0,1,2,2,7,2,10,22,35,39] [7]) ([bT,.x (dcE Aa Ab Ac Ad Ae Af)]++rT 8++[k1.o]++rF 6) (gc h7 (Fx h6 (gc k1 (Az h4 (Fx (cH h3) (gfl h2 h1 (gc (aI h0) gn)))))))
theorem bIn(h0:(i:Int)<(n:Int))(h1:l[i]? = some [Aa,Ab,Ac,Ad,Ae,Af])(h2:uni 6 l)(h3:Ab=5)(h4:is=false)(h5:inR (((i+1):Nat):Int))(Ai:i'=(i+1)):aC Tp 7 kA (cW dl sk dc ov x0 x1 x2 x3 x4 x5 is i l n (aR t) t.length) .normal (cW dl sk dc ov x0 x1 x2 x3 x4 x5 is i' l n (aR t) t.length):=by
 subst Ai;exact aC.fi (gI [0,1,2,2,7,2,10,22,35,39] [7]) ([bT,.x (dcE Aa Ab Ac Ad Ae Af)]++rT 6++[bF,bF]) (gc h5 (Az h4 (Fx (cH h3) (gfl h2 h1 (gc (aI h0) gn)))))
theorem bIo(h0:(i:Int)<(n:Int))(h1:l[i]? = some [Aa,Ab,Ac,Ad,Ae,Af])(h2:uni 6 l)(h3:Ab≠5)(h4:Ab=7)(h5:is=true)(h6:(cR x1)=false)(h7:tU dl sk dc ov [Aa,Ab,Ac,Ad,Ae,Af] Bj t T107)(h8:Bj=true)(h9:bWj dl sk dc ov [Aa,Ab,Ac,Ad,Ae,Af] Ld T107 T109)(A5:Ld=true)(Bd:inR (((i+1):Nat):Int))(Ai:i'=(i+1))(Be:aR t'=(aR T109))(Bf:t'.length=T109.length):aC Tp 7 kA (cW dl sk dc ov x0 x1 x2 x3 x4 x5 is i l n (aR t) t.length) .normal (cW dl sk dc ov x0 x1 x2 x3 x4 x5 false i' l n (aR t') t'.length):=by
 subst Ai;have k1:=mq [0,1,2,3,4,5,6] 9 h7;have k2:=mq [0,1,2,3,4,5,6] 9 h9;rw [Be,Bf];exact aC.fi (gN [0,1,2,2,7,2,10,22,35,39] [7] [(9,0)]) ([bT,.x (dcE Aa Ab Ac Ad Ae Af),bF,bF,bF,bF,bT,bT,bT,.c (pB (cR x1)) [],bT,bF,bT,bF]++rT 6++[k1.o]++rT 5++[bF,bF,bF,bF,k2.o,bT,bF,bT,bT]) (gc Bd (gc A5 (gc h8 (gc (aU h3) (gc h8 (gc k2 (Aw (aU h3) (Aw h8 (gc (bM h6) (gc k1 (Aw (bM h6) (Az h5 (gc (aU h3) (gc (cH h4) (gc (aU h3) (gc (cH h4) (gc (fk 9 (oQ x1) rfl) (Ak (cH h4) (Aw (aU h3) (gfl h2 h1 (gc (aI h0) gn)))))))))))))))))))))
theorem bIp(h0:(i:Int)<(n:Int))(h1:l[i]? = some [Aa,Ab,Ac,Ad,Ae,Af])(h2:uni 6 l)(h3:Ab≠5)(h4:Ab=7)(h5:is=true)(h6:(cR x1)=false)(h7:tU dl sk dc ov [Aa,Ab,Ac,Ad,Ae,Af] Bj t T107)(h8:Bj=true)(h9:bWj dl sk dc ov [Aa,Ab,Ac,Ad,Ae,Af] Ld T107 T109)(A5:Ld=false)(Bd:inR (((i+1):Nat):Int))(Ai:i'=(i+1))(Be:aR t'=(aR T109))(Bf:t'.length=T109.length):aC Tp 7 kA (cW dl sk dc ov x0 x1 x2 x3 x4 x5 is i l n (aR t) t.length) .normal (cW dl sk dc ov x0 x1 x2 x3 x4 x5 is i' l n (aR t') t'.length):=by
 subst Ai;have k1:=mq [0,1,2,3,4,5,6] 9 h7;have k2:=mq [0,1,2,3,4,5,6] 9 h9;rw [Be,Bf];exact aC.fi (gI [0,1,2,2,7,2,10,22,35,39] [7]) ([bT,.x (dcE Aa Ab Ac Ad Ae Af),bF,bF,bF,bF,bT,bT,bT,.c (pB (cR x1)) [],bT,bF,bT,bF]++rT 6++[k1.o]++rT 5++[bF,bF,bF,bF,k2.o,bT,bF,bT,bF]) (gc Bd (gc A5 (gc h8 (gc (aU h3) (gc h8 (gc k2 (Aw (aU h3) (Aw h8 (gc (bM h6) (gc k1 (Aw (bM h6) (Az h5 (gc (aU h3) (gc (cH h4) (gc (aU h3) (gc (cH h4) (gc (fk 9 (oQ x1) rfl) (Ak (cH h4) (Aw (aU h3) (gfl h2 h1 (gc (aI h0) gn)))))))))))))))))))))
theorem bIq(h0:(i:Int)<(n:Int))(h1:l[i]? = some [Aa,Ab,Ac,Ad,Ae,Af])(h2:uni 6 l)(h3:Ab≠5)(h4:Ab=7)(h5:is=true)(h6:(cR x1)=false)(h7:tU dl sk dc ov [Aa,Ab,Ac,Ad,Ae,Af] Bj t T107)(h8:Bj=false)(h9:inR (((i+1):Nat):Int))(Ai:i'=(i+1))(Be:aR t'=(aR T107))(Bf:t'.length=T107.length):aC Tp 7 kA (cW dl sk dc ov x0 x1 x2 x3 x4 x5 is i l n (aR t) t.length) .normal (cW dl sk dc ov x0 x1 x2 x3 x4 x5 is i' l n (aR t') t'.length):=by
 subst Ai;have k1:=mq [0,1,2,3,4,5,6] 9 h7;rw [Be,Bf];exact aC.fi (gI [0,1,2,2,7,2,10,22,35,39] [7]) ([bT,.x (dcE Aa Ab Ac Ad Ae Af),bF,bF,bF,bF,bT,bT,bT,.c (pB (cR x1)) [],bT,bF,bT,bF]++rT 6++[k1.o,bT]++rF 6) (gc h9 (Fx h8 (gc (bM h6) (gc k1 (Aw (bM h6) (Az h5 (gc (aU h3) (gc (cH h4) (gc (aU h3) (gc (cH h4) (gc (fk 9 (oQ x1) rfl) (Ak (cH h4) (Aw (aU h3) (gfl h2 h1 (gc (aI h0) gn)))))))))))))))
theorem bIr(h0:(i:Int)<(n:Int))(h1:l[i]? = some [Aa,Ab,Ac,Ad,Ae,Af])(h2:uni 6 l)(h3:Ab≠5)(h4:Ab=7)(h5:is=true)(h6:(cR x1)=true)(h7:inR (((i+1):Nat):Int))(Ai:i'=(i+1)):aC Tp 7 kA (cW dl sk dc ov x0 x1 x2 x3 x4 x5 is i l n (aR t) t.length) .normal (cW dl sk dc ov x0 x1 x2 x3 x4 x5 is i' l n (aR t) t.length):=by
 subst Ai;exact aC.fi (gI [0,1,2,2,7,2,10,22,35,39] [7]) ([bT,.x (dcE Aa Ab Ac Ad Ae Af),bF,bF,bF,bF,bT,bT,bT,.c (pB (cR x1)) [],bT,bF,bT,bF,bT,bT]++rF 5) (gc h7 (Bo (aV h6) (Az h5 (gc (aU h3) (gc (cH h4) (gc (aU h3) (gc (cH h4) (gc (fk 9 (oQ x1) rfl) (Ak (cH h4) (Aw (aU h3) (gfl h2 h1 (gc (aI h0) gn))))))))))))
theorem bIs(h0:(i:Int)<(n:Int))(h1:l[i]? = some [Aa,Ab,Ac,Ad,Ae,Af])(h2:uni 6 l)(h3:Ab≠5)(h4:Ab=7)(h5:is=false)(h6:inR (((i+1):Nat):Int))(Ai:i'=(i+1)):aC Tp 7 kA (cW dl sk dc ov x0 x1 x2 x3 x4 x5 is i l n (aR t) t.length) .normal (cW dl sk dc ov x0 x1 x2 x3 x4 x5 is i' l n (aR t) t.length):=by
 subst Ai;exact aC.fi (gI [0,1,2,2,7,2,10,22,35,39] [7]) [bT,.x (dcE Aa Ab Ac Ad Ae Af),bF,bF,bF,bF,bT,bT,bT,.c (pB (cR x1)) [],bT,bF,bT,bF,bF,bF] (gc h6 (Az h5 (gc (aU h3) (gc (cH h4) (gc (aU h3) (gc (cH h4) (gc (fk 9 (oQ x1) rfl) (Ak (cH h4) (Aw (aU h3) (gfl h2 h1 (gc (aI h0) gn)))))))))))
theorem bIt(h0:(i:Int)<(n:Int))(h1:l[i]? = some [Aa,Ab,Ac,Ad,Ae,Af])(h2:uni 6 l)(h3:Ab≠5)(h4:Ab≠7)(h5:is=true)(h6:inR (((i+1):Nat):Int))(Ai:i'=(i+1)):aC Tp 7 kA (cW dl sk dc ov x0 x1 x2 x3 x4 x5 is i l n (aR t) t.length) .normal (cW dl sk dc ov x0 x1 x2 x3 x4 x5 is i' l n (aR t) t.length):=by
 subst Ai;exact aC.fi (gI [0,1,2,2,7,2,10,22,35,39] [7]) ([bT,.x (dcE Aa Ab Ac Ad Ae Af)]++rF 11++[bT,bT]) (gc h6 (Az h5 (gc (aU h3) (gc (aU h4) (gc (aU h3) (Aw (aU h4) (Aw (aU h3) (gfl h2 h1 (gc (aI h0) gn)))))))))
theorem bIu(h0:(i:Int)<(n:Int))(h1:l[i]? = some [Aa,Ab,Ac,Ad,Ae,Af])(h2:uni 6 l)(h3:Ab≠5)(h4:Ab≠7)(h5:is=false)(h6:inR (((i+1):Nat):Int))(Ai:i'=(i+1)):aC Tp 7 kA (cW dl sk dc ov x0 x1 x2 x3 x4 x5 is i l n (aR t) t.length) .normal (cW dl sk dc ov x0 x1 x2 x3 x4 x5 is i' l n (aR t) t.length):=by
 subst Ai;exact aC.fi (gI [0,1,2,2,7,2,10,22,35,39] [7]) ([bT,.x (dcE Aa Ab Ac Ad Ae Af)]++rF 13) (gc h6 (Az h5 (gc (aU h3) (gc (aU h4) (gc (aU h3) (Aw (aU h4) (Aw (aU h3) (gfl h2 h1 (gc (aI h0) gn)))))))))
theorem aWb(h0:(n:Int)≤(i:Int)):aC Tp 7 kA (cW dl sk dc ov x0 x1 x2 x3 x4 x5 is i l n (aR t) t.length) (.exit 0) (cW dl sk dc ov x0 x1 x2 x3 x4 x5 is i l n (aR t) t.length):=aC.fi (gI [0,1,2,2,7,2,10,22,35,39] [7]) [bF] (gc (aN h0) gn)
theorem bQn(h0:cFs 155 dl sk dc ov [x0,x1,x2,x3,x4,x5] [z0,z1,z2,z3,z4,z5] b6 T T7):FMM Tp 156 [(.p (dcE x0 x1 x2 x3 x4 x5)),(.ptr 6 0)] (dF dl sk dc ov T) (.tup [(.p (dcE z0 z1 z2 z3 z4 z5)),(pB b6)]) (dF dl sk dc ov T7):=have k1:=mq [0,1,2,3,4,5,6] 9 h0;FMM.fi 7 gE func156 [k1.o] (gc k1 gn)
theorem bQo(h0:cFs 159 dl sk dc ov [x0,x1,x2,x3,x4,x5] [z0,z1,z2,z3,z4,z5] b6 T T7):FMM Tp 158 [(.p (dcE x0 x1 x2 x3 x4 x5)),(.ptr 6 0)] (dF dl sk dc ov T) (.tup [(.p (dcE z0 z1 z2 z3 z4 z5)),(pB b6)]) (dF dl sk dc ov T7):=have k1:=mq [0,1,2,3,4,5,6] 9 h0;FMM.fi 7 gE func158 [k1.o] (gc k1 gn)
theorem cGd(h0:aQl dl sk dc ov [x0,x1,x2,x3,x4,x5] [z0,z1,z2,z3,z4,z5] b6 T T7)(h1:b6=true)(A4:r0=(z1 == 8)):FMM Tp 157 [(.p (dcE x0 x1 x2 x3 x4 x5)),(.ptr 2 0),(.ptr 1 0)] (dF dl sk dc ov T) (pB r0) (dF dl sk dc ov T7):=by
 subst A4;have k1:=mq [0,1,2,3,4,5,6] 8 h0;exact FMM.fi 7 gE func157 [k1.o,bT] (gc h1 (gc k1 gn))
theorem cGe{b8:Bool}(h0:aQl dl sk dc ov [x0,x1,x2,x3,x4,x5] [z0,z1,z2,z3,z4,z5] b6 T T7)(h1:b6=false)(h2:vG ov x0 b8):FMM Tp 157 [(.p (dcE x0 x1 x2 x3 x4 x5)),(.ptr 2 0),(.ptr 1 0)] (dF dl sk dc ov T) (pB b8) (dF dl sk dc ov T7):=have k1:=mq [0,1,2,3,4,5,6] 8 h0;FMM.fi 7 gE func157 [k1.o,bF,.c (pB b8) []] (gc (fk 9 (h2 _) rfl) (gc h1 (gc k1 gn)))
theorem cGf{m8:Int}{T9:Lqb}(h0:cFt dl sk dc ov [x0,x1,x2,x3,x4,x5] [z0,z1,z2,z3,z4,z5] b6 T T7)(h1:b6=true)(h2:aCc dl sk dc ov [z0,z1,z2,z3,z4,z5] m8 T7 T9):FMM Tp 160 [(.p (dcE x0 x1 x2 x3 x4 x5)),(.ptr 2 0)] (dF dl sk dc ov T) (pI m8) (dF dl sk dc ov T9):=have k1:=mq [0,1,2,3,4,5,6] 8 h0;have k2:=mq [0,1,2,3,4,5,6] 9 h2;FMM.fi 7 gE func160 [k1.o,bT,k2.o] (gc k2 (gc h1 (gc k1 gn)))
theorem cGg(h0:cFt dl sk dc ov [x0,x1,x2,x3,x4,x5] [z0,z1,z2,z3,z4,z5] b6 T T7)(h1:b6=false):FMM Tp 160 [(.p (dcE x0 x1 x2 x3 x4 x5)),(.ptr 2 0)] (dF dl sk dc ov T) (pI x4) (dF dl sk dc ov T7):=have k1:=mq [0,1,2,3,4,5,6] 8 h0;FMM.fi 7 gE func160 [k1.o,bF] (gc h1 (gc k1 gn))
theorem aLy:FMM Tp 87 [(.rp (aY dl sk dc) 0),(.p bX)] [] zV [some (Ga dl sk dc),some (.box 33 [(.p bX)]),some G5,some (.mp [] 0),some (.box 207 [(.mp 3)]),some (Gb dl sk dc),some H9]:=FMM.fi 0 ⟨[],[0,1,3,4,5,6,7],[],[]⟩ func87 [] gn
theorem rU{on:Nat}{ol:List PV}:FMM Tp 87 [(.rp (aY dl sk dc) 0),(.p (.sl on ol))] [] zV [some (Ga dl sk dc),some (.box 33 [(.p (.sl on ol))]),some G5,some (.mp [] 0),some (.box 207 [(.mp 3)]),some (Gb dl sk dc),some H9]:=FMM.fi 0 ⟨[],[0,1,3,4,5,6,7],[],[]⟩ func87 [] gn
end
section
section
variable {dc:Lqq}
theorem aLs(h:bN dc){n:Int}(hn:1≤n∧n≤9999):cP .i64 (abE dc) (.int .i64 n):=by
 have ha:=aVo h;refine ⟨fun e he => ?_,pF (by omega),?_⟩
 ·obtain ⟨p,hp,rfl⟩:=Bs.1 he
  obtain ⟨q1,q2,q3⟩:=ha.mem p hp;cases hx:p.2 with
  | nil=>exact absurd hx q2
  | cons x r =>
   have:x∈dc.reverse.filter fun x=>dAb x == p.1:=by rw [← q3,hx];exact gL ..
   obtain ⟨h1,h2⟩:=kK.1 this;have:=nJ h x (zM.1 h1);have h2:dAb x=p.1:=by simpa using h2
   exact pF (by omega)
 ·have:(abE dc).map (fun e=>jO e.1)=(abM dc).map (·.1):=by
   unfold abE;rw [vD];rfl
  rw [this];exact ha.nd
theorem aLt(h:bN dc){n:Int}(hn:0<n):(dS (abE dc) (.int .i64 n)=true∧gB (abE dc) (.int .i64 n)=some (.sl (cB dc n).length ((cB dc n).flatten.map aA)))∨(dS (abE dc) (.int .i64 n)=false∧cB dc n=[]):=by
 have ha:=aVo h;have e1:dS (abE dc) (.int .i64 n)=(abM dc).any fun e=>e.1 == n:=by
  unfold dS abE;rw [List.any_map]
  congr 1
 have e2:gB (abE dc) (.int .i64 n)=((abM dc).find? fun e=>e.1 == n).map fun e => .sl e.2.length (e.2.flatten.map aA):=by
  unfold gB abE;generalize abM dc=L
  induction L with
  | nil=>rfl
  | cons p L ih =>
   rw [fZ,List.find?_cons,List.find?_cons];have e:(decide (jO (((Value.int IntKind.i64 p.1),PV.sl p.2.length (p.2.flatten.map aA)):Value × PV).1=jO (Value.int IntKind.i64 n)))=(p.1 == n):=by
    show decide (p.1=n)=(p.1 == n);rw [Bool.eq_iff_iff];simp
   rw [e];cases p.1 == n with
   | true=>rfl
   | false=>exact ih
 rw [e1,e2];cases hf:(abM dc).find? fun e=>e.1 == n with
 | some e =>
  have h1:=sH hf;have h2:e.1=n:=by simpa using aPp hf
  obtain ⟨q1,q2,q3⟩:=ha.mem e h1;refine .inl ⟨List.any_eq_true.2 ⟨e,h1,by simpa using h2⟩,?_⟩
  have:e.2=cB dc n:=by rw [q3,h2];rfl
  rw [Option.map_some,this]
 | none =>
  refine .inr ⟨?_,?_⟩
  ·rw [List.any_eq_false]
   intro e he;exact aEm.1 hf e he
  ·rw [← bPv h hn]
   unfold aBj;rw [hf]
theorem iZ(h:bN dc)(n:Int):uni 6 (cB dc n):=fun y hy=>h.ud y (eU hy).1
theorem zU(h:bN dc)(n:Int):(cB dc n).length≤1000:=by
 have:=mI (fun x=>dAb x == n) dc.reverse
 have h2:=h.len;rw [bUg] at this
 unfold cB;omega
theorem aZx{α:Type}{p:α→Bool}{l:List α}{i:Nat}{x:α}(hi:l[i]? = some x)(hp:p x=true)(hj:∀ j y,j<i→l[j]? = some y→p y=false):l.find? p=some x:=by
 obtain ⟨h1,h2⟩:=B3.1 hi;rw [List.find?_eq_some_iff_getElem];exact ⟨hp,i,h1,h2,fun j h=>by
  rw [hj j l[j] h (Av (by omega))];rfl⟩
end
def Il:List Int:=[0,0,0,0,0,0]
section
variable (dl:Int) (sk dc:Lqq) (oc:List Int) (ov:PV)
def sE(x:List Int):Prop:=∀ T,cS dl oc dc T→∃ T',cS dl oc dc T'∧tU dl sk dc ov x (dJ dl oc dc x) T T'
def bZz(g:Nat)(q:List Int→Bool)(x:List Int):Prop:=∀ T,cS dl oc dc T→∃ T',cS dl oc dc T'∧cFs g dl sk dc ov x (((cB dc (dN x)).find? fun y=>q y && dJ dl oc dc y).getD Il) ((cB dc (dN x)).find? fun y=>q y && dJ dl oc dc y).isSome T T'
def cAa(x:List Int):Prop:=∀ T,cS dl oc dc T→∃ T',cS dl oc dc T'∧aQl dl sk dc ov x ((vF dl oc dc x).getD Il) (vF dl oc dc x).isSome T T'
def cAb(x:List Int):Prop:=∀ T,cS dl oc dc T→∃ T',cS dl oc dc T'∧cFt dl sk dc ov x ((aLp dl oc dc x).getD Il) (aLp dl oc dc x).isSome T T'
def aZy(x:List Int):Prop:=∀ T,cS dl oc dc T→∃ T',cS dl oc dc T'∧bWj dl sk dc ov x (vE dl oc dc x) T T'
def cAc(x:List Int):Prop:=∀ T,cS dl oc dc T→∃ T',cS dl oc dc T'∧aCc dl sk dc ov x (kI dl oc dc x) T T'
end
section
variable {dl:Int} {sk dc:Lqq} {oc:List Int} {ov:PV}
theorem bIj(l:Lqq)(hu:uni 6 l)(hl:l.length≤1000)(hC:∀ y∈l,sE dl sk dc oc ov y)(T:Lqb)(hT:cS dl oc dc T) :
  (∃ i T' y,l[i]? = some y∧(cR (dK y) && dJ dl oc dc y)=true∧(∀ j z,j<i→l[j]? = some z→(cR (dK z) && dJ dl oc dc z)=false)∧cS dl oc dc T'∧aE Tp 7 (sub (cd Tryz.f153) [1,0,1,0,0]) (dZ dl sk dc ov 0 l l.length (aR T) T.length 0 0 0 0 0 0) .ret (bS (dZ dl sk dc ov i l l.length (aR T') T'.length (y.getD 0 0) (y.getD 1 0) (y.getD 2 0) (y.getD 3 0) (y.getD 4 0) (y.getD 5 0)) [(7,.kb true)])) ∨
  ((l.find? fun y=>cR (dK y) && dJ dl oc dc y)=none∧∃ T',cS dl oc dc T'∧aE Tp 7 (sub (cd Tryz.f153) [1,0,1,0,0]) (dZ dl sk dc ov 0 l l.length (aR T) T.length 0 0 0 0 0 0) (.exit 0) (dZ dl sk dc ov l.length l l.length (aR T') T'.length 0 0 0 0 0 0)):=by
 have hx:∀ i,i<l.length→∃ a b c d e f,l[i]? = some [a,b,c,d,e,f]∧l.getD i []=[a,b,c,d,e,f]∧[a,b,c,d,e,f]∈l:=fun i hi=>by
  obtain ⟨a,b,c,d,e,f,h⟩:=A6 (hu _ (fL hi));have h1:l[i]? = some [a,b,c,d,e,f]:=by rw [Av hi,h]
  exact ⟨a,b,c,d,e,f,h1,by rw [Bv,h1];rfl,Bi h1⟩
 rcases aE.exF (P:=Tp) (k:=7) (b:=sub (cd Tryz.f153) [1,0,1,0,0]) (e1 := .ret) (e2 := .exit 0) (fun i T=>dZ dl sk dc ov i l l.length (aR T) T.length 0 0 0 0 0 0)
  (fun i T=>bS (dZ dl sk dc ov i l l.length (aR T) T.length ((l.getD i []).getD 0 0) ((l.getD i []).getD 1 0) ((l.getD i []).getD 2 0) ((l.getD i []).getD 3 0) ((l.getD i []).getD 4 0) ((l.getD i []).getD 5 0)) [(7,.kb true)])
  (fun T=>dZ dl sk dc ov l.length l l.length (aR T) T.length 0 0 0 0 0 0) (cS dl oc dc) (by simp) (by simp) (fun i=>cR (dK (l.getD i [])) && dJ dl oc dc (l.getD i [])) l.length
  (fun i T1 hi h1 hp=>by
   obtain ⟨a,b,c,d,e,f,g1,g2,g3⟩:=hx i hi;rw [g2] at hp
   cases hq:cR b with
   | false=>exact ⟨T1,h1,aVv (by omega) g1 hu hq (aH (by omega)) rfl⟩
   | true =>
    have hp:(cR b && dJ dl oc dc [a,b,c,d,e,f])=false:=hp;rw [hq,gA] at hp
    obtain ⟨T2,h2,c2⟩:=hC _ g3 T1 h1;rw [hp] at c2
    exact ⟨T2,h2,aVu (by omega) g1 hu hq c2 rfl (aH (by omega)) rfl rfl rfl⟩)
  (fun i T1 hi h1 hp=>by
   obtain ⟨a,b,c,d,e,f,g1,g2,g3⟩:=hx i hi;rw [g2] at hp ⊢
   rw [B7] at hp
   obtain ⟨T2,h2,c2⟩:=hC _ g3 T1 h1;rw [hp.2] at c2
   exact ⟨T2,h2,aVt (by omega) g1 hu hp.1 c2 rfl rfl rfl⟩)
  (fun T1 h1=>aVw (by omega)) hT with ⟨i,T',h1,h2,h3,h4,h5⟩ | ⟨h1,T',h2,h3⟩
 ·obtain ⟨a,b,c,d,e,f,g1,g2,g3⟩:=hx i h1
  rw [g2] at h2 h5
  refine .inl ⟨i,T',_,g1,h2,fun j z hj hz => ?_,h4,h5⟩
  have:=h3 j hj;rw [Bv,hz] at this
  exact this
 ·refine .inr ⟨?_,T',h2,h3⟩
  rw [aEm];intro y hy;obtain ⟨i,hi,rfl⟩:=List.mem_iff_getElem.1 hy;have:=h1 i hi;rw [Bv,Av hi] at this
  simpa using this
theorem bWh(hd:bN dc){x:List Int}(hx:x∈dc)(hC:∀ y∈cB dc (dN x),sE dl sk dc oc ov y):bZz dl sk dc oc ov 155 (fun y=>cR (dK y)) x:=fun T hT=>by
 have hn:=eQ hd hx;have hk:=aLs hd hn;have hL:=bIj (cB dc (dN x)) (iZ hd _) (zU hd _) hC T hT;obtain ⟨x0,x1,x2,x3,x4,x5,rfl⟩:=A6 (hd.ud x hx)
 rcases aLt hd (n:=dN [x0,x1,x2,x3,x4,x5]) (by omega) with ⟨h1,h2⟩ | ⟨h1,h2⟩
 ·rcases hL with ⟨i,T',y,q1,q2,q3,q4,q5⟩ | ⟨q1,T',q2,q3⟩
  ·have hf:=aZx (p:=fun y=>cR (dK y) && dJ dl oc dc y) q1 q2 q3
   rw [hf];obtain ⟨a,b,c,d,e,f,rfl⟩:=A6 (iZ hd _ _ (Bi q1));exact ⟨T',q4,bWo hk h1 h2 q5⟩
  ·rw [q1]
   exact ⟨T',q2,bWn hk h1 h2 q3⟩
 ·rw [h2] at hL ⊢
  rcases hL with ⟨i,T',y,q1,q2,q3,q4,q5⟩ | ⟨q1,T',q2,q3⟩
  ·simp at q1
  ·exact ⟨T',q2,bWp hk h1 q3⟩
theorem bIk(l:Lqq)(hu:uni 6 l)(hl:l.length≤1000)(hC:∀ y∈l,sE dl sk dc oc ov y)(T:Lqb)(hT:cS dl oc dc T) :
  (∃ i T' y,l[i]? = some y∧(dK y == 6 && dJ dl oc dc y)=true∧(∀ j z,j<i→l[j]? = some z→(dK z == 6 && dJ dl oc dc z)=false)∧cS dl oc dc T'∧aE Tp 7 (sub (cd Tryz.f153) [1,0,1,0,0]) (eA dl sk dc ov 0 l l.length (aR T) T.length 0 0 0 0 0 0) .ret (bS (eA dl sk dc ov i l l.length (aR T') T'.length (y.getD 0 0) (y.getD 1 0) (y.getD 2 0) (y.getD 3 0) (y.getD 4 0) (y.getD 5 0)) [(7,.kb true)])) ∨
  ((l.find? fun y=>dK y == 6 && dJ dl oc dc y)=none∧∃ T',cS dl oc dc T'∧aE Tp 7 (sub (cd Tryz.f153) [1,0,1,0,0]) (eA dl sk dc ov 0 l l.length (aR T) T.length 0 0 0 0 0 0) (.exit 0) (eA dl sk dc ov l.length l l.length (aR T') T'.length 0 0 0 0 0 0)):=by
 have hx:∀ i,i<l.length→∃ a b c d e f,l[i]? = some [a,b,c,d,e,f]∧l.getD i []=[a,b,c,d,e,f]∧[a,b,c,d,e,f]∈l:=fun i hi=>by
  obtain ⟨a,b,c,d,e,f,h⟩:=A6 (hu _ (fL hi));have h1:l[i]? = some [a,b,c,d,e,f]:=by rw [Av hi,h]
  exact ⟨a,b,c,d,e,f,h1,by rw [Bv,h1];rfl,Bi h1⟩
 rcases aE.exF (P:=Tp) (k:=7) (b:=sub (cd Tryz.f153) [1,0,1,0,0]) (e1 := .ret) (e2 := .exit 0) (fun i T=>eA dl sk dc ov i l l.length (aR T) T.length 0 0 0 0 0 0)
  (fun i T=>bS (eA dl sk dc ov i l l.length (aR T) T.length ((l.getD i []).getD 0 0) ((l.getD i []).getD 1 0) ((l.getD i []).getD 2 0) ((l.getD i []).getD 3 0) ((l.getD i []).getD 4 0) ((l.getD i []).getD 5 0)) [(7,.kb true)])
  (fun T=>eA dl sk dc ov l.length l l.length (aR T) T.length 0 0 0 0 0 0) (cS dl oc dc) (by simp) (by simp) (fun i=>dK (l.getD i []) == 6 && dJ dl oc dc (l.getD i [])) l.length
  (fun i T1 hi h1 hp=>by
   obtain ⟨a,b,c,d,e,f,g1,g2,g3⟩:=hx i hi;rw [g2] at hp
   cases hq:(b == 6) with
   | false=>exact ⟨T1,h1,aVz (by omega) g1 hu hq (aH (by omega)) rfl⟩
   | true =>
    have hp:((b == 6) && dJ dl oc dc [a,b,c,d,e,f])=false:=hp;rw [hq,gA] at hp
    obtain ⟨T2,h2,c2⟩:=hC _ g3 T1 h1;rw [hp] at c2
    exact ⟨T2,h2,aVy (by omega) g1 hu hq c2 rfl (aH (by omega)) rfl rfl rfl⟩)
  (fun i T1 hi h1 hp=>by
   obtain ⟨a,b,c,d,e,f,g1,g2,g3⟩:=hx i hi;rw [g2] at hp ⊢
   rw [B7] at hp
   obtain ⟨T2,h2,c2⟩:=hC _ g3 T1 h1;rw [hp.2] at c2
   exact ⟨T2,h2,aVx (by omega) g1 hu hp.1 c2 rfl rfl rfl⟩)
  (fun T1 h1=>aWa (by omega)) hT with ⟨i,T',h1,h2,h3,h4,h5⟩ | ⟨h1,T',h2,h3⟩
 ·obtain ⟨a,b,c,d,e,f,g1,g2,g3⟩:=hx i h1
  rw [g2] at h2 h5
  refine .inl ⟨i,T',_,g1,h2,fun j z hj hz => ?_,h4,h5⟩
  have:=h3 j hj;rw [Bv,hz] at this
  exact this
 ·refine .inr ⟨?_,T',h2,h3⟩
  rw [aEm];intro y hy;obtain ⟨i,hi,rfl⟩:=List.mem_iff_getElem.1 hy;have:=h1 i hi;rw [Bv,Av hi] at this
  simpa using this
theorem bWi(hd:bN dc){x:List Int}(hx:x∈dc)(hC:∀ y∈cB dc (dN x),sE dl sk dc oc ov y):bZz dl sk dc oc ov 159 (fun y=>dK y == 6) x:=fun T hT=>by
 have hn:=eQ hd hx;have hk:=aLs hd hn;have hL:=bIk (cB dc (dN x)) (iZ hd _) (zU hd _) hC T hT;obtain ⟨x0,x1,x2,x3,x4,x5,rfl⟩:=A6 (hd.ud x hx)
 rcases aLt hd (n:=dN [x0,x1,x2,x3,x4,x5]) (by omega) with ⟨h1,h2⟩ | ⟨h1,h2⟩
 ·rcases hL with ⟨i,T',y,q1,q2,q3,q4,q5⟩ | ⟨q1,T',q2,q3⟩
  ·have hf:=aZx (p:=fun y=>dK y == 6 && dJ dl oc dc y) q1 q2 q3
   rw [hf];obtain ⟨a,b,c,d,e,f,rfl⟩:=A6 (iZ hd _ _ (Bi q1));exact ⟨T',q4,bWr hk h1 h2 q5⟩
  ·rw [q1]
   exact ⟨T',q2,bWq hk h1 h2 q3⟩
 ·rw [h2] at hL ⊢
  rcases hL with ⟨i,T',y,q1,q2,q3,q4,q5⟩ | ⟨q1,T',q2,q3⟩
  ·simp at q1
  ·exact ⟨T',q2,bWs hk h1 q3⟩

theorem bQj(hd:bN dc){x:List Int}(hx:x∈dc)(hC:∀ y∈cB dc (dN x),sE dl sk dc oc ov y):cAa dl sk dc oc ov x:=fun T hT=>by
 obtain ⟨T',h1,h2⟩:=bWh hd hx hC T hT;rw [← aFe hd hx] at h2
 obtain ⟨x0,x1,x2,x3,x4,x5,rfl⟩:=A6 (hd.ud x hx);have hz:∀ z,vF dl oc dc [x0,x1,x2,x3,x4,x5]=some z→z.length=6:=fun z hz=>by
  rw [aFe hd hx] at hz
  exact iZ hd _ z (sH hz)
 cases hr:vF dl oc dc [x0,x1,x2,x3,x4,x5] with
 | none =>
  rw [hr] at h2
  exact ⟨T',h1,bQn (z0:=0) (z1:=0) (z2:=0) (z3:=0) (z4:=0) (z5:=0) h2⟩
 | some z =>
  obtain ⟨a,b,c,d,e,f,rfl⟩:=A6 (hz z hr);rw [hr] at h2
  exact ⟨T',h1,bQn h2⟩
theorem cFq(hd:bN dc){x:List Int}(hx:x∈dc)(hC:∀ y∈cB dc (dN x),sE dl sk dc oc ov y):cAb dl sk dc oc ov x:=fun T hT=>by
 obtain ⟨T',h1,h2⟩:=bWi hd hx hC T hT;rw [← aFf hd hx] at h2
 obtain ⟨x0,x1,x2,x3,x4,x5,rfl⟩:=A6 (hd.ud x hx);have hz:∀ z,aLp dl oc dc [x0,x1,x2,x3,x4,x5]=some z→z.length=6:=fun z hz=>by
  rw [aFf hd hx] at hz
  exact iZ hd _ z (sH hz)
 cases hr:aLp dl oc dc [x0,x1,x2,x3,x4,x5] with
 | none =>
  rw [hr] at h2
  exact ⟨T',h1,bQo (z0:=0) (z1:=0) (z2:=0) (z3:=0) (z4:=0) (z5:=0) h2⟩
 | some z =>
  obtain ⟨a,b,c,d,e,f,rfl⟩:=A6 (hz z hr);rw [hr] at h2
  exact ⟨T',h1,bQo h2⟩
theorem bQk(hd:bN dc)(hov:∀ n,vG ov n (oc.contains n)){x:List Int}(hx:x∈dc)(hC:∀ y∈cB dc (dN x),sE dl sk dc oc ov y):aZy dl sk dc oc ov x:=fun T hT=>by
 obtain ⟨T',h1,h2⟩:=bQj hd hx hC T hT;rw [cEv hd hx];obtain ⟨x0,x1,x2,x3,x4,x5,rfl⟩:=A6 (hd.ud x hx);have hz:∀ z,vF dl oc dc [x0,x1,x2,x3,x4,x5]=some z→z.length=6:=fun z hz=>by
  rw [aFe hd hx] at hz
  exact iZ hd _ z (sH hz)
 cases hr:vF dl oc dc [x0,x1,x2,x3,x4,x5] with
 | none =>
  rw [hr] at h2
  exact ⟨T',h1,cGe (z0:=0) (z1:=0) (z2:=0) (z3:=0) (z4:=0) (z5:=0) h2 rfl (hov _)⟩
 | some z =>
  obtain ⟨a,b,c,d,e,f,rfl⟩:=A6 (hz z hr);rw [hr] at h2
  exact ⟨T',h1,cGd h2 rfl rfl⟩
abbrev rS(dl:Int)(oc:List Int)(dc:Lqq)(x y:List Int):Bool:=vT x y && dJ dl oc dc y && (dK y == 5 || vE dl oc dc y)
theorem bQl{x0 x1 x2 x3 x4 x5:Int}(hd:bN dc)(l:Lqq)(hu:uni 6 l)(hl:l.length≤1000)(hC:∀ y∈l,sE dl sk dc oc ov y)(hU:∀ y∈l,aZy dl sk dc oc ov y)(T:Lqb)(hT:cS dl oc dc T)(is:Bool) :
  ∃ T',cS dl oc dc T'∧aE Tp 7 (sub (cd Tryz.f154) [1,1,1,0,1,0,0]) (cW dl sk dc ov x0 x1 x2 x3 x4 x5 is 0 l l.length (aR T) T.length) (.exit 0) (cW dl sk dc ov x0 x1 x2 x3 x4 x5 (is && !(l.any (rS dl oc dc [x0,x1,x2,x3,x4,x5]))) l.length l l.length (aR T') T'.length):=by
 have hx:∀ i,i<l.length→∃ a b c d e f,l[i]? = some [a,b,c,d,e,f]∧[a,b,c,d,e,f]∈l:=fun i hi=>by
  obtain ⟨a,b,c,d,e,f,h⟩:=A6 (hu _ (fL hi));have h1:l[i]? = some [a,b,c,d,e,f]:=by rw [Av hi,h]
  exact ⟨a,b,c,d,e,f,h1,Bi h1⟩
 have et:∀ i y,l[i]? = some y→(l.take (i+1)).any (rS dl oc dc [x0,x1,x2,x3,x4,x5])=((l.take i).any (rS dl oc dc [x0,x1,x2,x3,x4,x5]) || rS dl oc dc [x0,x1,x2,x3,x4,x5] y):=fun i y h=>by
  rw [List.take_add_one,h,List.any_append];simp
 obtain ⟨acc, ⟨h1,h2⟩,h3⟩:=aE.ex (P:=Tp) (k:=7) (b:=sub (cd Tryz.f154) [1,1,1,0,1,0,0]) (e := .exit 0) (fun i (a:Bool × Lqb)=>cW dl sk dc ov x0 x1 x2 x3 x4 x5 a.1 i l l.length (aR a.2) a.2.length)
  (fun a=>cW dl sk dc ov x0 x1 x2 x3 x4 x5 a.1 l.length l l.length (aR a.2) a.2.length) (fun i a=>cS dl oc dc a.2∧a.1=(is && !((l.take i).any (rS dl oc dc [x0,x1,x2,x3,x4,x5])))) (by simp) l.length
  (fun i acc hi hI=>by
   obtain ⟨b,T1⟩:=acc;obtain ⟨h1,h2⟩:=hI;dsimp only at h1 h2
   obtain ⟨a,k,c,d,e,f,g1,g3⟩:=hx i hi;rw [et i _ g1];cases hb:b with
   | false =>
    rw [hb] at h2
    have hI:∀ q:Bool,false=(is && !((l.take i).any (rS dl oc dc [x0,x1,x2,x3,x4,x5]) || q)):=fun q=>by
     revert h2;cases is <;> cases (l.take i).any (rS dl oc dc [x0,x1,x2,x3,x4,x5]) <;> cases q <;> simp
    by_cases h5:k=5
    ·exact ⟨(false,T1),⟨h1,hI _⟩,bIn (by omega) g1 hu h5 rfl (aH (by omega)) rfl⟩
    ·by_cases h7:k=7
     ·exact ⟨(false,T1),⟨h1,hI _⟩,bIs (by omega) g1 hu h5 h7 rfl (aH (by omega)) rfl⟩
     ·exact ⟨(false,T1),⟨h1,hI _⟩,bIu (by omega) g1 hu h5 h7 rfl (aH (by omega)) rfl⟩
   | true =>
    rw [hb] at h2
    have hI:∀ q:Bool,(!q)=(is && !((l.take i).any (rS dl oc dc [x0,x1,x2,x3,x4,x5]) || q)):=fun q=>by
     revert h2;cases is <;> cases (l.take i).any (rS dl oc dc [x0,x1,x2,x3,x4,x5]) <;> cases q <;> simp
    have hIt:∀ q:Bool,q=true→false=(is && !((l.take i).any (rS dl oc dc [x0,x1,x2,x3,x4,x5]) || q)):=fun q hq=>by
     rw [← hI,hq];rfl
    have hIf:∀ q:Bool,q=false→true=(is && !((l.take i).any (rS dl oc dc [x0,x1,x2,x3,x4,x5]) || q)):=fun q hq=>by
     rw [← hI,hq];rfl
    obtain ⟨T2,q1,q2⟩:=hC _ g3 T1 h1
    by_cases h5:k=5
    ·cases hc:dJ dl oc dc [a,k,c,d,e,f] with
     | true =>
      rw [hc] at q2
      exact ⟨(false,T2),⟨q1,hIt _ (by subst h5;simp [rS,vT,hc])⟩,bIl (by omega) g1 hu h5 rfl q2 rfl (aH (by omega)) rfl rfl rfl⟩
     | false =>
      rw [hc] at q2
      exact ⟨(true,T2),⟨q1,hIf _ (by simp [rS,hc])⟩,bIm (by omega) g1 hu h5 rfl q2 rfl (aH (by omega)) rfl rfl rfl⟩
    ·by_cases h7:k=7
     ·cases hr:cR x1 with
      | true=>exact ⟨(true,T1),⟨h1,hIf _ (by simp [rS,vT,hr,h5])⟩,bIr (by omega) g1 hu h5 h7 rfl hr (aH (by omega)) rfl⟩
      | false =>
       cases hc:dJ dl oc dc [a,k,c,d,e,f] with
       | true =>
        rw [hc] at q2
        obtain ⟨T3,q3,q4⟩:=hU _ g3 T2 q1;cases Rc:vE dl oc dc [a,k,c,d,e,f] with
        | true =>
         rw [Rc] at q4
         exact ⟨(false,T3),⟨q3,hIt _ (by subst h7;simp [rS,vT,hc,hr,Rc])⟩,bIo (by omega) g1 hu h5 h7 rfl hr q2 rfl q4 rfl (aH (by omega)) rfl rfl rfl⟩
        | false =>
         rw [Rc] at q4
         exact ⟨(true,T3),⟨q3,hIf _ (by simp [rS,vT,Rc,h5])⟩,bIp (by omega) g1 hu h5 h7 rfl hr q2 rfl q4 rfl (aH (by omega)) rfl rfl rfl⟩
       | false =>
        rw [hc] at q2
        exact ⟨(true,T2),⟨q1,hIf _ (by simp [rS,hc])⟩,bIq (by omega) g1 hu h5 h7 rfl hr q2 rfl (aH (by omega)) rfl rfl rfl⟩
     ·exact ⟨(true,T1),⟨h1,hIf _ (by simp [rS,vT,h5,h7])⟩,bIt (by omega) g1 hu h5 h7 rfl (aH (by omega)) rfl⟩)
  (fun acc hI=>aWb (by omega)) (acc:=(is,T)) ⟨hT,by simp⟩
 obtain ⟨b,T1⟩:=acc;dsimp only at h1 h2 h3
 rw [List.take_length] at h2
 rw [h2] at h3
 exact ⟨T1,h1,h3⟩
theorem cFr(hd:bN dc){x:List Int}(hx:x∈dc)(hC:∀ y∈cB dc (dN x),sE dl sk dc oc ov y)(hU:∀ y∈cB dc (dN x),aZy dl sk dc oc ov y):sE dl sk dc oc ov x:=fun T hT=>by
 have hn:=eQ hd hx;have hk:=aLs hd hn;obtain ⟨x0,x1,x2,x3,x4,x5,rfl⟩:=A6 (hd.ud x hx);obtain ⟨T',h1,hL⟩:=bQl (x0:=x0) (x1:=x1) (x2:=x2) (x3:=x3) (x4:=x4) (x5:=x5) hd (cB dc (dN [x0,x1,x2,x3,x4,x5])) (iZ hd _) (zU hd _) hC hU T hT (!iC dl [x0,x1,x2,x3,x4,x5]);have hc:(!iC dl [x0,x1,x2,x3,x4,x5] && !((cB dc (dN [x0,x1,x2,x3,x4,x5])).any (rS dl oc dc [x0,x1,x2,x3,x4,x5])))=dJ dl oc dc [x0,x1,x2,x3,x4,x5]:=(cEu hd hx).symm;rw [hc] at hL
 cases hh:dS (aR T) (.int .i64 (dN [x0,x1,x2,x3,x4,x5])) with
 | true=>exact ⟨T,hT,cFy (hT.keys hd hn) hh (hT.look hd hx hh)⟩
 | false =>
  cases Pv:dS (aR T') (.int .i64 (dN [x0,x1,x2,x3,x4,x5])) with
  | true =>
   refine ⟨T',h1,?_⟩
   rcases aLt hd (n:=dN [x0,x1,x2,x3,x4,x5]) (by omega) with ⟨a1,a2⟩ | ⟨a1,a2⟩
   ·have:=cFz (x0:=x0) (hT.keys hd hn) hh hk a1 a2 hL (h1.keys hd hn) Pv
    rw [show qZ (aR T') (.int .i64 x0) (blP (dJ dl oc dc [x0,x1,x2,x3,x4,x5]))=aR T' from h1.again hd hx] at this
    exact this
   ·rw [a2] at hL
    have:=cGb (x0:=x0) (hT.keys hd hn) hh hk a1 hL (h1.keys hd hn) Pv;rw [show qZ (aR T') (.int .i64 x0) (blP (dJ dl oc dc [x0,x1,x2,x3,x4,x5]))=aR T' from h1.again hd hx] at this
    exact this
  | false =>
   refine ⟨T'++[(x0,dJ dl oc dc [x0,x1,x2,x3,x4,x5])],h1.put hx Pv,?_⟩;have e1:(T'++[(x0,dJ dl oc dc [x0,x1,x2,x3,x4,x5])]).length=T'.length+1:=by simp
   unfold tU dF;rw [bIv,e1]
   rcases aLt hd (n:=dN [x0,x1,x2,x3,x4,x5]) (by omega) with ⟨a1,a2⟩ | ⟨a1,a2⟩
   ·exact cGa (hT.keys hd hn) hh hk a1 a2 hL (h1.keys hd hn) Pv
   ·rw [a2] at hL
    exact cGc (hT.keys hd hn) hh hk a1 hL (h1.keys hd hn) Pv
theorem tS(hd:bN dc){x y:List Int}(hx:x∈dc)(hy:y∈cB dc (dN x)):y∈dc∧dN x<dN y:=by
 obtain ⟨h1,h2⟩:=eU hy;exact ⟨h1,bPt hd h1 h2 (eQ hd hx).1⟩
theorem aLu(hd:bN dc)(hov:∀ n,vG ov n (oc.contains n)):∀ (n:Nat) (x:List Int),x∈dc→10000-dN x≤(n:Int)→sE dl sk dc oc ov x
 | 0,x,hx,h=>by have:=eQ hd hx;omega
 | n+1,x,hx,h=>cFr hd hx (fun y hy=>by
   obtain ⟨h1,h2⟩:=tS hd hx hy;exact aLu hd hov n y h1 (by omega)) (fun y hy=>by
   obtain ⟨h1,h2⟩:=tS hd hx hy;exact bQk hd hov h1 fun z hz=>by
    obtain ⟨h3,h4⟩:=tS hd h1 hz;exact aLu hd hov n z h3 (by omega))
theorem bQm(hd:bN dc)(hov:∀ n,vG ov n (oc.contains n)){x:List Int}(hx:x∈dc):sE dl sk dc oc ov x:=aLu hd hov 10000 x hx (by have:=eQ hd hx;omega)
theorem cLk(hd:bN dc)(hov:∀ n,vG ov n (oc.contains n)){x:List Int}(hx:x∈dc):cAa dl sk dc oc ov x:=bQj hd hx fun y hy=>bQm hd hov (eU hy).1
theorem cLl(hd:bN dc)(hov:∀ n,vG ov n (oc.contains n)){x:List Int}(hx:x∈dc):cAb dl sk dc oc ov x:=cFq hd hx fun y hy=>bQm hd hov (eU hy).1
theorem cLm(hd:bN dc)(hov:∀ n,vG ov n (oc.contains n)){x:List Int}(hx:x∈dc):aZy dl sk dc oc ov x:=bQk hd hov hx fun y hy=>bQm hd hov (eU hy).1
theorem aZz(hd:bN dc)(hov:∀ n,vG ov n (oc.contains n)):∀ (n:Nat) (x:List Int),x∈dc→10000-dN x≤(n:Int)→cAc dl sk dc oc ov x
 | 0,x,hx,h=>by have:=eQ hd hx;omega
 | n+1,x,hx,h=>fun T hT=>by
  obtain ⟨T',h1,h2⟩:=cLl (dl:=dl) (sk:=sk) hd hov hx T hT;rw [aZu hd hx];cases hr:aLp dl oc dc x with
  | none =>
   rw [hr] at h2
   obtain ⟨x0,x1,x2,x3,x4,x5,rfl⟩:=A6 (hd.ud x hx);exact ⟨T',h1,cGg (z0:=0) (z1:=0) (z2:=0) (z3:=0) (z4:=0) (z5:=0) h2 rfl⟩
  | some z =>
   have hz:z∈cB dc (dN x):=by
    rw [aFf hd hx] at hr
    exact sH hr
   obtain ⟨a1,a2⟩:=tS hd hx hz;obtain ⟨T2,h3,h4⟩:=aZz hd hov n z a1 (by omega) T' h1
   rw [hr] at h2
   obtain ⟨x0,x1,x2,x3,x4,x5,rfl⟩:=A6 (hd.ud x hx);obtain ⟨a,b,c,d,e,f,rfl⟩:=A6 (hd.ud z a1);exact ⟨T2,h3,cGf h2 rfl h4⟩
theorem cLn(hd:bN dc)(hov:∀ n,vG ov n (oc.contains n)){x:List Int}(hx:x∈dc):cAc dl sk dc oc ov x:=aZz hd hov 10000 x hx (by have:=eQ hd hx;omega)
theorem aLv(n:Int):vG bX n (([]:List Int).contains n):=fun base=>FV.argwk (pD [] n (by simp)) (by kernel_rfl)
theorem aFj{l:List Int}(hl:l.length≤1000)(n:Int):vG (aG l) n (l.contains n):=fun base=>pD l n hl
end
end
section
variable {P:Program} {T:TT} {E:Env} {C C0:Cx} {M M0 M1:Mem} {w w0:World}

def bkN(all:List Nat)(j:Nat):Option Nat:=all[j]?
def vJ(Hr:List Nat):List Nat→Mem→Option Upd
 | i::r,some o::m=>match mpO (bkN Hr) o with
  | some o'=>(vJ Hr r m).map ((i,o') :: ·)
  | none=>none
 | [],[]=>some []
 | _,_=>none

theorem aJh{Hr:List Nat}:∀ {ids:List Nat} {m:Mem} {L:Upd},vJ Hr ids m=some L→ids.Nodup →
  m.length=ids.length ∧
  ∀ (N:Mem),(∀ (p i:Nat) (o':AO),ids[p]? = some i→(bY (upds N L) i=some o'↔∃ o,m[p]? = some (some o)∧mpO (bkN Hr) o=some o')) ∧
   ∀ j,j∉ids→bY (upds N L) j=bY N j
 | [],[],L,h,_=>by
  unfold vJ at h;cases h
  refine ⟨rfl,fun N=>⟨fun p i o' hp=>by simp at hp,fun _ _=>rfl⟩⟩
 | i::r,some o::m,L,h,hd=>by
  unfold vJ at h
  split at h
  ·rename_i o' ho
   simp only [lD] at h
   obtain ⟨L',Km,rfl⟩:=h;obtain ⟨Ly,Lx⟩:=List.nodup_cons.1 hd;obtain ⟨q1,q2⟩:=aJh (ids:=r) Km Lx;refine ⟨by simpa using q1,fun N => ?_⟩
   obtain ⟨r1,r4⟩:=q2 (bA N i (some o'));refine ⟨fun p j o2 hp => ?_,fun j hj => ?_⟩
   ·cases p with
    | zero =>
     simp at hp;subst hp
     simp only [upds];rw [r4 i Ly,cY,if_pos rfl];constructor
     ·intro h;cases h;exact ⟨o,rfl,ho⟩
     ·rintro ⟨o3,h3,h4⟩
      simp at h3;subst h3
      rw [ho] at h4;exact h4
    | succ p =>
     simp only [upds];rw [List.getElem?_cons_succ] at hp
     rw [r1 p j o2 hp];rfl
   ·simp only [upds]
    rw [r4 j (fun e=>hj (Cj _ e)),cY,if_neg (fun e=>hj (by simp [e]))]
  ·cases h
 | [],_::_,L,h,_=>by unfold vJ at h;cases h
 | _::_,[],L,h,_=>by unfold vJ at h;cases h
 | _::_,none::_,L,h,_=>by unfold vJ at h;cases h

theorem aFq{Hr:List Nat}:∀ {ids:List Nat} {m:Mem} {L:Upd},vJ Hr ids m=some L→∀ (p:Nat) (o1:AO),m[p]? = some (some o1)→∃ o',mpO (bkN Hr) o1=some o'
 | [],[],L,h,p,o1,hp=>by simp at hp
 | i::r,some o::m,L,h,p,o1,hp=>by
  unfold vJ at h
  split at h
  ·rename_i hx
   simp only [lD] at h
   obtain ⟨L',Km,_⟩:=h;cases p with
   | zero=>simp at hp;subst hp;exact ⟨_,hx⟩
   | succ p=>exact aFq Km p o1 (by simpa using hp)
  ·cases h
 | [],_::_,L,h,_,_,_=>by unfold vJ at h;cases h
 | _::_,[],L,h,_,_,_=>by unfold vJ at h;cases h
 | _::_,none::_,L,h,_,_,_=>by unfold vJ at h;cases h

def Cx.backN(C C1:Cx)(all:List Nat):Cx :=
 {ι:=fun j=>match idx all j 0 with | some p=>C1.ι p | none=>C.ι j
  κ:=fun j=>match idx all j 0 with | some p=>C1.κ p | none=>C.κ j
  F:=C1.F }

theorem bRd{ids news:List Nat}{r y:AV}{L:Upd}{C1:Cx}{w':World}{u:Value}(hd:distinct 0 ids=true)(hda:distinct 0 (ids++news)=true)(hb:∀ i∈news,fP M i=true)
  (hs:rnM 0 ids (ids.map (at? M))=some M0) (hlv:∀ i∈ids,eL M i=true) (hU:vJ (ids++news) (ids++news) M1=some L) (hy:mpA (bkN (ids++news)) r=some y)
  (hM:aT P C M w) (hF:Fr (C.rn 0 ids) M0 w C1 M1 w') (Ch:aT P C1 M1 w') (hr:Rep C1 M1 w' r u):Fr C M w (C.backN C1 (ids++news)) (upds M L) w'∧aT P (C.backN C1 (ids++news)) (upds M L) w'∧Rep (C.backN C1 (ids++news)) (upds M L) w' y u:=by
 obtain ⟨_,hnd⟩:=jM hd;obtain ⟨_,hna⟩:=jM hda;obtain ⟨Db,hmp,hsrc⟩:=sK (k:=0) hM hd hs;have hlen:M0.length=ids.length:=by have:=(aDb hs).1;simpa using this
 generalize hall:ids++news=all at *
 obtain ⟨A2,hup⟩:=aJh hU hna;obtain ⟨u1,u4⟩:=hup M;have hL:=Db.le hF;have inA:∀ (p i:Nat),ids[p]? = some i→all[p]? = some i:=fun p i h=>by
  rw [← hall,zL (B3.1 h).1];exact h
 have memA:∀ i,i∈all↔i∈ids∨i∈news:=fun i=>by rw [← hall];simp
 have newF:∀ (p i:Nat),all[p]? = some i→i∉ids→fP M i=true:=fun p i h hn=>by
  rcases (memA i).1 (Bi h) with h | h
  ·exact absurd h hn
  ·exact hb i h
 have oldP:∀ (p i:Nat),all[p]? = some i→i∈ids→ids[p]? = some i:=fun p i h hn=>by
  obtain ⟨q,hq,he⟩:=List.mem_iff_getElem.1 hn;have h2:ids[q]? = some i:=by rw [Av hq,he]
  have e1:=rM hna 0 h;have e2:=rM hna 0 (inA q i h2);rw [e1] at e2
  have:p=q:=by simpa using e2
  rw [this];exact h2
 have rnp:∀ p i,ids[p]? = some i→rnI 0 ids i=some p:=fun p i h=>by
  have:=rM hnd 0 h;unfold rnI;rw [show Nat.blt i 0=false from rfl,this,gU]
 have Df:∀ p i,ids[p]? = some i→∃ o o0,M[i]? = some (some o)∧o.live=true∧M0[p]? = some (some o0)∧o0.live=true∧(C.rn 0 ids).ι p=C.ι i∧(C.rn 0 ids).κ p=C.κ i:=fun p i hp=>by
  obtain ⟨o,h1,h2⟩:=dP (hlv i (Bi hp));obtain ⟨o0,h3,h4⟩:=hmp.fw _ _ _ (rnp p i hp) h1;exact ⟨o,o0,h1,h2,h3,by rw [bQ h4];exact h2,hmp.at_ _ _ (rnp p i hp)⟩
 have sh_of:∀ (p:Nat) (o0:AO),M0[p]? = some (some o0)→∃ i o,ids[p]? = some i∧M[i]? = some (some o)∧o.live=true∧o0.live=true∧(C.rn 0 ids).ι p=C.ι i:=fun p o0 hp=>by
  obtain ⟨hl,_⟩:=B3.1 hp;have Ja:ids[p]? = some ids[p]:=Av (by omega)
  obtain ⟨o,o1,h1,h2,h3,h4,h5,_⟩:=Df p _ Ja;rw [hp] at h3;cases h3
  exact ⟨_,o,Ja,h1,h2,h4,h5⟩
 have apart:∀ (j:Nat) (o:AO) (b:Nat),j∉ids→M[j]? = some (some o)→o.live=true→C.ι j=some b→w'.heap[b]? = w.heap[b]? ∧ ¬ C1.F b∧∀ (p:Nat) (o1:AO),M1[p]? = some (some o1)→o1.live=true→C1.ι p≠some b:=fun j o b hj h1 h2 h3=>by
  have Dd:=hM.lt j o b h1 h2 h3;have Mw:∀ (p:Nat) (o0:AO),M0[p]? = some (some o0)→o0.live=true→(C.rn 0 ids).ι p≠some b:=fun p o0 hp _ he=>by
   obtain ⟨i,o2,q1,q2,q3,_,q4⟩:=sh_of p o0 hp;rw [q4] at he
   have:=hM.inj j i o o2 b h1 h2 q2 q3 h3 he;subst this;exact hj (Bi q1)
  refine ⟨hF.keep b Dd Mw,fun hf => ?_,fun p o1 hp hl he => ?_⟩
  ·rcases hF.F2 b hf with q | q | ⟨p,o0,q1,q2,q3⟩
   ·exact hM.nF j o b h1 h2 h3 q
   ·omega
   ·exact Mw p o0 q1 q2 q3
  ·rcases hF.new p o1 b hp hl he with q | ⟨p0,o0,q1,q2,q3⟩
   ·omega
   ·exact Mw p0 o0 q1 q2 q3
 have ix:∀ j,(j∈all→∃ p,idx all j 0=some p∧all[p]? = some j)∧(j∉all→idx all j 0=none):=fun j=>by
  refine ⟨fun hj => ?_,fun hj => ?_⟩
  ·obtain ⟨p,hp,he⟩:=List.mem_iff_getElem.1 hj
   have:all[p]? = some j:=by rw [Av hp,he]
   exact ⟨p,by simpa using rM hna 0 this,this⟩
  ·cases h1:idx all j 0 with
   | none=>rfl
   | some p =>
    obtain ⟨_,h2⟩:=xG _ _ _ _ h1;exact absurd (Bi h2) hj
 have cls:∀ (j:Nat) (o':AO),(upds M L)[j]? = some (some o')→(∃ p o1,all[p]? = some j∧M1[p]? = some (some o1)∧mpO (bkN all) o1=some o'∧(C.backN C1 all).ι j=C1.ι p∧(C.backN C1 all).κ j=C1.κ p) ∨
   (j∉ids∧j∉all∧M[j]? = some (some o')∧(C.backN C1 all).ι j=C.ι j∧(C.backN C1 all).κ j=C.κ j):=fun j o' hj=>by
  rw [← bH] at hj
  by_cases hm:j∈all
  ·obtain ⟨p,Jk,Jb⟩:=(ix j).1 hm
   obtain ⟨o1,h1,h2⟩:=(u1 p j o' Jb).1 hj;exact .inl ⟨p,o1,Jb,h1,h2,by simp [Cx.backN,Jk],by simp [Cx.backN,Jk]⟩
  ·have hn:=(ix j).2 hm
   rw [u4 j hm] at hj
   exact .inr ⟨fun h=>hm ((memA j).2 (.inl h)),hm,bH.1 hj,by simp [Cx.backN,hn],by simp [Cx.backN,hn]⟩
 have G1:Fr C M w (C.backN C1 all) (upds M L) w':=by
  refine ⟨hF.os,hF.tape,hF.out,hF.size,fun b Dd hn => ?_,fun i o ho => ?_,fun i o ho ty n cs hx => ?_,fun i o ho o' hx hl => ?_,fun j o b hj hl hjb => ?_,fun b hb=>hF.F1 b hb,fun b hb => ?_⟩
  ·exact hF.keep b Dd fun p o0 hp hl he=>by
    obtain ⟨i,o2,q1,q2,q3,_,q4⟩:=sh_of p o0 hp;rw [q4] at he
    exact hn i o2 q2 q3 he
  ·by_cases hm:i∈all
   ·obtain ⟨p,Jk,Jb⟩:=(ix i).1 hm
    have hmi:i∈ids:=Classical.byContradiction fun hni=>cU (newF p i Jb hni) o ho
    obtain ⟨_,o0,_,_,h3,h4,h5,h6⟩:=Df p i (oldP p i Jb hmi);obtain ⟨⟨o1,q1⟩,q2,q3⟩:=hF.ids p o0 h3;refine ⟨?_,by simp only [Cx.backN,Jk];rw [q2,h5],by simp only [Cx.backN,Jk];rw [q3,h6]⟩
    obtain ⟨o',hq⟩:=aFq hU p o1 q1;exact ⟨o',bH.1 ((u1 p i o' Jb).2 ⟨o1,q1,hq⟩)⟩
   ·refine ⟨⟨o,bH.1 (by rw [u4 i hm];exact bH.2 ho)⟩,by simp [Cx.backN,(ix i).2 hm],by simp [Cx.backN,(ix i).2 hm]⟩
  ·rcases cls i _ hx with ⟨p,o1,q1,q2,q3,_⟩ | ⟨_,_,q3,_⟩
   ·have hmi:i∈ids:=Classical.byContradiction fun hni=>cU (newF p i q1 hni) o ho
    have q1:=oldP p i q1 hmi;rw [lU q3] at q2
    obtain ⟨o2,o0,h1,_,h3,_⟩:=Df p i q1;obtain ⟨Bp,h5⟩:=hF.row p o0 h3 _ _ _ q2;obtain ⟨o4,h6,h7⟩:=hmp.bk _ _ _ (rnp p i q1) h5;rw [lU h7] at h6
    exact ⟨Bp,h6⟩
   ·exact ⟨cs,q3⟩
  ·rcases cls i _ hx with ⟨p,o1,q1,q2,q3,_⟩ | ⟨_,_,q3,_⟩
   ·have hmi:i∈ids:=Classical.byContradiction fun hni=>cU (newF p i q1 hni) o ho
    obtain ⟨o2,o0,h1,h2,h3,_⟩:=Df p i (oldP p i q1 hmi);rw [ho] at h1;cases h1
    exact h2
   ·rw [ho] at q3;cases q3;exact hl
  ·have fin:∀ (p:Nat) (o1:AO),M1[p]? = some (some o1)→o1.live=true→C1.ι p=some b→w.heap.size≤b∨∃ (H6:Nat) (o0:AO),M[H6]? = some (some o0)∧o0.live=true∧C.ι H6=some b:=fun p o1 h1 h2 h3=>by
    rcases hF.new p o1 b h1 h2 h3 with q | ⟨p0,o0,q1,q2,q3⟩
    ·exact .inl q
    ·obtain ⟨i,o2,r1,r2,r3,_,r4⟩:=sh_of p0 o0 q1
     rw [r4] at q3
     exact .inr ⟨i,o2,r2,r3,q3⟩
   rcases cls j _ hj with ⟨p,o1,q1,q2,q3,q4,_⟩ | ⟨_,_,q3,q4,_⟩
   ·rw [q4] at hjb
    exact fin p o1 q2 (by rw [← bQ q3];exact hl) hjb
   ·rw [q4] at hjb
    exact .inr ⟨j,o,q3,hl,hjb⟩
  ·rcases hF.F2 b hb with q | q | ⟨p,o0,q1,q2,q3⟩
   ·exact .inl q
   ·exact .inr (.inl q)
   ·obtain ⟨i,o2,r1,r2,r3,_,r4⟩:=sh_of p o0 q1
    rw [r4] at q3
    exact .inr (.inr ⟨i,o2,r2,r3,q3⟩)
 have Gl:=hM.le G1;have hbk:bBm (bkN all) C1 (C.backN C1 all) M1 (upds M L):=by
  refine ⟨fun i j o' hij hj=>(u1 i j o' hij).1 (bH.2 hj),fun i j o hij hi => ?_,fun i j hij => ?_,fun _ h=>h⟩
  ·obtain ⟨o',hq⟩:=aFq hU i o hi
   exact ⟨o',bH.1 ((u1 i j o' hij).2 ⟨o,hi,hq⟩),hq⟩
  ·have:=rM hna 0 hij
   rw [gU] at this
   simp [Cx.backN,this]
 refine ⟨G1,⟨fun j ty n cs h => ?_,fun j ty cs h => ?_,fun j es cl h => ?_,fun j j' o1 o2 b q1 l1 q2 l2 e1 e2 => ?_,fun j o b h hl hb => ?_,Ch.Fs,fun j o b h hl hb => ?_⟩,uJ hbk hr hy⟩
 ·rcases cls j _ h with ⟨p,o1,q1,q2,q3,q4,q5⟩ | ⟨q1,_,q3,q4,q5⟩
  ·rw [lU q3] at q2
   rw [q4,q5];exact Ch.row _ _ _ _ q2
  ·rw [q4,q5]
   rcases hM.row _ _ _ _ q3 with q | ⟨b,arr,inf,p0,p1,p2,p3,p4,p5,p6,p7,p8⟩
   ·exact .inl q
   ·exact .inr ⟨b,arr,inf,p0,by rw [(apart j _ b q1 q3 rfl p0).1];exact p1,p2,p3,p4,p5,p6,fun i hi=>(p7 i hi).mono Gl.F Gl.fz,p8⟩
 ·rcases cls j _ h with ⟨p,o1,q1,q2,q3,q4,q5⟩ | ⟨q1,_,q3,q4,q5⟩
  ·cases o1 with
   | box Dh l =>
    simp only [mpO,lD] at q3
    obtain ⟨l',D3,e⟩:=q3;cases e;obtain ⟨b,arr,p0,p1,p2,p3,p4⟩:=Ch.box _ _ _ q2;obtain ⟨n1,n2⟩:=gO hbk (w:=w') (us:=fun j=>arr.getD j undef) p3 D3
    exact ⟨b,arr,by rw [q4];exact p0,p1,by omega,n2,fun j hj=>p4 j (by omega)⟩
   | row=>simp [mpO] at q3
   | mp=>simp [mpO] at q3
   | pk=>simp [mpO] at q3
   | dead=>simp [mpO] at q3
  ·obtain ⟨b,arr,p0,p1,p2,p3,p4⟩:=hM.box _ _ _ q3
   exact ⟨b,arr,by rw [q4];exact p0,by rw [(apart j _ b q1 q3 rfl p0).1];exact p1,p2,fun i hi=>(p3 i hi).mono Gl,p4⟩
 ·rcases cls j _ h with ⟨p,o1,q1,q2,q3,q4,q5⟩ | ⟨q1,_,q3,q4,q5⟩
  ·cases o1 with
   | mp Cp D4 =>
    simp only [mpO,Option.some.injEq] at q3
    cases q3;obtain ⟨b,arr,p0,p1,p2,p3⟩:=Ch.mp _ _ _ q2;refine ⟨b,arr,by rw [q4];exact p0,p1,p2,fun j hj => ?_⟩
    obtain ⟨en,s1,s2,s3,s4⟩:=p3 j hj;exact ⟨en,s1,s2,s3,s4.mono hbk.F (fun _ _=>rfl)⟩
   | row=>simp [mpO] at q3
   | box=>simp [mpO] at q3
   | pk=>simp [mpO] at q3
   | dead=>simp [mpO] at q3
  ·obtain ⟨b,arr,p0,p1,p2,p3⟩:=hM.mp _ _ _ q3
   refine ⟨b,arr,by rw [q4];exact p0,by rw [(apart j _ b q1 q3 rfl p0).1];exact p1,p2,fun i hi => ?_⟩
   obtain ⟨en,s1,s2,s3,s4⟩:=p3 i hi;exact ⟨en,s1,s2,s3,s4.mono Gl.F Gl.fz⟩
 ·rcases cls j _ q1 with ⟨p,a1,r1,r2,r3,r4,_⟩ | ⟨r1,rb,r3,r4,_⟩ <;> rcases cls j' _ q2 with ⟨p',a2,t1,t2,t3,t4,_⟩ | ⟨t1,tb,t3,t4,_⟩
  all_goals (rw [r4] at e1;rw [t4] at e2)
  ·have:=Ch.inj p p' a1 a2 b r2 (by rw [← bQ r3];exact l1) t2 (by rw [← bQ t3];exact l2) e1 e2
   subst this;rw [r1] at t1;cases t1;rfl
  ·exact absurd e1 ((apart j' o2 b t1 t3 l2 e2).2.2 p a1 r2 (by rw [← bQ r3];exact l1))
  ·exact absurd e2 ((apart j o1 b r1 r3 l1 e1).2.2 p' a2 t2 (by rw [← bQ t3];exact l2))
  ·exact hM.inj j j' o1 o2 b r3 l1 t3 l2 e1 e2
 ·rcases cls j _ h with ⟨p,o1,q1,q2,q3,q4,q5⟩ | ⟨q1,_,q3,q4,q5⟩
  ·rw [q4] at hb
   exact Ch.nF _ _ b q2 (by rw [← bQ q3];exact hl) hb
  ·rw [q4] at hb
   exact (apart j o b q1 q3 hl hb).2.1
 ·rcases cls j _ h with ⟨p,o1,q1,q2,q3,q4,q5⟩ | ⟨q1,_,q3,q4,q5⟩
  ·rw [q4] at hb
   exact Ch.lt _ _ b q2 (by rw [← bQ q3];exact hl) hb
  ·rw [q4] at hb
   exact fY (hM.lt j o b q3 hl hb) hF.size

def aWk(ids news:List Nat)(args:List AV)(bs:Upd)(M1:Mem)(r:AV):Option (List AV × Mem × AV × Upd):=match distinct 0 ids && distinct 0 (ids++news) && ids.all (eL (upds [] bs)) with
 | true=>match rnM 0 ids (ids.map (at? (upds [] bs))) with
  | some M0=>match rnL 0 ids args with
   | some Bq=>match vJ (ids++news) (ids++news) M1 with
    | some L=>match mpA (bkN (ids++news)) r with
     | some y=>some (Bq,M0,y,L)
     | none=>none
    | none=>none
   | none=>none
  | none=>none
 | false=>none
theorem FMM.fcN{f base k:Nat}(hk:Nat.ble k 8=true){ids:List Nat}{args Bq:List AV}{bs:Upd}{r y:AV}{L:Upd}(h:FMM P f Bq M0 r M1)(hs:aWk ids ((List.range k).map (base + ·)) args bs M1 r=some (Bq,M0,y,L)):FC P f args bs base y L:=fun M hb hf Ms=>by
 unfold aWk at hs
 have hsub:aRy (upds [] bs) M:=fun id o ho=>by
  rcases sI bs [] id o ho with h5 | h5
  ·exact hb _ h5
  ·simp [bY] at h5
 split at hs
 ·rename_i hd
  rw [B7,B7,gJ] at hd
  obtain ⟨⟨Ly,Lx⟩,Xl⟩:=hd;have hlv:∀ i∈ids,∃ o,bY (upds [] bs) i=some o∧bY M i=some o∧o.live=true:=fun i hi=>by
   obtain ⟨o,h1,h2⟩:=dP (Xl i hi);exact ⟨o,bH.2 h1,hsub _ _ (bH.2 h1),h2⟩
  split at hs
  ·rename_i h1
   split at hs
   ·rename_i h2
    split at hs
    ·rename_i h3
     split at hs
     ·rename_i h4
      cases hs;have he:ids.map (at? M)=ids.map (at? (upds [] bs)):=aBx fun i hi=>by
       obtain ⟨o,q1,q2,_⟩:=hlv i hi;unfold at?
       rw [q1,q2]
      intro C w us hus hM n;have Je:rnM 0 ids (ids.map (at? M))=some M0:=by rw [he];exact h1
      obtain ⟨Db,hmp,_⟩:=sK (k:=0) hM Ly Je;refine (h (C.rn 0 ids) w us (aLb hmp hus h2) Db n).mono ?_;rintro e w' ⟨u,rfl,C1,hF,Ch,hr⟩;exact ⟨u,rfl,C.backN C1 (ids++(List.range k).map (base + ·)),bRd Ly Lx (fun i hi=>by
       obtain ⟨j,hj,rfl⟩:=Bs.1 hi;have hj:=iJ.1 hj;have hk:=Nat.le_of_ble_eq_true hk;exact Ms j (by omega)) Je (fun i hi=>by
       obtain ⟨o,_,q2,q3⟩:=hlv i hi;exact jV (bH.1 q2) q3) h3 h4 hM hF Ch hr⟩
     ·cases hs
    ·cases hs
   ·cases hs
  ·cases hs
 ·cases hs
def qF(ids:List Nat)(base:Nat):=bkN (ids++(List.range 7).map (base+·))
def qN(ids:List Nat)(base:Nat)(x:AV):AV:=(mpA (qF ids base) x).getD .any
theorem mN(ids:List Nat)(base:Nat){P:Program}{f:Nat}{Bq:List AV}{M0 M1:Mem}{r:AV}(h:FMM P f Bq M0 r M1)(hs:aWk ids ((List.range 7).map (base+·)) (Bq.map (qN ids base)) (qS ids (qF ids base) (Bq.map (qN ids base)) M0) M1 r=some (Bq,M0,qN ids base r,(vJ (ids++(List.range 7).map (base+·)) (ids++(List.range 7).map (base+·)) M1).getD []):=by kernel_rfl):FC P f (Bq.map (qN ids base)) (qS ids (qF ids base) (Bq.map (qN ids base)) M0) base (qN ids base r) ((vJ (ids++(List.range 7).map (base+·)) (ids++(List.range 7).map (base+·)) M1).getD []):=FMM.fcN (k:=7) rfl h hs
end
section
variable {b0 out Bj Iz I0 F9 Im:Bool}{a b m r0 s0 s1 x0 x1 x2 x3 x4 x5 bib tot Bn D7 Aa Ab Ac Ad Ae Af K6 K7 K8 K9 La Lb E3:Int}{T t T1 t' Eh T107 T109 T113 T115:Lqb}{l o:List Int}{i i' Ev B5 base:Nat}{ov:PV}
variable {dl:Int}{sk dc:Lqq}

noncomputable abbrev kY:Code:=sub (cd Tryz.f134) [1,1,0,1,0,0]
noncomputable abbrev zT:Code:=sub (cd Tryz.f83) [1,1,1,0,1,0,0]
theorem bQb:0≤(0:Int)∧(0:Int)<5:=by first | decide | simp
theorem bQc:0≤(1:Int)∧(1:Int)<5:=by first | decide | simp
theorem bQd:0≤(2:Int)∧(2:Int)<5:=by first | decide | simp
theorem bQe:0≤(3:Int)∧(3:Int)<5:=by first | decide | simp
theorem bQf:0≤(4:Int)∧(4:Int)<5:=by first | decide | simp
abbrev aCa(dl:Int)(sk dc:Lqq)(ov:PV)(x:List Int)(bib:Int)(b:Bool)(T T2:Lqb):Prop:=FMM Tp 136 [zV,.p (.agg (x.map aA)),.p (aA bib)] (dF dl sk dc ov T) (pB b) (dF dl sk dc ov T2)
abbrev aGz(dl:Int)(sk dc:Lqq)(ov:PV)(s:List Int)(n:Int)(b:Bool)(T T2:Lqb):Prop:=FMM Tp 134 [qL dl sk dc,.p (.agg (s.map aA)),zV] (dF dl sk dc ov T) (.tup [.p (aA n),.p (blP b)]) (dF dl sk dc ov T2)
theorem cFd(h0:(decide (x1≤4))=true)(h1:x3=bib)(h2:tU dl sk dc ov [x0,x1,x2,x3,x4,x5] b0 T T1)(h3:b0=true)(h4:x1≠4):FMM Tp 136 [zV,(.p (dcE x0 x1 x2 x3 x4 x5)),(pI bib)] (dF dl sk dc ov T) (pB true) (dF dl sk dc ov T1):=have k1:=fk 9 (eP x1) rfl;have k2:=mq [0,1,2,3,4,5,6] 9 h2;FMM.fi 7 gE func136 ([k1.o]++rT 9++[k2.o]++rT 12) (gc h3 (gc (jF h4) (gc h3 (Aw (jF h4) (Aw h3 (gc (cH h1) (gc k2 (Aw (cH h1) (Bo h0 (gc k1 gn))))))))))
theorem cFe{b2:Bool}{T3:Lqb}(h0:(decide (x1≤4))=true)(h1:x3=bib)(h2:tU dl sk dc ov [x0,x1,x2,x3,x4,x5] b0 T T1)(h3:b0=true)(h4:x1=4)(h5:bWj dl sk dc ov [x0,x1,x2,x3,x4,x5] b2 T1 T3):FMM Tp 136 [zV,(.p (dcE x0 x1 x2 x3 x4 x5)),(pI bib)] (dF dl sk dc ov T) (pB b2) (dF dl sk dc ov T3):=have k1:=fk 9 (eP x1) rfl;have k2:=mq [0,1,2,3,4,5,6] 9 h2;have k3:=mq [0,1,2,3,4,5,6] 9 h5;FMM.fi 7 gE func136 ([k1.o]++rT 9++[k2.o]++rT 5++[bF,bF,bF,bF,k3.o,bT,bF,bT]) (gc h3 (gc (bL h4) (gc h3 (gc k3 (Aw (bL h4) (Aw h3 (gc (cH h1) (gc k2 (Aw (cH h1) (Bo h0 (gc k1 gn)))))))))))
theorem cFf(h0:(decide (x1≤4))=true)(h1:x3=bib)(h2:tU dl sk dc ov [x0,x1,x2,x3,x4,x5] b0 T T1)(h3:b0=false):FMM Tp 136 [zV,(.p (dcE x0 x1 x2 x3 x4 x5)),(pI bib)] (dF dl sk dc ov T) (pB false) (dF dl sk dc ov T1):=have k1:=fk 9 (eP x1) rfl;have k2:=mq [0,1,2,3,4,5,6] 9 h2;FMM.fi 7 gE func136 ([k1.o]++rT 9++[k2.o,bT]++rF 6) (Fx h3 (gc (cH h1) (gc k2 (Aw (cH h1) (Bo h0 (gc k1 gn))))))
theorem cFg(h0:(decide (x1≤4))=true)(h1:x3≠bib):FMM Tp 136 [zV,(.p (dcE x0 x1 x2 x3 x4 x5)),(pI bib)] (dF dl sk dc ov T) (pB false) (dF dl sk dc ov T):=have k1:=fk 9 (eP x1) rfl;FMM.fi 7 gE func136 ([k1.o]++rT 5++rF 5) (Bo (aU h1) (Bo h0 (gc k1 gn)))
theorem cFh(h0:(decide (x1≤4))=false):FMM Tp 136 [zV,(.p (dcE x0 x1 x2 x3 x4 x5)),(pI bib)] (dF dl sk dc ov T) (pB false) (dF dl sk dc ov T):=have k1:=fk 9 (eP x1) rfl;FMM.fi 7 gE func136 ([k1.o]++rF 5) (Bo h0 (gc k1 gn))
theorem cFi(h0:inR (a+b))(A4:r0=(a+b)):FV Tp 212 [(pI a),(pI b)] base (pI r0) []:=by
 subst A4;exact FV.fi func212 [] (gc h0 gn)
theorem cFj(h0:inR (a-b))(A4:r0=(a-b)):FV Tp 213 [(pI a),(pI b)] base (pI r0) []:=by
 subst A4;exact FV.fi func213 [] (gc h0 gn)
theorem cFk(h0:inR ((1200:Int)*b))(h1:inR (a+((1200:Int)*b)))(A4:r0=(a+((1200:Int)*b))):FV Tp 214 [(pI a),(pI b)] base (pI r0) []:=by
 subst A4;exact FV.fi func214 [] (gc h1 (gc h0 gn))
theorem cFl:FV Tp 215 [(pI a),(pI b)] base (pI a) []:=FV.fi func215 [] gn
theorem aLr(a b:Int)(h:inR (a+b)){base:Nat}:FV Tp 212 [.p (aA a),.p (aA b)] base (pI (a+b)) []:=cFi h rfl
theorem bQg(a b:Int)(h:inR (a-b)){base:Nat}:FV Tp 213 [.p (aA a),.p (aA b)] base (pI (a-b)) []:=cFj h rfl
theorem bQh(a b:Int)(h:inR (1200*b)∧inR (a+1200*b)){base:Nat}:FV Tp 214 [.p (aA a),.p (aA b)] base (pI (a+1200*b)) []:=cFk h.1 h.2 rfl
theorem bQi(a b:Int){base:Nat}:FV Tp 215 [.p (aA a),.p (aA b)] base (pI a) []:=cFl
theorem pH:FV Tp 183 [] base (.agg [(.fn 212 [] []),(.fn 213 [] []),(.fn 214 [] []),(.fn 215 [] []),(.fn 212 [] [])]) []:=FV.fi func183 [] gn
def tR(l:List Int)(m:Int)(i:Nat):St:=⟨fr 18 [(0,(pI m)),(4,(pI 0)),(7,(.p (aG l))),(8,(pI (l.length:Int))),(9,(pI (i:Int)))],[]⟩
theorem cFm{U4:Int}(hl0:aE Tp 0 (sub (cd Tryz.f184) [1,0,1,0,0]) (tR l a 0) (.exit 0) (tR l U4 Ev)):FV Tp 184 [(pI a),(.p (aG l))] base (pI U4) []:=FV.fi func184 [hl0.k 6 (gZ [1,3,5,2,10,7])] (gc hl0.code gn)
theorem bHs{Aq m':Int}(h0:(i:Int)<(l.length:Int))(h1:l[i]? = some Aq)(h2:inR (((i+1):Nat):Int))(Wk:m'=(if Aq > m then Aq else m))(Ai:i'=(i+1)):aC Tp 0 (sub (cd Tryz.f184) [1,0,1,0,0]) (tR l m i) .normal (tR l m' i'):=by
 subst Wk Ai;exact aC.fi (gZ [1,3,5,2,10,7]) [bT,.x (aA Aq)] (gc h2 (gc (atm aA h1) (gc (ixn aA h1) (gc (aI h0) gn))))
theorem bHt(h0:(l.length:Int)≤(i:Int)):aC Tp 0 (sub (cd Tryz.f184) [1,0,1,0,0]) (tR l m i) (.exit 0) (tR l m i):=aC.fi (gZ [1,3,5,2,10,7]) [bF] (gc (aN h0) gn)
def aCb(a:Int)(l:List Int):Int:=l.foldl (fun m x=>if x > m then x else m) a
theorem aVq(a:Int)(l:List Int)(hl:l.length≤1000){base:Nat}:FV Tp 184 [.p (aA a),.p (aG l)] base (pI (aCb a l)) [] :=
 cFm (aE.range (P:=Tp) (k:=0) (e := .exit 0) (fun i m=>tR l m i) (fun m=>tR l m l.length) (fun m x=>if x > m then x else m) (fun _ _=>True) (by simp) l trivial
  (fun i x acc hx _=>⟨trivial,bHs (by have:=aO hx;omega) hx (aH (by have:=aO hx;omega)) rfl rfl⟩) (fun acc _=>bHt (by omega)))
def dM(dl:Int)(sk:Lqq)(dc:Lqq)(ov:PV)(s0:Int)(s1:Int)(out:Bool)(tot:Int)(i:Nat)(te:List (Value × PV))(tk:Nat):St:=⟨fr 54 [(4,(.ptr 7 0)),(5,(.ptr 8 0)),(6,(pI 0)),(7,(.kb false)),(8,(pB out)),(9,(pI tot)),(21,(.p (fS dc))),(22,(pI (dc.length:Int))),(23,(pI (i:Int)))],[some (Ga dl sk dc),some (.box 33 [(.p ov)]),some G5,some (.mp te tk),some (.box 207 [(.mp 3)]),some (Gb dl sk dc),some H9,some (.box 31 [(pI s0),(pI s1)]),some G5]⟩
theorem cFn(hl0:aE Tp 7 kY (dM dl sk dc ov s0 s1 (s1 == (-1)) s1 0 (aR T) T.length) (.exit 0) (dM dl sk dc ov s0 s1 Im E3 B5 (aR Eh) Eh.length))(h1:Im=true):FMM Tp 134 [(.rp (aY dl sk dc) 0),(.p (.agg [(aA s0),(aA s1)])),zV] (dF dl sk dc ov T) (.tup [(pI 0),(pB true)]) (dF dl sk dc ov Eh):=FMM.fi 7 gE func134 [.x (fS dc),hl0.k 1 (gI [0,4,10,11,24,26] [7,8]),bT] (gc h1 (gc hl0.code (gr (fS dc) gn)))
theorem cFo(hl0:aE Tp 7 kY (dM dl sk dc ov s0 s1 (s1 == (-1)) s1 0 (aR T) T.length) (.exit 0) (dM dl sk dc ov s0 s1 Im E3 B5 (aR Eh) Eh.length))(h1:Im=false)(h2:([E3]:List Int).length≤1000)(A4:r0=(aCb 0 ([E3]:List Int))):FMM Tp 134 [(.rp (aY dl sk dc) 0),(.p (.agg [(aA s0),(aA s1)])),zV] (dF dl sk dc ov T) (.tup [(pI r0),(pB false)]) (dF dl sk dc ov Eh):=by
 subst A4;exact FMM.fi 7 gE func134 [.x (fS dc),hl0.k 1 (gI [0,4,10,11,24,26] [7,8]),bF,.c (pI (aCb 0 ([E3]:List Int))) []] (gt (FC Tp 184 [(pI 0),(.own 9)] [(9,(.row 3 1 [(aA E3)]))] 10 (pI (aCb 0 ([E3]:List Int))) []) (fv (aVq 0 ([E3]:List Int) h2)) (gc h1 (gc hl0.code (gr (fS dc) gn))))
theorem bHu(h0:(i:Int)<(dc.length:Int))(h1:dc[i]? = some [Aa,(0:Int),Ac,Ad,Ae,Af])(h2:uni 6 dc)(h3:aCa dl sk dc ov [Aa,(0:Int),Ac,Ad,Ae,Af] s0 Bj t T107)(h4:Bj=true)(h5:out=true)(h6:aCc dl sk dc ov [Aa,(0:Int),Ac,Ad,Ae,Af] Bn T107 T109)(h7:inR (tot+Bn))(h8:inR (((i+1):Nat):Int))(Cy:D7=(tot+Bn))(Ai:i'=(i+1))(Be:aR t'=(aR T109))(Bf:t'.length=T109.length):aC Tp 7 kY (dM dl sk dc ov s0 s1 out tot i (aR t) t.length) .normal (dM dl sk dc ov s0 s1 true D7 i' (aR t') t'.length):=by
 subst Cy Ai;have k1:=mq [0,1,2,3,4,5,6] 10 h3;have k2:=fk 10 pH rfl;have k3:=mq [0,1,2,3,4,5,6] 18 h6;rw [Be,Bf];exact aC.fi (gN [0,4,10,11,24,26] [7,8] [(8,0)]) ([bT,.x (dcE Aa 0 Ac Ad Ae Af),k1.o]++rT 5++[k2.o,k3.o,.c (pI (tot+Bn)) []]) (gc h8 (gc (fk 26 (aLr tot Bn h7) rfl) (gc k3 (gc bQb (gc k2 (Aw h5 (gc h4 (gc k1 (gfl h2 h1 (gc (aI h0) gn))))))))))
theorem bHv(h0:(i:Int)<(dc.length:Int))(h1:dc[i]? = some [Aa,(0:Int),Ac,Ad,Ae,Af])(h2:uni 6 dc)(h3:aCa dl sk dc ov [Aa,(0:Int),Ac,Ad,Ae,Af] s0 Bj t T107)(h4:Bj=true)(h5:out=false)(h6:aCc dl sk dc ov [Aa,(0:Int),Ac,Ad,Ae,Af] Bn T107 T109)(h7:inR (tot+Bn))(h8:inR (((i+1):Nat):Int))(Ep:F9=((0:Int) == 3))(Cy:D7=(tot+Bn))(Ai:i'=(i+1))(Be:aR t'=(aR T109))(Bf:t'.length=T109.length):aC Tp 7 kY (dM dl sk dc ov s0 s1 out tot i (aR t) t.length) .normal (dM dl sk dc ov s0 s1 F9 D7 i' (aR t') t'.length):=by
 subst Ep Cy Ai;have k1:=mq [0,1,2,3,4,5,6] 10 h3;have k2:=fk 10 pH rfl;have k3:=mq [0,1,2,3,4,5,6] 18 h6;rw [Be,Bf];exact aC.fi (gI [0,4,10,11,24,26] [7,8]) [bT,.x (dcE Aa 0 Ac Ad Ae Af),k1.o,bT,bF,bF,bF,bF,k2.o,k3.o,.c (pI (tot+Bn)) []] (gc h8 (gc (fk 26 (aLr tot Bn h7) rfl) (gc k3 (gc bQb (gc k2 (Aw h5 (gc h4 (gc k1 (gfl h2 h1 (gc (aI h0) gn))))))))))
theorem bHw(h0:(i:Int)<(dc.length:Int))(h1:dc[i]? = some [Aa,(1:Int),Ac,Ad,Ae,Af])(h2:uni 6 dc)(h3:aCa dl sk dc ov [Aa,(1:Int),Ac,Ad,Ae,Af] s0 Bj t T107)(h4:Bj=true)(h5:out=true)(h6:aCc dl sk dc ov [Aa,(1:Int),Ac,Ad,Ae,Af] Bn T107 T109)(h7:inR (tot-Bn))(h8:inR (((i+1):Nat):Int))(Cy:D7=(tot-Bn))(Ai:i'=(i+1))(Be:aR t'=(aR T109))(Bf:t'.length=T109.length):aC Tp 7 kY (dM dl sk dc ov s0 s1 out tot i (aR t) t.length) .normal (dM dl sk dc ov s0 s1 true D7 i' (aR t') t'.length):=by
 subst Cy Ai;have k1:=mq [0,1,2,3,4,5,6] 10 h3;have k2:=fk 10 pH rfl;have k3:=mq [0,1,2,3,4,5,6] 18 h6;rw [Be,Bf];exact aC.fi (gN [0,4,10,11,24,26] [7,8] [(8,0)]) ([bT,.x (dcE Aa 1 Ac Ad Ae Af),k1.o]++rT 5++[k2.o,k3.o,.c (pI (tot-Bn)) []]) (gc h8 (gc (fk 26 (bQg tot Bn h7) rfl) (gc k3 (gc bQc (gc k2 (Aw h5 (gc h4 (gc k1 (gfl h2 h1 (gc (aI h0) gn))))))))))
theorem bHx(h0:(i:Int)<(dc.length:Int))(h1:dc[i]? = some [Aa,(1:Int),Ac,Ad,Ae,Af])(h2:uni 6 dc)(h3:aCa dl sk dc ov [Aa,(1:Int),Ac,Ad,Ae,Af] s0 Bj t T107)(h4:Bj=true)(h5:out=false)(h6:aCc dl sk dc ov [Aa,(1:Int),Ac,Ad,Ae,Af] Bn T107 T109)(h7:inR (tot-Bn))(h8:inR (((i+1):Nat):Int))(Ep:F9=((1:Int) == 3))(Cy:D7=(tot-Bn))(Ai:i'=(i+1))(Be:aR t'=(aR T109))(Bf:t'.length=T109.length):aC Tp 7 kY (dM dl sk dc ov s0 s1 out tot i (aR t) t.length) .normal (dM dl sk dc ov s0 s1 F9 D7 i' (aR t') t'.length):=by
 subst Ep Cy Ai;have k1:=mq [0,1,2,3,4,5,6] 10 h3;have k2:=fk 10 pH rfl;have k3:=mq [0,1,2,3,4,5,6] 18 h6;rw [Be,Bf];exact aC.fi (gI [0,4,10,11,24,26] [7,8]) [bT,.x (dcE Aa 1 Ac Ad Ae Af),k1.o,bT,bF,bF,bF,bF,k2.o,k3.o,.c (pI (tot-Bn)) []] (gc h8 (gc (fk 26 (bQg tot Bn h7) rfl) (gc k3 (gc bQc (gc k2 (Aw h5 (gc h4 (gc k1 (gfl h2 h1 (gc (aI h0) gn))))))))))
theorem bHy(h0:(i:Int)<(dc.length:Int))(h1:dc[i]? = some [Aa,(2:Int),Ac,Ad,Ae,Af])(h2:uni 6 dc)(h3:aCa dl sk dc ov [Aa,(2:Int),Ac,Ad,Ae,Af] s0 Bj t T107)(h4:Bj=true)(h5:out=true)(h6:aCc dl sk dc ov [Aa,(2:Int),Ac,Ad,Ae,Af] Bn T107 T109)(h7:inR (1200*Bn)∧inR (tot+1200*Bn))(h8:inR (((i+1):Nat):Int))(Cy:D7=(tot+1200*Bn))(Ai:i'=(i+1))(Be:aR t'=(aR T109))(Bf:t'.length=T109.length):aC Tp 7 kY (dM dl sk dc ov s0 s1 out tot i (aR t) t.length) .normal (dM dl sk dc ov s0 s1 true D7 i' (aR t') t'.length):=by
 subst Cy Ai;have k1:=mq [0,1,2,3,4,5,6] 10 h3;have k2:=fk 10 pH rfl;have k3:=mq [0,1,2,3,4,5,6] 18 h6;have k4:=fk 26 (bQh tot Bn h7) rfl;rw [Be,Bf];exact aC.fi (gN [0,4,10,11,24,26] [7,8] [(8,0)]) ([bT,.x (dcE Aa 2 Ac Ad Ae Af),k1.o]++rT 5++[k2.o,k3.o,k4.o]) (gc h8 (gc k4 (gc k3 (gc bQd (gc k2 (Aw h5 (gc h4 (gc k1 (gfl h2 h1 (gc (aI h0) gn))))))))))
theorem bHz(h0:(i:Int)<(dc.length:Int))(h1:dc[i]? = some [Aa,(2:Int),Ac,Ad,Ae,Af])(h2:uni 6 dc)(h3:aCa dl sk dc ov [Aa,(2:Int),Ac,Ad,Ae,Af] s0 Bj t T107)(h4:Bj=true)(h5:out=false)(h6:aCc dl sk dc ov [Aa,(2:Int),Ac,Ad,Ae,Af] Bn T107 T109)(h7:inR (1200*Bn)∧inR (tot+1200*Bn))(h8:inR (((i+1):Nat):Int))(Ep:F9=((2:Int) == 3))(Cy:D7=(tot+1200*Bn))(Ai:i'=(i+1))(Be:aR t'=(aR T109))(Bf:t'.length=T109.length):aC Tp 7 kY (dM dl sk dc ov s0 s1 out tot i (aR t) t.length) .normal (dM dl sk dc ov s0 s1 F9 D7 i' (aR t') t'.length):=by
 subst Ep Cy Ai;have k1:=mq [0,1,2,3,4,5,6] 10 h3;have k2:=fk 10 pH rfl;have k3:=mq [0,1,2,3,4,5,6] 18 h6;have k4:=fk 26 (bQh tot Bn h7) rfl;rw [Be,Bf];exact aC.fi (gI [0,4,10,11,24,26] [7,8]) [bT,.x (dcE Aa 2 Ac Ad Ae Af),k1.o,bT,bF,bF,bF,bF,k2.o,k3.o,k4.o] (gc h8 (gc k4 (gc k3 (gc bQd (gc k2 (Aw h5 (gc h4 (gc k1 (gfl h2 h1 (gc (aI h0) gn))))))))))
theorem bIa(h0:(i:Int)<(dc.length:Int))(h1:dc[i]? = some [Aa,(3:Int),Ac,Ad,Ae,Af])(h2:uni 6 dc)(h3:aCa dl sk dc ov [Aa,(3:Int),Ac,Ad,Ae,Af] s0 Bj t T107)(h4:Bj=true)(h5:out=true)(h6:aCc dl sk dc ov [Aa,(3:Int),Ac,Ad,Ae,Af] Bn T107 T109)(h7:inR (((i+1):Nat):Int))(Ai:i'=(i+1))(Be:aR t'=(aR T109))(Bf:t'.length=T109.length):aC Tp 7 kY (dM dl sk dc ov s0 s1 out tot i (aR t) t.length) .normal (dM dl sk dc ov s0 s1 true tot i' (aR t') t'.length):=by
 subst Ai;have k1:=mq [0,1,2,3,4,5,6] 10 h3;have k2:=fk 10 pH rfl;have k3:=mq [0,1,2,3,4,5,6] 18 h6;rw [Be,Bf];exact aC.fi (gN [0,4,10,11,24,26] [7,8] [(8,0)]) ([bT,.x (dcE Aa 3 Ac Ad Ae Af),k1.o]++rT 5++[k2.o,k3.o,.c (pI tot) []]) (gc h7 (gc (fk 26 (bQi tot Bn) rfl) (gc k3 (gc bQe (gc k2 (Aw h5 (gc h4 (gc k1 (gfl h2 h1 (gc (aI h0) gn))))))))))
theorem bIb(h0:(i:Int)<(dc.length:Int))(h1:dc[i]? = some [Aa,(3:Int),Ac,Ad,Ae,Af])(h2:uni 6 dc)(h3:aCa dl sk dc ov [Aa,(3:Int),Ac,Ad,Ae,Af] s0 Bj t T107)(h4:Bj=true)(h5:out=false)(h6:aCc dl sk dc ov [Aa,(3:Int),Ac,Ad,Ae,Af] Bn T107 T109)(h7:inR (((i+1):Nat):Int))(Ep:F9=((3:Int) == 3))(Ai:i'=(i+1))(Be:aR t'=(aR T109))(Bf:t'.length=T109.length):aC Tp 7 kY (dM dl sk dc ov s0 s1 out tot i (aR t) t.length) .normal (dM dl sk dc ov s0 s1 F9 tot i' (aR t') t'.length):=by
 subst Ep Ai;have k1:=mq [0,1,2,3,4,5,6] 10 h3;have k2:=fk 10 pH rfl;have k3:=mq [0,1,2,3,4,5,6] 18 h6;rw [Be,Bf];exact aC.fi (gI [0,4,10,11,24,26] [7,8]) [bT,.x (dcE Aa 3 Ac Ad Ae Af),k1.o,bT,bF,bF,bF,bF,k2.o,k3.o,.c (pI tot) []] (gc h7 (gc (fk 26 (bQi tot Bn) rfl) (gc k3 (gc bQe (gc k2 (Aw h5 (gc h4 (gc k1 (gfl h2 h1 (gc (aI h0) gn))))))))))
theorem bIc(h0:(i:Int)<(dc.length:Int))(h1:dc[i]? = some [Aa,(4:Int),Ac,Ad,Ae,Af])(h2:uni 6 dc)(h3:aCa dl sk dc ov [Aa,(4:Int),Ac,Ad,Ae,Af] s0 Bj t T107)(h4:Bj=true)(h5:out=true)(h6:aCc dl sk dc ov [Aa,(4:Int),Ac,Ad,Ae,Af] Bn T107 T109)(h7:inR (tot+Bn))(h8:inR (((i+1):Nat):Int))(Cy:D7=(tot+Bn))(Ai:i'=(i+1))(Be:aR t'=(aR T109))(Bf:t'.length=T109.length):aC Tp 7 kY (dM dl sk dc ov s0 s1 out tot i (aR t) t.length) .normal (dM dl sk dc ov s0 s1 true D7 i' (aR t') t'.length):=by
 subst Cy Ai;have k1:=mq [0,1,2,3,4,5,6] 10 h3;have k2:=fk 10 pH rfl;have k3:=mq [0,1,2,3,4,5,6] 18 h6;rw [Be,Bf];exact aC.fi (gN [0,4,10,11,24,26] [7,8] [(8,0)]) ([bT,.x (dcE Aa 4 Ac Ad Ae Af),k1.o]++rT 5++[k2.o,k3.o,.c (pI (tot+Bn)) []]) (gc h8 (gc (fk 26 (aLr tot Bn h7) rfl) (gc k3 (gc bQf (gc k2 (Aw h5 (gc h4 (gc k1 (gfl h2 h1 (gc (aI h0) gn))))))))))
theorem bId(h0:(i:Int)<(dc.length:Int))(h1:dc[i]? = some [Aa,(4:Int),Ac,Ad,Ae,Af])(h2:uni 6 dc)(h3:aCa dl sk dc ov [Aa,(4:Int),Ac,Ad,Ae,Af] s0 Bj t T107)(h4:Bj=true)(h5:out=false)(h6:aCc dl sk dc ov [Aa,(4:Int),Ac,Ad,Ae,Af] Bn T107 T109)(h7:inR (tot+Bn))(h8:inR (((i+1):Nat):Int))(Ep:F9=((4:Int) == 3))(Cy:D7=(tot+Bn))(Ai:i'=(i+1))(Be:aR t'=(aR T109))(Bf:t'.length=T109.length):aC Tp 7 kY (dM dl sk dc ov s0 s1 out tot i (aR t) t.length) .normal (dM dl sk dc ov s0 s1 F9 D7 i' (aR t') t'.length):=by
 subst Ep Cy Ai;have k1:=mq [0,1,2,3,4,5,6] 10 h3;have k2:=fk 10 pH rfl;have k3:=mq [0,1,2,3,4,5,6] 18 h6;rw [Be,Bf];exact aC.fi (gI [0,4,10,11,24,26] [7,8]) [bT,.x (dcE Aa 4 Ac Ad Ae Af),k1.o,bT,bF,bF,bF,bF,k2.o,k3.o,.c (pI (tot+Bn)) []] (gc h8 (gc (fk 26 (aLr tot Bn h7) rfl) (gc k3 (gc bQf (gc k2 (Aw h5 (gc h4 (gc k1 (gfl h2 h1 (gc (aI h0) gn))))))))))
theorem aVr(h0:(i:Int)<(dc.length:Int))(h1:dc[i]? = some [Aa,Ab,Ac,Ad,Ae,Af])(h2:uni 6 dc)(h3:aCa dl sk dc ov [Aa,Ab,Ac,Ad,Ae,Af] s0 Bj t T107)(h4:Bj=false)(h5:inR (((i+1):Nat):Int))(Ai:i'=(i+1))(Be:aR t'=(aR T107))(Bf:t'.length=T107.length):aC Tp 7 kY (dM dl sk dc ov s0 s1 out tot i (aR t) t.length) .normal (dM dl sk dc ov s0 s1 out tot i' (aR t') t'.length):=by
 subst Ai;have k1:=mq [0,1,2,3,4,5,6] 10 h3;rw [Be,Bf];exact aC.fi (gI [0,4,10,11,24,26] [7,8]) [bT,.x (dcE Aa Ab Ac Ad Ae Af),k1.o,bF] (gc h5 (gc h4 (gc k1 (gfl h2 h1 (gc (aI h0) gn)))))
theorem aVs(h0:(dc.length:Int)≤(i:Int)):aC Tp 7 kY (dM dl sk dc ov s0 s1 out tot i (aR t) t.length) (.exit 0) (dM dl sk dc ov s0 s1 out tot i (aR t) t.length):=aC.fi (gI [0,4,10,11,24,26] [7,8]) [bF] (gc (aN h0) gn)
def kZ(dl:Int)(sk:Lqq)(dc:Lqq)(on:Nat)(oc:List PV)(i:Nat)(te:List (Value × PV))(tk:Nat):St:=⟨fr 48 [(2,(.p bX)),(3,(.ptr 7 0)),(4,(.own 8)),(15,(.p (fS dc))),(16,(pI (dc.length:Int))),(17,(pI (i:Int)))],[some (Ga dl sk dc),some (.box 33 [(.p bX)]),some G5,some (.mp te tk),some (.box 207 [(.mp 3)]),some (Gb dl sk dc),some H9,some G5,some (.row 3 on oc)]⟩
theorem cFp{D6:List Int}{U5:Lqb}(hl0:aE Tp 0 zT (kZ dl sk dc 0 [] 0 (aR ([]:Lqb)) 0) (.exit 0) (kZ dl sk dc D6.length (D6.map aA) Ev (aR U5) U5.length)):FV Tp 83 [(.rp (aY dl sk dc) 0)] base (.own base) [(base,(.row 3 D6.length (D6.map aA)))]:=have k1:=mN [] 0 (aLy (dl:=dl) (sk:=sk) (dc:=dc));FV.fi func83 [k1.o,.x (fS dc),hl0.k 1 (gN [0,2,5,10,18,29] [0,1,2,3,4,5,6,7,8] [(4,3)])] (gc hl0.code (gr (fS dc) (gc k1 gn)))
theorem bIe{o':List Int}(h0:(i:Int)<(dc.length:Int))(h1:dc[i]? = some [Aa,Ab,Ac,Ad,Ae,Af])(h2:uni 6 dc)(h3:aQl dl sk dc bX [Aa,Ab,Ac,Ad,Ae,Af] [K6,K7,K8,K9,La,Lb] Iz t T113)(h4:(eY Ab)=true)(h5:tU dl sk dc bX [Aa,Ab,Ac,Ad,Ae,Af] I0 T113 T115)(h6:I0=true)(h7:Iz=false)(h8:[(aA Aa)].length=1*1∧o.length+1≤1000000)(h9:inR (((i+1):Nat):Int))(B1:o'.length=(o.length+1))(B2:o'.map aA=((o.map aA)++[(aA Aa)]))(Ai:i'=(i+1))(Be:aR t'=(aR T115))(Bf:t'.length=T115.length):aC Tp 0 zT (kZ dl sk dc o.length (o.map aA) i (aR t) t.length) .normal (kZ dl sk dc o'.length (o'.map aA) i' (aR t') t'.length):=by
 subst Ai;have k1:=mq [0,1,2,3,4,5,6] 10 h3;have k2:=fk 11 (zW Ab) rfl;have k3:=mq [0,1,2,3,4,5,6] 11 h5;rw [B1,B2,Be,Bf];exact aC.fi (gI [0,2,5,10,18,29] [0,1,2,3,4,5,6,7,12]) ([bT,.x (dcE Aa Ab Ac Ad Ae Af),k1.o,k2.o,bT,bT,bT,bT,k3.o]++rT 5) (gc h9 (gc h8 (gc (bM h7) (Ak h6 (gc h4 (gc k3 (Aw h4 (gc k2 (gc k1 (gfl h2 h1 (gc (aI h0) gn)))))))))))
theorem bIf(h0:(i:Int)<(dc.length:Int))(h1:dc[i]? = some [Aa,Ab,Ac,Ad,Ae,Af])(h2:uni 6 dc)(h3:aQl dl sk dc bX [Aa,Ab,Ac,Ad,Ae,Af] [K6,K7,K8,K9,La,Lb] Iz t T113)(h4:(eY Ab)=true)(h5:tU dl sk dc bX [Aa,Ab,Ac,Ad,Ae,Af] I0 T113 T115)(h6:I0=true)(h7:Iz=true)(h8:inR (((i+1):Nat):Int))(Ai:i'=(i+1))(Be:aR t'=(aR T115))(Bf:t'.length=T115.length):aC Tp 0 zT (kZ dl sk dc o.length (o.map aA) i (aR t) t.length) .normal (kZ dl sk dc o.length (o.map aA) i' (aR t') t'.length):=by
 subst Ai;have k1:=mq [0,1,2,3,4,5,6] 10 h3;have k2:=fk 11 (zW Ab) rfl;have k3:=mq [0,1,2,3,4,5,6] 11 h5;rw [Be,Bf];exact aC.fi (gI [0,2,5,10,18,29] [0,1,2,3,4,5,6,7,8]) [bT,.x (dcE Aa Ab Ac Ad Ae Af),k1.o,k2.o,bT,bT,bT,bT,k3.o,bT,bT,bT,bT,bF] (gc h8 (gc (aV h7) (Ak h6 (gc h4 (gc k3 (Aw h4 (gc k2 (gc k1 (gfl h2 h1 (gc (aI h0) gn))))))))))
theorem bIg(h0:(i:Int)<(dc.length:Int))(h1:dc[i]? = some [Aa,Ab,Ac,Ad,Ae,Af])(h2:uni 6 dc)(h3:aQl dl sk dc bX [Aa,Ab,Ac,Ad,Ae,Af] [K6,K7,K8,K9,La,Lb] Iz t T113)(h4:(eY Ab)=true)(h5:tU dl sk dc bX [Aa,Ab,Ac,Ad,Ae,Af] I0 T113 T115)(h6:I0=false)(h7:inR (((i+1):Nat):Int))(Ai:i'=(i+1))(Be:aR t'=(aR T115))(Bf:t'.length=T115.length):aC Tp 0 zT (kZ dl sk dc o.length (o.map aA) i (aR t) t.length) .normal (kZ dl sk dc o.length (o.map aA) i' (aR t') t'.length):=by
 subst Ai;have k1:=mq [0,1,2,3,4,5,6] 10 h3;have k2:=fk 11 (zW Ab) rfl;have k3:=mq [0,1,2,3,4,5,6] 11 h5;rw [Be,Bf];exact aC.fi (gI [0,2,5,10,18,29] [0,1,2,3,4,5,6,7,8]) [bT,.x (dcE Aa Ab Ac Ad Ae Af),k1.o,k2.o,bT,bT,bT,bT,k3.o,bT,bF,bF,bF] (gc h7 (Ak h6 (gc h4 (gc k3 (Aw h4 (gc k2 (gc k1 (gfl h2 h1 (gc (aI h0) gn)))))))))
theorem bIh(h0:(i:Int)<(dc.length:Int))(h1:dc[i]? = some [Aa,Ab,Ac,Ad,Ae,Af])(h2:uni 6 dc)(h3:aQl dl sk dc bX [Aa,Ab,Ac,Ad,Ae,Af] [K6,K7,K8,K9,La,Lb] Iz t T113)(h4:(eY Ab)=false)(h5:inR (((i+1):Nat):Int))(Ai:i'=(i+1))(Be:aR t'=(aR T113))(Bf:t'.length=T113.length):aC Tp 0 zT (kZ dl sk dc o.length (o.map aA) i (aR t) t.length) .normal (kZ dl sk dc o.length (o.map aA) i' (aR t') t'.length):=by
 subst Ai;have k1:=mq [0,1,2,3,4,5,6] 10 h3;have k2:=fk 11 (zW Ab) rfl;rw [Be,Bf];exact aC.fi (gI [0,2,5,10,18,29] [0,1,2,3,4,5,6,7,8]) ([bT,.x (dcE Aa Ab Ac Ad Ae Af),k1.o,k2.o]++rF 5) (gc h5 (Bo h4 (gc k2 (gc k1 (gfl h2 h1 (gc (aI h0) gn))))))
theorem bIi(h0:(dc.length:Int)≤(i:Int)):aC Tp 0 zT (kZ dl sk dc o.length (o.map aA) i (aR t) t.length) (.exit 0) (kZ dl sk dc o.length (o.map aA) i (aR t) t.length):=aC.fi (gI [0,2,5,10,18,29] [0,1,2,3,4,5,6,7,8]) [bF] (gc (aN h0) gn)
end
section
def aFi(dl:Int)(oc:List Int)(dc:Lqq)(bib:Int)(x:List Int):Bool:=decide (dK x≤4) && (dB x == bib && (dJ dl oc dc x && (!(dK x == 4) || vE dl oc dc x)))
def byI(k t m:Int):Int:=if k=1 then t-m else if k=2 then t+1200*m else if k=3 then t else t+m
def pG(dl:Int)(oc:List Int)(dc:Lqq)(bib:Int)(acc:Bool × Int)(x:List Int):Bool × Int:=if aFi dl oc dc bib x then (acc.1 || dK x == 3,byI (dK x) acc.2 (kI dl oc dc x)) else acc
def aGy(dl:Int)(oc:List Int)(dc:Lqq)(bib time:Int):Bool × Int:=dc.foldl (pG dl oc dc bib) (time == -1,time)
def cI(dl:Int)(oc:List Int)(dc:Lqq)(bib time:Int):Int × Bool:=if (aGy dl oc dc bib time).1 then (0,true) else (max 0 (aGy dl oc dc bib time).2,false)
def kJ(dl:Int)(dc:Lqq)(x:List Int):Bool:=eY (dK x) && (dJ dl [] dc x && (vF dl [] dc x).isNone)
def aP(dl:Int)(dc:Lqq):List Int:=(dc.filter (kJ dl dc)).map dN
section
variable {dl:Int} {sk dc:Lqq} {oc:List Int} {ov:PV}
theorem bWg(hd:bN dc)(hov:∀ n,vG ov n (oc.contains n)){x:List Int}(hx:x∈dc){T:Lqb}(hT:cS dl oc dc T):∃ T' z0 z1 z2 z3 z4 z5,cS dl oc dc T'∧(vF dl oc dc x).getD Il=[z0,z1,z2,z3,z4,z5]∧aQl dl sk dc ov x [z0,z1,z2,z3,z4,z5] (vF dl oc dc x).isSome T T':=by
 obtain ⟨T',h1,h2⟩:=cLk (sk:=sk) hd hov hx T hT;cases hr:vF dl oc dc x with
 | none =>
  rw [hr] at h2
  exact ⟨T',0,0,0,0,0,0,h1,rfl,h2⟩
 | some z =>
  have hz:z.length=6:=by
   rw [aFe hd hx] at hr
   exact iZ hd _ z (sH hr)
  obtain ⟨a,b,c,d,e,f,rfl⟩:=A6 hz;rw [hr] at h2
  exact ⟨T',a,b,c,d,e,f,h1,rfl,h2⟩
theorem aQk(hd:bN dc):∀ (n:Nat) (x:List Int),x∈dc→10000-dN x≤(n:Int)→0≤kI dl oc dc x∧kI dl oc dc x≤36000
 | 0,x,hx,h=>by have:=eQ hd hx;omega
 | n+1,x,hx,h=>by
  rw [aZu hd hx];cases hr:aLp dl oc dc x with
  | none =>
   have h4:=(iB.1 (hd.rng x hx)).2.2.2;have:mT (x.getD 1 0)≤36000:=by unfold mT;split <;> omega
   show 0≤x.getD 4 0∧x.getD 4 0≤36000;omega
  | some z =>
   have hz:z∈cB dc (dN x):=by
    rw [aFf hd hx] at hr
    exact sH hr
   obtain ⟨a1,a2⟩:=tS hd hx hz;exact aQk hd n z a1 (by omega)
theorem aLq(hd:bN dc){x:List Int}(hx:x∈dc):0≤kI dl oc dc x∧kI dl oc dc x≤36000:=aQk hd 10000 x hx (by have:=eQ hd hx;omega)
theorem cLj(hd:bN dc)(hov:∀ n,vG ov n (oc.contains n))(bib:Int){x:List Int}(hx:x∈dc){T:Lqb}(hT:cS dl oc dc T):∃ T',cS dl oc dc T'∧aCa dl sk dc ov x bib (aFi dl oc dc bib x) T T':=by
 obtain ⟨T1,h1,c1⟩:=bQm (sk:=sk) hd hov hx T hT;obtain ⟨T2,h2,c2⟩:=cLm (sk:=sk) hd hov hx T1 h1;obtain ⟨a,k,c,d,e,f,rfl⟩:=A6 (hd.ud x hx);unfold aFi
 by_cases hk:k≤4
 ·have G3:decide (k≤4)=true:=decide_eq_true hk
  rw [show decide (dK [a,k,c,d,e,f]≤4)=true from G3,gA]
  by_cases hb:d=bib
  ·rw [show (dB [a,k,c,d,e,f] == bib)=true by simpa using hb,gA]
   cases hc:dJ dl oc dc [a,k,c,d,e,f] with
   | false =>
    rw [hc] at c1
    exact ⟨T1,h1,cFf G3 hb c1 rfl⟩
   | true =>
    rw [hc] at c1
    rw [gA]
    by_cases h4:k=4
    ·rw [show (dK [a,k,c,d,e,f] == 4)=true by simpa using h4,Bool.not_true,Bool.false_or]
     exact ⟨T2,h2,cFe G3 hb c1 rfl h4 c2⟩
    ·rw [show (dK [a,k,c,d,e,f] == 4)=false by simpa using h4,Bool.not_false,Bool.true_or]
     exact ⟨T1,h1,cFd G3 hb c1 rfl h4⟩
  ·rw [show (dB [a,k,c,d,e,f] == bib)=false by simpa using hb,Bool.false_and]
   exact ⟨T,hT,cFg G3 hb⟩
 ·have G3:decide (k≤4)=false:=decide_eq_false hk
  rw [show decide (dK [a,k,c,d,e,f]≤4)=false from G3,Bool.false_and]
  exact ⟨T,hT,cFh G3⟩
theorem bQa(hd:bN dc)(hov:∀ n,vG ov n (oc.contains n))(s0 s1:Int)(hs : -1≤s1∧s1≤360000){T:Lqb}(hT:cS dl oc dc T):∃ T',cS dl oc dc T'∧aGz dl sk dc ov [s0,s1] (cI dl oc dc s0 s1).1 (cI dl oc dc s0 s1).2 T T':=by
 have hlen:=hd.len;obtain ⟨acc,⟨h1,h2,_⟩,h3⟩:=aE.ex (P:=Tp) (k:=7) (b:=sub (cd Tryz.f134) [1,1,0,1,0,0]) (e := .exit 0) (fun i (a:(Bool × Int) × Lqb)=>dM dl sk dc ov s0 s1 a.1.1 a.1.2 i (aR a.2) a.2.length)
  (fun a=>dM dl sk dc ov s0 s1 a.1.1 a.1.2 dc.length (aR a.2) a.2.length)
  (fun i a=>cS dl oc dc a.2∧a.1=(dc.take i).foldl (pG dl oc dc s0) (s1 == -1,s1) ∧ -1-36000*(i:Int)≤a.1.2∧a.1.2≤360000+43200000*(i:Int)) (by simp) dc.length
  (fun i acc hi hI=>by
   obtain ⟨⟨out,tot⟩,T1⟩:=acc;obtain ⟨h1,h2,h3,h4⟩:=hI;dsimp only at h1 h2 h3 h4
   have hm:=fL hi;obtain ⟨a,k,c,d,e,f,hy⟩:=A6 (hd.ud _ hm);have hx:dc[i]? = some [a,k,c,d,e,f]:=by rw [Av hi,hy]
   rw [hy] at hm
   have et:(dc.take (i+1)).foldl (pG dl oc dc s0) (s1 == -1,s1)=pG dl oc dc s0 (out,tot) [a,k,c,d,e,f]:=by
    rw [List.take_add_one,hx,aBy,← h2];rfl
   obtain ⟨T2,q1,q2⟩:=cLj (sk:=sk) hd hov s0 hm h1;rw [et];unfold pG;cases hh:aFi dl oc dc s0 [a,k,c,d,e,f] with
   | false =>
    rw [hh] at q2
    exact ⟨((out,tot),T2),⟨q1,by simp,by dsimp only;omega,by dsimp only;omega⟩,aVr (by omega) hx hd.ud q2 rfl (aH (by omega)) rfl rfl rfl⟩
   | true =>
    rw [hh] at q2
    rw [if_pos rfl];obtain ⟨T3,q3,q4⟩:=cLn (sk:=sk) hd hov hm T2 q1;have hb:=aLq (dl:=dl) (oc:=oc) hd hm;revert q4 hb;generalize kI dl oc dc [a,k,c,d,e,f]=m;intro q4 hb;have hk:0≤k∧k≤4:=by
     have h5:=(iB.1 (hd.rng _ hm)).2.1;unfold aFi at hh
     rw [B7] at hh
     exact ⟨h5.1,of_decide_eq_true hh.1⟩
    have Wj:k=0∨k=1∨k=2∨k=3∨k=4:=by omega
    clear hh
    rcases Wj with rfl | rfl | rfl | rfl | rfl
    ·have hI:∀ q:Bool,-1-36000*((i+1:Nat):Int)≤tot+m∧tot+m≤360000+43200000*((i+1:Nat):Int):=fun _=>by omega
     cases out with
     | true=>exact ⟨((true,tot+m),T3),⟨q3,rfl,(hI true).1,(hI true).2⟩,bHu (by omega) hx hd.ud q2 rfl rfl q4 (by show inR (tot+m);unfold inR;omega) (aH (by omega)) rfl rfl rfl rfl⟩
     | false=>exact ⟨((false,tot+m),T3),⟨q3,rfl,(hI true).1,(hI true).2⟩,bHv (by omega) hx hd.ud q2 rfl rfl q4 (by show inR (tot+m);unfold inR;omega) (aH (by omega)) rfl rfl rfl rfl rfl⟩
    ·have hI:∀ q:Bool,-1-36000*((i+1:Nat):Int)≤tot-m∧tot-m≤360000+43200000*((i+1:Nat):Int):=fun _=>by omega
     cases out with
     | true=>exact ⟨((true,tot-m),T3),⟨q3,rfl,(hI true).1,(hI true).2⟩,bHw (by omega) hx hd.ud q2 rfl rfl q4 (by show inR (tot-m);unfold inR;omega) (aH (by omega)) rfl rfl rfl rfl⟩
     | false=>exact ⟨((false,tot-m),T3),⟨q3,rfl,(hI true).1,(hI true).2⟩,bHx (by omega) hx hd.ud q2 rfl rfl q4 (by show inR (tot-m);unfold inR;omega) (aH (by omega)) rfl rfl rfl rfl rfl⟩
    ·have hI:∀ q:Bool,-1-36000*((i+1:Nat):Int)≤tot+1200*m∧tot+1200*m≤360000+43200000*((i+1:Nat):Int):=fun _=>by omega
     cases out with
     | true=>exact ⟨((true,tot+1200*m),T3),⟨q3,rfl,(hI true).1,(hI true).2⟩,bHy (by omega) hx hd.ud q2 rfl rfl q4 ⟨by show inR (1200*m);unfold inR;omega,by show inR (tot+1200*m);unfold inR;omega⟩ (aH (by omega)) rfl rfl rfl rfl⟩
     | false=>exact ⟨((false,tot+1200*m),T3),⟨q3,rfl,(hI true).1,(hI true).2⟩,bHz (by omega) hx hd.ud q2 rfl rfl q4 ⟨by show inR (1200*m);unfold inR;omega,by show inR (tot+1200*m);unfold inR;omega⟩ (aH (by omega)) rfl rfl rfl rfl rfl⟩
    ·have hI:∀ q:Bool,-1-36000*((i+1:Nat):Int)≤tot∧tot≤360000+43200000*((i+1:Nat):Int):=fun _=>by omega
     cases out with
     | true=>exact ⟨((true,tot),T3),⟨q3,rfl,(hI true).1,(hI true).2⟩,bIa (by omega) hx hd.ud q2 rfl rfl q4 (aH (by omega)) rfl rfl rfl⟩
     | false=>exact ⟨((true,tot),T3),⟨q3,rfl,(hI true).1,(hI true).2⟩,bIb (by omega) hx hd.ud q2 rfl rfl q4 (aH (by omega)) rfl rfl rfl rfl⟩
    ·have hI:∀ q:Bool,-1-36000*((i+1:Nat):Int)≤tot+m∧tot+m≤360000+43200000*((i+1:Nat):Int):=fun _=>by omega
     cases out with
     | true=>exact ⟨((true,tot+m),T3),⟨q3,rfl,(hI true).1,(hI true).2⟩,bIc (by omega) hx hd.ud q2 rfl rfl q4 (by show inR (tot+m);unfold inR;omega) (aH (by omega)) rfl rfl rfl rfl⟩
     | false=>exact ⟨((false,tot+m),T3),⟨q3,rfl,(hI true).1,(hI true).2⟩,bId (by omega) hx hd.ud q2 rfl rfl q4 (by show inR (tot+m);unfold inR;omega) (aH (by omega)) rfl rfl rfl rfl rfl⟩)
  (fun acc hI=>aVs (by omega)) (acc:=((s1 == -1,s1),T)) ⟨hT,by simp,by dsimp only;omega,by dsimp only;omega⟩
 obtain ⟨⟨out,tot⟩,T1⟩:=acc;dsimp only at h1 h2 h3
 rw [List.take_length] at h2
 have e:aGy dl oc dc s0 s1=(out,tot):=h2.symm;unfold cI;rw [e];cases out with
 | true=>exact ⟨T1,h1,cFn h3 rfl⟩
 | false=>exact ⟨T1,h1,cFo h3 rfl (by simp) (by simp [aCb];omega)⟩
theorem rR(hd:bN dc){base:Nat}:FV Tp 83 [qL dl sk dc] base (.own base) [(base,.row 3 (aP dl dc).length ((aP dl dc).map aA))]:=by
 have hlen:=hd.len;have hov:=aLv;obtain ⟨acc,⟨h1,h2⟩,h3⟩:=aE.ex (P:=Tp) (k:=0) (b:=sub (cd Tryz.f83) [1,1,1,0,1,0,0]) (e := .exit 0) (fun i (a:List Int × Lqb)=>kZ dl sk dc a.1.length (a.1.map aA) i (aR a.2) a.2.length)
  (fun a=>kZ dl sk dc a.1.length (a.1.map aA) dc.length (aR a.2) a.2.length)
  (fun i a=>cS dl [] dc a.2∧a.1=((dc.take i).filter (kJ dl dc)).map dN) (by simp) dc.length
  (fun i acc hi hI=>by
   obtain ⟨o,T1⟩:=acc;obtain ⟨h1,h2⟩:=hI;dsimp only at h1 h2
   have hm:=fL hi;obtain ⟨a,k,c,d,e,f,hy⟩:=A6 (hd.ud _ hm);have hx:dc[i]? = some [a,k,c,d,e,f]:=by rw [Av hi,hy]
   rw [hy] at hm
   have ho:o.length≤1000:=by
    rw [h2,Cb];have:=mI (kJ dl dc) (dc.take i);rw [mJ] at this;omega
   have et:((dc.take (i+1)).filter (kJ dl dc)).map dN=o++if kJ dl dc [a,k,c,d,e,f] then [a] else []:=by
    rw [List.take_add_one,hx,kU,fM,← h2]
    congr 1
    show (List.filter (kJ dl dc) [[a,k,c,d,e,f]]).map dN=_;cases hq:kJ dl dc [a,k,c,d,e,f] <;> simp [hq]
   rw [et];obtain ⟨T2,z0,z1,z2,z3,z4,z5,q1,_,q2⟩:=bWg (sk:=sk) hd hov hm h1;obtain ⟨T3,q3,q4⟩:=bQm (sk:=sk) hd hov hm T2 q1;cases ha:eY k with
   | false =>
    have hb:kJ dl dc [a,k,c,d,e,f]=false:=by unfold kJ;rw [show eY (dK [a,k,c,d,e,f])=false from ha,Bool.false_and]
    rw [hb];exact ⟨(o,T2),⟨q1,by simp⟩,bIh (by omega) hx hd.ud q2 ha (aH (by omega)) rfl rfl rfl⟩
   | true =>
    have hb:kJ dl dc [a,k,c,d,e,f]=(dJ dl [] dc [a,k,c,d,e,f] && (vF dl [] dc [a,k,c,d,e,f]).isNone):=by unfold kJ;rw [show eY (dK [a,k,c,d,e,f])=true from ha,gA]
    rw [hb];cases hc:dJ dl [] dc [a,k,c,d,e,f] with
    | false =>
     rw [hc] at q4
     exact ⟨(o,T3),⟨q3,by simp⟩,bIg (by omega) hx hd.ud q2 ha q4 rfl (aH (by omega)) rfl rfl rfl⟩
    | true =>
     rw [hc] at q4
     cases hr:vF dl [] dc [a,k,c,d,e,f] with
     | some z =>
      rw [hr] at q2
      exact ⟨(o,T3),⟨q3,by simp⟩,bIf (by omega) hx hd.ud q2 ha q4 rfl rfl (aH (by omega)) rfl rfl rfl⟩
     | none =>
      rw [hr] at q2
      exact ⟨(o++[a],T3),⟨q3,by simp⟩,bIe (o:=o) (o':=o++[a]) (by omega) hx hd.ud q2 ha q4 rfl rfl ⟨rfl,by omega⟩ (aH (by omega)) (by simp) (by simp) rfl rfl rfl⟩)
  (fun acc hI=>bIi (by omega)) (acc:=([],[])) ⟨cS.nil,by simp⟩
 obtain ⟨o,T1⟩:=acc;dsimp only at h1 h2 h3
 rw [List.take_length] at h2
 rw [show aP dl dc=o from h2.symm]
 exact cFp h3
end
end
section
variable {u0 u1 u2 u3 u4 u5 x0 x1 x2 x3 x4 x5 u0'0 u1'1 u2'2 u3'3 u4'4 u5'5:Int}{base:Nat}
variable {dl:Int}{sk dc:Lqq}

noncomputable abbrev aFh:Code:=sub (cd Tryz.f128) [1,0,0,0]
theorem bPz:((0:Int) != 0)=false:=by first | decide | simp
theorem cEz{bib y0 y1:Int}(h0:bR dl sk dc)(h1:uni 2 (aB sk)∧(aB sk).length≤1000)(h2:(aQ (aB sk) 0).length≤1000)(h3:(0:Int)≤(bJ (fun x=>decide (bib=x)) (aQ (aB sk) 0)))(h4:(aB sk)[(bJ (fun x=>decide (bib=x)) (aQ (aB sk) 0)).toNat]? = some [y0,y1])(h5:0≤(bJ (fun x=>decide (bib=x)) (aQ (aB sk) 0)))(h6:uni 2 (aB sk)):FV Tp 135 [(.p (.agg (bB dl sk dc))),(pI bib)] base (.tup [(.rp (aY dl (aB sk) (aB dc)) 0),(.p (.agg [(aA y0),(aA y1)])),(pI 0)]) []:=have k1:=fk 2 (fE dl sk dc h0) rfl;have k2:=fk 2 (pE dl (aB sk) (aB dc) h1) rfl;FV.fi func135 [k1.o,bF,.x (.agg (bB dl (aB sk) (aB dc))),k2.o,.c (pI (bJ (fun x=>decide (bib=x)) (aQ (aB sk) 0))) [],bF,.x (.sl ((aB sk).length) ((aB sk).flatten.map aA)),.x (.agg [(aA y0),(aA y1)])] (gfz h6 h5 h4 (gr (.sl ((aB sk).length) ((aB sk).flatten.map aA)) (gc (aN h3) (gt (FC Tp 126 [(.own 2),(pI bib)] [(2,(.row 3 ((aQ (aB sk) 0).length) ((aQ (aB sk) 0).map aA)))] 3 (pI (bJ (fun x=>decide (bib=x)) (aQ (aB sk) 0))) []) (fv (aEx (aQ (aB sk) 0) bib h2)) (gc k2 (gr (.agg (bB dl (aB sk) (aB dc))) (gt (0+3≤(aY dl (aB sk) (aB dc)).length) (by first | decide | simp) (gc bPz (gc k1 gn)))))))))
theorem cFa(h0:bR dl sk dc)(h1:bN (aB dc)):FV Tp 19 [(.p (.agg (bB dl sk dc)))] base (.tup [(.p (aG (aP dl (aB dc)))),(pI 0)]) []:=have k1:=fk 1 (fE dl sk dc h0) rfl;have k2:=fk 1 (rR (dl:=dl) (sk:=(aB sk)) (dc:=(aB dc)) h1) rfl;FV.frz (FMM.fi 0 ⟨[],[],[1],[]⟩ func19 [k1.o,bF,k2.o] (gc k2 (gc bPz (gc k1 gn)))) (by kernel_rfl)
def kX(dl:Int)(sk:Lqq)(dc:Lqq)(u0:Int)(u1:Int)(u2:Int)(u3:Int)(u4:Int)(u5:Int):St:=⟨fr 26 [(0,(.rp (aY dl sk dc) 0)),(3,(.ptr 0 0))],[some (.box 44 [(pI u0),(pI u1),(pI u2),(pI u3),(pI u4),(pI u5)])]⟩
theorem cFb(hl0:aE Tp 0 aFh (kX dl sk dc x0 x1 x2 x3 x4 x5) (.exit 0) (kX dl sk dc u0'0 u1'1 u2'2 u3'3 u4'4 u5'5)):FV Tp 128 [(.rp (aY dl sk dc) 0),(.p (dcE x0 x1 x2 x3 x4 x5))] base (pI u3'3) []:=FV.fi func128 [hl0.k 4 (gI [1,2,4,20] [0])] (gc hl0.code gn)
theorem cFc(hl0:aE Tp 0 aFh (kX dl sk dc x0 x1 x2 x3 x4 x5) .ret (bS (kX dl sk dc u0'0 u1'1 u2'2 u3'3 u4'4 u5'5) [(4,(pI 0))])):FV Tp 128 [(.rp (aY dl sk dc) 0),(.p (dcE x0 x1 x2 x3 x4 x5))] base (pI 0) []:=FV.fi func128 [hl0.k 4 (gI [1,2,4,20] [0])] (gc hl0.code gn)
theorem bHr{Aa Ab Ac Ad Ae Af:Int}(h0:(decide (u1≤4))=false)(h1:cP .i64 (atF dc.reverse) (.int .i64 u5))(h2:(dS (atF dc.reverse) (.int .i64 u5))=true)(h3:gB (atF dc.reverse) (.int .i64 u5)=some (dcE Aa Ab Ac Ad Ae Af)):aC Tp 0 aFh (kX dl sk dc u0 u1 u2 u3 u4 u5) .normal (kX dl sk dc Aa Ab Ac Ad Ae Af):=have k1:=fk 1 (eP u1) rfl;aC.fi (gI [1,2,4,20] [0]) [k1.o,bT,.x (.mp (atF dc.reverse)),bT,.x (dcE Aa Ab Ac Ad Ae Af)] (gc h3 (gc h2 (gc h1 (gr (.mp (atF dc.reverse)) (gc (bM h0) (gc k1 gn))))))
theorem aJd(h0:(decide (u1≤4))=false)(h1:cP .i64 (atF dc.reverse) (.int .i64 u5))(h2:(dS (atF dc.reverse) (.int .i64 u5))=false):aC Tp 0 aFh (kX dl sk dc u0 u1 u2 u3 u4 u5) .ret (bS (kX dl sk dc u0 u1 u2 u3 u4 u5) [(4,(pI 0))]):=have k1:=fk 1 (eP u1) rfl;aC.fi (gI [1,2,5,19] [0]) [k1.o,bT,.x (.mp (atF dc.reverse)),bF] (gc h2 (gc h1 (gr (.mp (atF dc.reverse)) (gc (bM h0) (gc k1 gn)))))
theorem aJe(h0:(decide (u1≤4))=true):aC Tp 0 aFh (kX dl sk dc u0 u1 u2 u3 u4 u5) (.exit 0) (kX dl sk dc u0 u1 u2 u3 u4 u5):=have k1:=fk 1 (eP u1) rfl;aC.fi (gI [1,2,4,20] [0]) [k1.o,bF] (gc (aV h0) (gc k1 gn))
end
section
def aFg(sk:Lqq)(bib:Int):Int:=bJ (fun x=>decide (bib=x)) (aQ sk 0)
theorem cEw{f:Lqq}{i:Nat}{c:Int}(h:(aQ f 0)[i]? = some c):∃ x,f[i]? = some x∧x.getD 0 0=c:=by
 unfold aQ at h
 rw [fR,lD] at h
 exact h
theorem bHq(sk:Lqq)(bib:Int):(∃ (i:Nat) (x:List Int),aFg sk bib=(i:Int)∧sk[i]? = some x∧x.getD 0 0=bib)∨(aFg sk bib = -1∧bib∉aQ sk 0):=by
 unfold aFg;cases h:(aQ sk 0).findIdx? (fun x=>decide (bib=x)) with
 | none =>
  refine .inr ⟨gS h,fun hm => ?_⟩
  have:=List.findIdx?_eq_none_iff.1 h bib hm;simp at this
 | some i =>
  rw [eF h];obtain ⟨h1,h2,_⟩:=List.findIdx?_eq_some_iff_getElem.1 h;have h3:(aQ sk 0)[i]? = some (aQ sk 0)[i]:=Av h1;obtain ⟨x,q1,q2⟩:=cEw h3;exact .inl ⟨i,x,rfl,q1,by rw [q2];exact (of_decide_eq_true h2).symm⟩
theorem cEx{dl:Int}{sk dc:Lqq}(h:bR dl sk dc):uni 2 (aB sk)∧(aB sk).length≤1000∧(aQ (aB sk) 0).length≤1000:=by
 have:=h.len;refine ⟨nI h.us,by rw [eG];omega,by rw [nC,eG];omega⟩
theorem bPw{dl:Int}{sk dc:Lqq}(h:bR dl sk dc){bib:Int}{i:Nat}{s0 s1:Int}(hp:aFg (aB sk) bib=(i:Int))(hs:(aB sk)[i]? = some [s0,s1]){base:Nat}:FV Tp 135 [.p (.agg (bB dl sk dc)),.p (aA bib)] base (.tup [qL dl (aB sk) (aB dc),.p (.agg [aA s0,aA s1]),.p (aA 0)]) []:=by
 obtain ⟨h1,h2,h3⟩:=cEx h;have Ja:bJ (fun x=>decide (bib=x)) (aQ (aB sk) 0)=(i:Int):=hp
 exact cEz h ⟨h1,h2⟩ h3 (by rw [Ja];omega) (by rw [Ja];simpa using hs) (by rw [Ja];omega) h1
theorem bPx{dl:Int}{sk dc:Lqq}(h:bR dl sk dc){base:Nat}:FV Tp 19 [.p (.agg (bB dl sk dc))] base (.tup [.p (aG (aP dl (aB dc))),.p (aA 0)]) []:=cFa h (dW h)
theorem aZv{q:Lqq}(hq:(q.map dN).Nodup):atF q=q.map fun x=>(.int .i64 (dN x),vI x):=by
 have key:∀ (q p:Lqq),((p++q).map dN).Nodup→q.foldl lQ (p.map fun x=>(.int .i64 (dN x),vI x))=(p++q).map fun x=>(.int .i64 (dN x),vI x):=by
  intro q
  induction q with
  | nil=>intro p _;simp
  | cons x q ih =>
   intro p h;rw [lE];have hn:dS (p.map fun x=>((.int .i64 (dN x),vI x):Value × PV)) (.int .i64 (dN x))=false:=by
    unfold dS;rw [List.any_eq_false];intro e he;obtain ⟨y,hy,rfl⟩:=Bs.1 he;rw [fM,List.nodup_append] at h
    have:=h.2.2 (dN y) (Bs.2 ⟨y,hy,rfl⟩) (dN x) (by simp)
    simpa [jO] using this
   have hst:lQ (p.map fun x=>((.int .i64 (dN x),vI x):Value × PV)) x=(p.map fun x=>((.int .i64 (dN x),vI x):Value × PV))++[(.int .i64 (dN x),vI x)]:=by
    unfold lQ;rw [hn,if_neg (by simp)]
   rw [hst];have e:(p.map fun x=>((.int .i64 (dN x),vI x):Value × PV))++[(.int .i64 (dN x),vI x)]=(p++[x]).map fun x=>((.int .i64 (dN x),vI x):Value × PV):=by simp
   have e2:p++x::q=(p++[x])++q:=by simp
   rw [e,ih (p++[x]) (by rw [← e2];exact h),e2]
 exact key q [] (by simpa using hq)
theorem aQi{dc:Lqq}(h:bN dc):(dc.reverse.map dN).Nodup:=by
 rw [List.map_reverse,List.Nodup,List.pairwise_reverse,List.pairwise_map];exact h.up.imp fun h=>by omega
theorem yH{dc:Lqq}(h:bN dc){n:Int}(hn:inR n):cP .i64 (atF dc.reverse) (.int .i64 n):=by
 have ha:zX (atF dc.reverse):=bQu fun x hx=>by have:=eQ h (zM.1 hx);omega
 refine ⟨ha.ky,?_,ha.nd⟩;show (decide (IntKind.i64=IntKind.i64) && (Lit.int .i64 n).wf)=true;have:(Lit.int .i64 n).wf=true:=by
  have e1:IntKind.i64.min = -9223372036854775808:=rfl;have e2:IntKind.i64.max=9223372036854775807:=rfl;unfold inR at hn
  show (decide _ && decide _)=true;rw [B7,decide_eq_true_eq,decide_eq_true_eq,e1,e2];omega
 rw [this];rfl
theorem aVp{dc:Lqq}(h:bN dc){x:List Int}(hx:x∈dc):dS (atF dc.reverse) (.int .i64 (dN x))=true∧gB (atF dc.reverse) (.int .i64 (dN x))=some (vI x):=by
 rw [aZv (aQi h)];have hf:dc.reverse.find? (fun y=>decide (dN y=dN x))=some x:=by
  cases hf:dc.reverse.find? (fun y=>decide (dN y=dN x)) with
  | none =>
   have:=aEm.1 hf x (zM.2 hx);simp at this
  | some y =>
   have h1:=sH hf;have h2:dN y=dN x:=by simpa using aPp hf
   rw [aCo h (zM.1 h1) hx h2]
 constructor
 ·unfold dS
  rw [List.any_map];exact List.any_eq_true.2 ⟨x,zM.2 hx,by simp [jO]⟩
 ·unfold gB
  rw [List.find?_map];have e:(fun e:Value × PV=>decide (jO e.1=jO (Value.int IntKind.i64 (dN x)))) ∘ (fun x:List Int=>((Value.int .i64 (dN x),vI x):Value × PV))=fun y=>decide (dN y=dN x):=rfl
  rw [e,hf];rfl
theorem aZw{dc:Lqq}(h:bN dc){n:Int}(hn:∀ x∈dc,dN x≠n):dS (atF dc.reverse) (.int .i64 n)=false:=by
 rw [aZv (aQi h)];unfold dS;rw [List.any_map,List.any_eq_false];intro x hx;have:=hn x (zM.1 hx);show ¬ (decide (dN x=n))=true;simpa using this
def ofN(dc:Lqq)(n:Int):Option (List Int):=dc.find? fun x=>dN x == n
theorem tQ{dc:Lqq}{n:Int}{x:List Int}(h:ofN dc n=some x):x∈dc∧dN x=n:=⟨sH h,by simpa using aPp h⟩
theorem aQj{dc:Lqq}{n:Int}(h:ofN dc n=none):∀ x∈dc,dN x≠n:=fun x hx=>by simpa using aEm.1 h x hx
theorem aCn{dc:Lqq}(hd:bN dc){x:List Int}(hx:x∈dc):ofN dc (dN x)=some x:=by
 cases h:ofN dc (dN x) with
 | none=>exact absurd rfl (aQj h x hx)
 | some y=>obtain ⟨h1,h2⟩:=tQ h;rw [aCo hd h1 hx h2]
def mB(dc:Lqq):Nat→List Int→Int
 | 0,_=>0
 | k+1,x=>if dK x≤4 then dB x else match ofN dc (dAb x) with
  | some y=>mB dc k y
  | none=>0
def mC(dc:Lqq)(x:List Int):Int:=mB dc (10000+1) x
theorem cEy{dl:Int}{sk dc:Lqq}(hd:bN dc):∀ (k:Nat) (a b c d e f:Int),inR f→([a,b,c,d,e,f]∈dc∨b≤4∨∀ y∈dc,dN y≠f)→a<(k:Int) →
  (∃ a' b' c' d' e' f',mB dc (k+1) [a,b,c,d,e,f]=d'∧aE Tp 0 (sub (cd Tryz.f128) [1,0,0,0]) (kX dl sk dc a b c d e f) (.exit 0) (kX dl sk dc a' b' c' d' e' f')) ∨
  (mB dc (k+1) [a,b,c,d,e,f]=0∧∃ a' b' c' d' e' f',aE Tp 0 (sub (cd Tryz.f128) [1,0,0,0]) (kX dl sk dc a b c d e f) .ret (bS (kX dl sk dc a' b' c' d' e' f') [(4,.p (aA 0))])):=by
 intro k
 induction k with
 | zero =>
  intro a b c d e f hf hm hk
  by_cases h4:b≤4
  ·refine .inl ⟨a,b,c,d,e,f,?_,.exit (aJe (decide_eq_true h4)) (by simp)⟩
   unfold mB;rw [if_pos (show dK [a,b,c,d,e,f]≤4 from h4)];rfl
  ·rcases hm with hm | hm | hm
   ·have:1≤a:=(eQ hd hm).1
    omega
   ·exact absurd hm h4
   ·refine .inr ⟨?_,a,b,c,d,e,f,.exit (aJd (decide_eq_false h4) (yH hd hf) (aZw hd hm)) (by simp)⟩
    unfold mB;rw [if_neg (show ¬ dK [a,b,c,d,e,f]≤4 from h4)]
    have:ofN dc (dAb [a,b,c,d,e,f])=none:=by
     cases h:ofN dc (dAb [a,b,c,d,e,f]) with
     | none=>rfl
     | some y=>exact absurd (tQ h).2 (hm y (tQ h).1)
    rw [this]
 | succ k ih =>
  intro a b c d e f hf hm hk
  by_cases h4:b≤4
  ·refine .inl ⟨a,b,c,d,e,f,?_,.exit (aJe (decide_eq_true h4)) (by simp)⟩
   unfold mB;rw [if_pos (show dK [a,b,c,d,e,f]≤4 from h4)];rfl
  ·have hu:mB dc (k+1+1) [a,b,c,d,e,f]=match ofN dc (dAb [a,b,c,d,e,f]) with | some y=>mB dc (k+1) y | none=>0:=by
    conv=>lhs;unfold mB
    rw [if_neg (show ¬ dK [a,b,c,d,e,f]≤4 from h4)]
   rw [hu];cases h:ofN dc (dAb [a,b,c,d,e,f]) with
   | none=>exact .inr ⟨rfl,a,b,c,d,e,f,.exit (aJd (decide_eq_false h4) (yH hd hf) (aZw hd (aQj h))) (by simp)⟩
   | some y =>
    obtain ⟨h1,h2⟩:=tQ h
    rcases hm with hm | hm | hm
    ·obtain ⟨h3,h5⟩:=aVp hd h1
     rw [h2] at h3 h5
     have ho:=hd.ord _ hm;unfold orB at ho
     rw [if_neg (show ¬ [a,b,c,d,e,f].getD 1 0≤4 from h4)] at ho
     have Kj:=bV.1 ho;have ho3:f≤a-1:=Kj.2;obtain ⟨y0,y1,y2,y3,y4,y5,rfl⟩:=A6 (hd.ud y h1);have Gj:y0=f:=h2;have U3:=nJ hd _ h1;have hst:=bHr (dl:=dl) (sk:=sk) (dc:=dc) (u0:=a) (u1:=b) (u2:=c) (u3:=d) (u4:=e) (u5:=f) (decide_eq_false h4) (yH hd hf) h3 h5
     rcases ih y0 y1 y2 y3 y4 y5 (by have q1:0≤y5:=U3.1;have q2:y5≤9998:=U3.2;unfold inR;omega) (.inl h1) (by omega) with ⟨a',b',c',d',e',f',q1,q2⟩ | ⟨q1,a',b',c',d',e',f',q2⟩
     ·exact .inl ⟨a',b',c',d',e',f',q1,.step hst q2⟩
     ·exact .inr ⟨q1,a',b',c',d',e',f',.step hst q2⟩
    ·exact absurd hm h4
    ·exact absurd h2 (hm y h1)
theorem bPy{dl:Int}{sk dc:Lqq}(hd:bN dc){a b c d e f:Int}(hf:inR f)(hm:[a,b,c,d,e,f]∈dc∨b≤4∨∀ y∈dc,dN y≠f)(ha:a≤9999){base:Nat}:FV Tp 128 [qL dl sk dc,.p (.agg [aA a,aA b,aA c,aA d,aA e,aA f])] base (.p (aA (mC dc [a,b,c,d,e,f]))) []:=by
 unfold mC
 rcases cEy (dl:=dl) (sk:=sk) hd 10000 a b c d e f hf hm (by omega) with ⟨a',b',c',d',e',f',q1,q2⟩ | ⟨q1,a',b',c',d',e',f',q2⟩
 ·rw [q1];exact cFb q2
 ·rw [q1];exact cFc q2
end
section
theorem cBk(dl:Int)(q:List Int)(x:List Int)(T:List DS):cT dl (mkS dl q x T)=(iC dl x,(nR x (!iC dl x) (cX T (dN x))).1,eY (dK x) && ((nR x (!iC dl x) (cX T (dN x))).1 && !(nR x (!iC dl x) (cX T (dN x))).2.2.2.2.2),
  (nR x (!iC dl x) (cX T (dN x))).2.1 || (!(nR x (!iC dl x) (cX T (dN x))).2.2.2.2.2 && q.contains (dN x)),(nR x (!iC dl x) (cX T (dN x))).2.2.1,(nR x (!iC dl x) (cX T (dN x))).2.2.2.1,(nR x (!iC dl x) (cX T (dN x))).2.2.2.2.1):=by
 unfold cT mkS nR;dsimp only;cases h1:(cX T (dN x)).find? prB with
 | none=>cases h2:(cX T (dN x)).find? pcB with
  | none=>simp [uOf,mOf,nOf]
  | some z=>simp [uOf,mOf,nOf]
 | some y=>cases h2:(cX T (dN x)).find? pcB with
  | none=>simp [uOf,mOf,nOf]
  | some z=>simp [uOf,mOf,nOf]
section
variable {dl:Int} {sk dc:Lqq} {q:List Int}
theorem bZy{dc:Lqq}(hd:bN dc){x:List Int}(hx:x∈dc):dK x≤9:=by
 have:=iB.1 (hd.rng x hx);exact this.2.1.2
theorem bEl(hd:bN dc){a r:Lqq}{Aa Ab Ac Ad Ae Af:Int}(hdc:dc=a++[Aa,Ab,Ac,Ad,Ae,Af]::r)(c0:Bool){LL:List RS}(hLL:LL=List.replicate (a.length+1) N0++(bK dl q r).map (cT dl))(l aa:Bool){A:Acc}(hA:A=nR [Aa,Ab,Ac,Ad,Ae,Af] c0 (cX (bK dl q r) Aa)) :
  aE Tp 0 (sub (cd Tryz.f75) [1,1,0,1,0,0,1,0,0,1,1,1,1,1,1,0,1,0,0]) (cG dl sk dc q (a.length:Int) LL Aa Ab Ac Ad Ae Af ((LL.length:Int)-(1:Int)) l aa c0 false Ae 0 0 false) (.exit 2) (cG dl sk dc q (a.length:Int) LL Aa Ab Ac Ad Ae Af (a.length:Int) l aa A.1 A.2.1 A.2.2.1 A.2.2.2.1 A.2.2.2.2.1 A.2.2.2.2.2):=by
 have A2:LL.length=a.length+1+r.length:=by rw [hLL];simp [jR]
 have Dc:dc.length=a.length+1+r.length:=by rw [hdc];simp;omega
 have hlen:=hd.len;have hrm:∀ s∈bK dl q r,1≤dN s.x∧dK s.x≤9:=fun s hs=>by
  have hm:s.x∈dc:=by
   have:s.x∈r:=by
    have:=bCv (f:=fun s:DS=>s.x) hs
    rwa [rQ] at this
   rw [hdc];exact aBw _ (Cj _ this)
  exact ⟨(eQ hd hm).1,bZy hd hm⟩
 have V5:dK [Aa,Ab,Ac,Ad,Ae,Af]≤9:=bZy hd (by rw [hdc];simp)
 have:=aE.range (P:=Tp) (k:=0) (b:=sub (cd Tryz.f75) [1,1,0,1,0,0,1,0,0,1,1,1,1,1,1,0,1,0,0]) (e := .exit 2) (fun t (A:Acc)=>cG dl sk dc q (a.length:Int) LL Aa Ab Ac Ad Ae Af ((LL.length:Int)-1-(t:Int)) l aa A.1 A.2.1 A.2.2.1 A.2.2.2.1 A.2.2.2.2.1 A.2.2.2.2.2)
  (fun A=>cG dl sk dc q (a.length:Int) LL Aa Ab Ac Ad Ae Af (a.length:Int) l aa A.1 A.2.1 A.2.2.1 A.2.2.2.1 A.2.2.2.2.1 A.2.2.2.2.2) (aUh (dN [Aa,Ab,Ac,Ad,Ae,Af]) (dK [Aa,Ab,Ac,Ad,Ae,Af])) (fun _ _=>True) (by simp) (bK dl q r).reverse (a0:=(c0,false,dMu [Aa,Ab,Ac,Ad,Ae,Af],0,0,false)) trivial
  (fun t s A hs _=>by
   refine ⟨trivial,?_⟩;have ht:=aO hs;rw [bUg,jR] at ht
   have Cl:(bK dl q r)[r.length-1-t]? = some s:=by
    rw [List.getElem?_reverse (by rw [jR];exact ht),jR] at hs
    exact hs
   have hr:r[r.length-1-t]? = some s.x:=by
    have:=congrArg (fun l=>l[r.length-1-t]?) (rQ dl q r)
    simp only [fR,Cl] at this
    exact this.symm
   have hdcj:dc[a.length+1+(r.length-1-t)]? = some s.x:=by
    rw [hdc,show a++[Aa,Ab,Ac,Ad,Ae,Af]::r=(a++[[Aa,Ab,Ac,Ad,Ae,Af]])++r by simp,yD (by simp)]
    simp only [iF,nX,List.length_nil];rw [show a.length+1+(r.length-1-t)-(a.length+(0+1))=r.length-1-t by omega]
    exact hr
   have hLj:LL[a.length+1+(r.length-1-t)]? = some (cT dl s):=by
    rw [hLL,yD (by simp),List.length_replicate,Nat.add_sub_cancel_left,fR,Cl]
    rfl
   obtain ⟨z0,z1,z2,z3,z4,z5,hz⟩:=A6 (hd.ud _ (Bi hdcj));have hkt:((LL.length:Int)-1-(t:Int)).toNat=a.length+1+(r.length-1-t):=by omega
   have e:((LL.length:Int)-1-((t+1:Nat):Int))=(LL.length:Int)-1-(t:Int)-1:=by omega
   rw [hz] at hdcj
   show aC Tp 0 _ _ .normal (cG dl sk dc q (a.length:Int) LL Aa Ab Ac Ad Ae Af ((LL.length:Int)-1-((t+1:Nat):Int)) l aa _ _ _ _ _ _);rw [e];unfold aUh;rw [hz];exact bUu (by omega) (by rw [hkt];exact hdcj) (by omega) hd.ud (by omega) (by rw [hkt];exact hLj) (by unfold inR;omega))
  (fun A _=>by
   have e:((LL.length:Int)-1-(((bK dl q r).reverse.length:Nat):Int))=(a.length:Int):=by
    rw [bUg,jR];omega
   show aC Tp 0 _ (cG dl sk dc q (a.length:Int) LL Aa Ab Ac Ad Ae Af ((LL.length:Int)-1-(((bK dl q r).reverse.length:Nat):Int)) l aa _ _ _ _ _ _) _ _;rw [e];exact aUr (bCw _))
 rw [aPv V5 c0 hrm] at this
 rw [hA];have e0:((LL.length:Int)-1-((0:Nat):Int))=(LL.length:Int)-1:=by omega
 simp only [e0] at this
 exact this
theorem aUf(hd:bN dc)(hq:q.length≤1000){base:Nat}:FV Tp 75 [.p (.agg (bB dl sk dc)),.p (aG q)] base (.own base) [(base,.row 121 ((bK dl q dc).map (cT dl)).length ((((bK dl q dc).map (cT dl)).map rsE).flatten))]:=by
 have hlen:=hd.len;obtain ⟨L,hI,hL⟩:=aE.ex (P:=Tp) (k:=0) (b:=sub (cd Tryz.f75) [1,1,0,1,0,0]) (e := .exit 0) (fun t (L:List RS)=>gX dl sk dc q ((dc.length:Int)-1-(t:Int)) L.length ((L.map rsE).flatten)) (fun L=>gX dl sk dc q (-1) L.length ((L.map rsE).flatten))
  (fun t L=>L=List.replicate (dc.length-t) N0++(bK dl q (dc.drop (dc.length-t))).map (cT dl)) (by simp) dc.length
  (fun t L ht hL=>by
   have hi:dc.length-1-t<dc.length:=by omega
   have hdc:dc=dc.take (dc.length-1-t)++dc[dc.length-1-t]::dc.drop (dc.length-1-t+1):=by rw [← aKx hi,aPm]
   have hal:(dc.take (dc.length-1-t)).length=dc.length-1-t:=by rw [mJ];omega
   have hmem:=fL hi;obtain ⟨y0,y1,y2,y3,y4,y5,hy⟩:=A6 (hd.ud _ hmem);rw [hy] at hdc
   have hx:dc[dc.length-1-t]? = some [y0,y1,y2,y3,y4,y5]:=by rw [Av hi,hy]
   have hLL:L=List.replicate ((dc.take (dc.length-1-t)).length+1) N0++(bK dl q (dc.drop (dc.length-1-t+1))).map (cT dl):=by
    rw [hL,hal];rw [show dc.length-t=dc.length-1-t+1 by omega]
   have hll:L.length=dc.length:=by
    rw [hLL,hal];simp [jR];omega
   have hst:=bPa (dl:=dl) (sk:=sk) (dc:=dc) (q:=q) (i:=((dc.take (dc.length-1-t)).length:Int)) (L:=L) (lt:=iC dl [y0,y1,y2,y3,y4,y5]) (A:=nR [y0,y1,y2,y3,y4,y5] (!iC dl [y0,y1,y2,y3,y4,y5]) (cX (bK dl q (dc.drop (dc.length-1-t+1))) y0)) rfl (by omega) (by rw [aPo,hal];exact hx) hd.ud (by omega) (by omega)
    (fun l aa=>bEl hd hdc _ hLL l aa rfl) (fun l c m b f o u=>bUt l c m b f _ o u hq)
   rw [aPo] at hst
   refine ⟨L.set (dc.take (dc.length-1-t)).length (cT dl (mkS dl q [y0,y1,y2,y3,y4,y5] (bK dl q (dc.drop (dc.length-1-t+1))))),?_,?_⟩
   ·rw [hLL,cBl,hal,show dc.length-(t+1)=dc.length-1-t by omega]
    have:dc.drop (dc.length-1-t)=[y0,y1,y2,y3,y4,y5]::dc.drop (dc.length-1-t+1):=by rw [aKx hi,hy]
    rw [this];rfl
   ·have e1:((dc.length:Int)-1-(t:Int))=((dc.take (dc.length-1-t)).length:Int):=by omega
    have e2:((dc.length:Int)-1-((t+1:Nat):Int))=((dc.take (dc.length-1-t)).length:Int)-1:=by omega
    simp only [e1,e2];rw [cBk];exact hst)
  (fun L _=>by
   have e:((dc.length:Int)-1-(dc.length:Int)) = -1:=by omega
   simp only [e];exact bEs (by decide)) (acc:=List.replicate dc.length N0) (by simp [bK])
 rw [aTt,List.drop_zero,List.replicate_zero,List.nil_append] at hI
 rw [← hI];have e0:((dc.length:Int)-1-((0:Nat):Int))=(dc.length:Int)-1:=by omega
 simp only [e0,List.length_replicate,List.map_replicate] at hL
 exact cBm ⟨by omega,by omega,by omega⟩ (by unfold inR;omega) hL
end
end
end KV
end Go.Proofs
section
namespace Go.Proofs
open Go.RowKit
namespace KV
open Tryz
variable {P:Program} {n:Nat}
def aJl{α:Type}(F:Fence)(n:Nat)(P:Program)(g:Nat)(lb:Array Value)(encs:α→Array Value)(R:α→World→World→Prop)(Kp:World→World→Prop)(S Sp:List α→Prop)(N:Nat)(w:World):Prop :=
 ∀ (l:Nat) (J Jx:List α→World→Prop) (W:World),Below w.heap.size w W→AbidesFrom W.heap.size J→AbidesFrom W.heap.size Jx →
  (∀ pre x W0 W1,J pre W0→W0.grownBy W1 none→R x W0 W1→pre.length<N→YieldAt F (n-1) P l (encs x) W1 fun e W' =>
   (e = .returned (.bool true)∧J (pre++[x]) W'∧Kp W0 W')∨(e = .returned (.bool false)∧Jx (pre++[x]) W')) →
  J [] W →
  CallsIn F n P g (#[.func (.yield l) #[] #[]]++lb) W fun e W'=>(∃ v,e = .returned v)∧((∃ xs,S xs∧J xs W')∨(∃ pre,Sp pre∧Jx pre W'))

def bRx{α:Type}(B:Nat)(Kp:World→World→Prop)(I:List α→World→Prop)(Ix:Code→List α→World→Prop)(xs:List α)(V W:World):Exit→Act→World→Prop
 | .normal,_,W'=>KeepsFrom B W W'∧Kp V W'∧I xs W'
 | .ret,_,W'=>KeepsFrom B W W'∧Ix .ret xs W'
 | .exit id,_,W'=>KeepsFrom B W W'∧Ix (.exit id) xs W'
 | .goto t,_,W'=>KeepsFrom B W W'∧Ix (.goto t) xs W'
 | .panic _,_,_=>False
 | .outgrown,_,_=>False

theorem vL{α:Type}{F:Fence}{g:Operand}{ps:Array Tmp}{assign body:Code}{Q:Exit→Act→World→Prop}{a:Act}{w:World}
  (hro:F.round=none) (h1:1≤n) {gf:Nat} {lb:Array Value} (hg:a.eval g = .func (.func gf) #[] lb) (hFg:F.fn gf) (eg:∀ args w,(callFunc gf args).run P w = .ok (.enter gf args) w)
  {encs:α→Array Value} {R:α→World→World→Prop} {Kp:World→World→Prop} {S Sp:List α→Prop} {N:Nat} {w0:World} (hseq:aJl F (n-1) P gf lb encs R Kp S Sp N w0)
  (hKt:∀ {A B C:World},Kp A B→Kp B C→Kp A C) (hKb:∀ (W:World) (l:Nat) (o o':Obj),w.heap.size≤l→W.heap[l]? = some o→o.isCells=false→o.isWalk=false→Kp W (W.putObj l o')) (Qr:Below w0.heap.size w0 w) (hps:∀ x,(encs x).size=ps.size)
  (I:List α→World→Prop) (Ix:Code→List α→World→Prop) (hI:OwnFrom w.heap.size I) (hIx:∀ c,OwnFrom w.heap.size (Ix c)) (h0:I [] w) (Ax:List α→α→World→Act→World→Prop) (hAx:∀ pre x V a',OwnFrom w.heap.size (fun (_:Unit) W=>Ax pre x V a' W))
  (hassign:∀ (l:Nat) (pre:List α) (x:α) (V W:World) (K:Act→World→Prop),I pre V→V.grownBy W none→R x V W→(∀ a' W',KeepsFrom w.heap.size W W'→Ax pre x V a' W'→K a' W') →
   assign.wpIn (F.inRound l) (n-1-1) P (Exit.then K (fun _ _ _=>False)) { tmps:=(ps.zip (encs x)).foldl (fun t (p,v)=>t.setIfInBounds p v) a.tmps,defers:=[] } W)
  (hbody:∀ (l:Nat) (pre:List α) (x:α) (a':Act) (V W:World),w.heap.size≤l→(∃ r,W.heap[l]? = some (.loop r))→Ax pre x V a' W→pre.length<N→body.wpIn (F.inRound l) (n-1-1) P (bRx w.heap.size Kp I Ix (pre++[x]) V W) a' W)
  (hdone:∀ (D:Nat) (xs:List α) (W:World),w.heap.size≤D→S xs→I xs W→W.heap[D]? = some (.deferred (some []))→Q .normal { a with defers:={ target := .collected D,args := #[] }::a.defers } W)
  (hstop:∀ (D:Nat) (c:Code) (pre:List α) (W:World),w.heap.size≤D→Sp pre→Ix c pre W→W.heap[D]? = some (.deferred (some []))→c.wpIn F n P Q { a with defers:={ target := .collected D,args := #[] }::a.defers } W) :
  (Code.rangeFunc g ps assign body).wpIn F n P Q a w:=by
 refine wpIn_rangeFunc fun fn hfn => ?_
 rw [hro];obtain ⟨rc,hrc⟩:∃ rc:LoopState→Option Code→Loop,rc=fun st pe=>{ state:=st,pending:=pe,fn,tmps:=a.tmps,params:=ps,assign,body,defers:=w.heap.size }:=⟨_,rfl⟩
 obtain ⟨W1,Jd⟩:∃ W1,(w.alloc (.deferred (some []))).alloc (.loop (rc .ready none))=W1:=⟨_,rfl⟩;have hsz:W1.heap.size=w.heap.size+2:=by rw [← Jd];simp
 have X3:W1.heap[w.heap.size+1]? = some (.loop (rc .ready none)):=by
  have:=World.alloc_heap_new (w.alloc (.deferred (some []))) (.loop (rc .ready none));rw [World.size_alloc] at this
  rw [← Jd];exact this
 have Ty:W1.heap[w.heap.size]? = some (.deferred (some [])):=by
  rw [← Jd];exact (Below.heap_alloc _ _ _ (by simp)).trans (World.alloc_heap_new w _)
 have X4:I [] W1:=by rw [← Jd];exact hI.alloc _ (hI.alloc _ h0)
 have Dd:Below w0.heap.size w0 W1:=by
  rw [← Jd];exact Qr.trans ((((Below.refl _ w).alloc (dG _) _).alloc (by simp) _).mono Qr.size)
 let Bk (st:LoopState) (pe:Option Code) (W:World):Prop:=W.heap[w.heap.size+1]? = some (.loop (rc st pe))∧W.heap[w.heap.size]? = some (.deferred (some []))
 have bkKeep:∀ {st:LoopState} {pe:Option Code} {A B:World} {row:Option Nat},Bk st pe A→A.grownBy B row→(∀ r,row=some r→∃ o:Obj,A.heap[r]? = some o∧o.isWalk=true)→Bk st pe B:=fun hs Ic hr =>
  ⟨(grownBy_keeps Ic hr hs.1 rfl).trans hs.1,(grownBy_keeps Ic hr hs.2 rfl).trans hs.2⟩
 have walkOwn:∀ {A:World} {row:Option Nat},(∀ r,row=some r→W1.heap.size≤r∧∃ o:Obj,A.heap[r]? = some o∧o.isWalk=true)→∀ r,row=some r→w.heap.size≤r∧∃ o:Obj,A.heap[r]? = some o∧o.isCells=false:=fun hr r e=>by
  obtain ⟨hB,o,ho,hw⟩:=hr r e;exact ⟨by omega,o,ho,Obj.not_cells_of_walk hw⟩
 refine ⟨w.heap.size+1,[{ target := .collected w.heap.size,args := #[] }],W1,{ target := .fn (.func gf) lb,args := #[.func (.yield (w.heap.size+1)) #[] #[]] },W1,gf,
  #[.func (.yield (w.heap.size+1)) #[] #[]]++lb,W1,?_,?_,?_,?_,fun _=>h1,?_⟩
 ·rw [← Jd,hrc];exact run_enterLoop_outer _ _ _ _ _
 ·simp only [resolve,hg]
  simp [go_sem]
 ·intro f' Vi;simp [Target.leads] at Vi;subst Vi;exact hFg
 ·simp [invoke,go_sem,eg]
 ·refine (hseq (w.heap.size+1) (fun pre W=>I pre W∧Bk .ready none W) (fun pre W=>∃ c,Ix c pre W∧Bk .done (some c) W) W1 Dd
   (fun s A B row hs Ic hr=>⟨hI s A B row hs.1 Ic (walkOwn hr),bkKeep hs.2 Ic fun r e=>(hr r e).2⟩)
   (fun s A B row hs Ic hr=>by
    obtain ⟨c,hc,hb⟩:=hs;exact ⟨c,hIx c s A B row hc Ic (walkOwn hr),bkKeep hb Ic fun r e=>(hr r e).2⟩)
   ?_ ⟨X4,X3,Ty⟩).mono ?_
  ·-- a round
   rintro pre x V W ⟨hi,hbk⟩ Ic hR hlen;have hbW:=bkKeep hbk Ic (fun r e=>by cases e)
   have hlt:w.heap.size+1<W.heap.size:=(nA.1 hbW.1).1;have hy:=run_yield (P:=P) (args:=encs x) hbW.1 (by rw [hrc];exact hps x)
   rw [hrc] at hy
   refine ⟨fn,_,assign,body,hy,roundIn_of_wpIn hfn (hassign _ pre x V W _ hi Ic hR ?_)⟩;clear hy;intro a' Wa hkf hax;have hl:=hkf.same _ _ (by omega) hbW.1 rfl
   have hk:=hkf.same _ _ (dG _) hbW.2 rfl;have hlta:w.heap.size+1<Wa.heap.size:=(nA.1 hl).1;refine ⟨_,run_beginRound hl (by rw [hrc]),?_⟩
   have Dc:(Wa.putObj (w.heap.size+1) (.loop { rc .ready none with state := .busy })).heap[w.heap.size+1]? = some (.loop { rc .ready none with state := .busy }):=World.putObj_heap_same hlta
   have Fg:(Wa.putObj (w.heap.size+1) (.loop { rc .ready none with state := .busy })).heap[w.heap.size]? = some (.deferred (some [])):=(World.putObj_heap_other (by omega)).trans hk
   refine wpIn_mono (hbody _ pre x a' V _ (by omega) ⟨_,Dc⟩ ((hAx pre x V a').putObj (s:=()) _ hax (by omega) hl rfl) hlen) ?_
   have fin:∀ (jump:Option Code) (W3:World),KeepsFrom w.heap.size (Wa.putObj (w.heap.size+1) (.loop { rc .ready none with state := .busy })) W3 →
     (Instr.endRound (w.heap.size+1) jump).run P W3 = .ok (.bool jump.isNone) (W3.putObj (w.heap.size+1) (.loop (rc (if jump.isNone then .ready else .done) jump))) ∧
     W3.heap[w.heap.size+1]? = some (.loop { rc .ready none with state := .busy })∧Bk (if jump.isNone then .ready else .done) jump (W3.putObj (w.heap.size+1) (.loop (rc (if jump.isNone then .ready else .done) jump))):=fun jump W3 I4=>by
    have Cn:=I4.same _ _ (by omega) Dc rfl
    have hrun:=run_endRound (P:=P) jump Cn;rw [hrc] at hrun
    refine ⟨by rw [hrc];exact hrun,Cn,?_⟩
    exact ⟨World.putObj_heap_same (nA.1 Cn).1,(World.putObj_heap_other (by omega)).trans (I4.same _ _ (dG _) Fg rfl)⟩
   rintro e a3 W3 hp;cases e with
   | normal =>
    obtain ⟨I4,T8,Ll⟩:=hp;obtain ⟨hr,Cn,Nr⟩:=fin none W3 I4;exact ⟨_,_,hr,.inl ⟨rfl,⟨hI.putObj _ Ll (by omega) Cn rfl,Nr⟩,hKt T8 (hKb _ _ _ _ (by omega) Cn rfl rfl)⟩⟩
   | ret =>
    obtain ⟨I4,Ll⟩:=hp;obtain ⟨hr,Cn,Nr⟩:=fin (some .ret) W3 I4;exact ⟨_,_,hr,.inr ⟨rfl,.ret,(hIx _).putObj _ Ll (by omega) Cn rfl,Nr⟩⟩
   | exit id =>
    obtain ⟨I4,Ll⟩:=hp;obtain ⟨hr,Cn,Nr⟩:=fin (some (.exit id)) W3 I4;exact ⟨_,_,hr,.inr ⟨rfl,.exit id,(hIx _).putObj _ Ll (by omega) Cn rfl,Nr⟩⟩
   | goto t =>
    obtain ⟨I4,Ll⟩:=hp;obtain ⟨hr,Cn,Nr⟩:=fin (some (.goto t)) W3 I4;exact ⟨_,_,hr,.inr ⟨rfl,.goto t,(hIx _).putObj _ Ll (by omega) Cn rfl,Nr⟩⟩
   | panic ch=>exact hp.elim
   | outgrown=>exact hp.elim
  ·-- behind the iterator
   rintro e W2 ⟨⟨v,rfl⟩,(⟨xs,hS,hi,hb⟩ | ⟨pre,hSp,c,hi,hb⟩)⟩
   ·have:=run_endLoop (P:=P) hb.1 (by rw [hrc];simp)
    rw [hrc] at this
    exact ⟨none,_,this,hdone _ xs _ (dG _) hS (hI.putObj _ hi (by omega) hb.1 rfl) ((World.putObj_heap_other (by omega)).trans hb.2)⟩
   ·have:=run_endLoop (P:=P) hb.1 (by rw [hrc];simp)
    rw [hrc] at this
    exact ⟨some c,_,this,hstop _ c pre _ (dG _) hSp ((hIx c).putObj _ hi (by omega) hb.1 rfl) ((World.putObj_heap_other (by omega)).trans hb.2)⟩
end KV
end Go.Proofs
end
section
namespace Go.Proofs
open Go.RowKit
namespace KV
open Tryz
variable {P:Program} {C C0:Cx} {M M0:Mem} {w w0:World}
abbrev nD(l:List Int):AO := .row 3 l.length (l.map aA)
def bRu(P:Program)(x:List Int × Value)(W0 W1:World):Prop:=x.1.length≤1000∧∃ C1:Cx,aT P C1 [some (nD x.1)] W1∧Rep C1 [some (nD x.1)] W1 (.own 0) x.2∧∀ b,C1.ι 0=some b→W0.heap.size≤b

theorem qT{W0 W1:World}(hg:W0.grownBy W1 none)(b:Nat)(hb:b<W0.heap.size):W1.heap[b]? = W0.heap[b]? := hg.block b hb (fun e=>by cases e)
theorem bRv{M':Mem}{W0 W1:World}{x:List Int × Value}(hM:aT P C M' W0)(hg:W0.grownBy W1 none)(hR:bRu P x W0 W1) :
  ∃ C2,aT P C2 (M'++[some (nD x.1)]) W1∧Fr C M' W0 C2 (M'++[some (nD x.1)]) W1∧Rep C2 (M'++[some (nD x.1)]) W1 (.own M'.length) x.2:=by
 obtain ⟨_,C1,h1,h2,h3⟩:=hR
 let C2:Cx:={ ι:=fun i=>if i=M'.length then C1.ι 0 else C.ι i,κ:=fun i=>if i=M'.length then C1.κ 0 else C.κ i,F:=C.F }
 have old:∀ (i:Nat) (o:AO),M'[i]? = some (some o)→i<M'.length∧(M'++[some (nD x.1)])[i]? = some (some o)∧C2.ι i=C.ι i∧C2.κ i=C.κ i:=fun i o h=>by
  have hl:=(B3.1 h).1;refine ⟨hl,by rw [zL hl];exact h,if_neg (by omega),if_neg (by omega)⟩
 have cls:∀ (i:Nat) (o:AO),(M'++[some (nD x.1)])[i]? = some (some o)→M'[i]? = some (some o)∨(i=M'.length∧o=nD x.1):=fun i o h=>by
  rcases Nat.lt_or_ge i M'.length with hl | hl
  ·rw [zL hl] at h;exact .inl h
  ·rw [yD hl] at h
   cases hd:i-M'.length with
   | zero =>
    rw [hd] at h
    simp at h
    exact .inr ⟨by omega,h.symm⟩
   | succ j=>rw [hd] at h;simp at h
 have new:C2.ι M'.length=C1.ι 0∧C2.κ M'.length=C1.κ 0:=⟨if_pos rfl,if_pos rfl⟩;have f:Fr C M' W0 C2 (M'++[some (nD x.1)]) W1:=by
  refine ⟨hg.os,hg.tape,hg.output,hg.size,fun b hb _=>qT hg b hb,fun i o h => ?_,fun i o h ty n cs hm => ?_,fun i o h o' h' hl => ?_,fun i o b h hl hb => ?_,fun b h=>h,fun b h => .inl h⟩
  ·obtain ⟨_,q1,q2,q3⟩:=old i o h
   exact ⟨⟨o,q1⟩,q2,q3⟩
  ·rw [(old i o h).2.1] at hm;cases hm;exact ⟨cs,h⟩
  ·rw [(old i o h).2.1] at h';cases h';exact hl
  ·rcases cls i o h with q | ⟨rfl,rfl⟩
   ·rw [(old i o q).2.2.1] at hb;exact .inr ⟨i,o,q,hl,hb⟩
   ·rw [new.1] at hb;exact .inl (h3 b hb)
 have hL:=hM.le f;have Xx:=h1.row 0 3 x.1.length (x.1.map aA) rfl;refine ⟨C2,⟨fun i ty n cs hm => ?_,fun i ty cs hm => ?_,fun i es cl hm => ?_,fun i i' o1 o2 b q1 l1 q2 l2 e1 e2 => ?_,fun i o b hm hl hb => ?_,fun b hb=>fY (hM.Fs b hb) hg.size,fun i o b hm hl hb => ?_⟩,f,?_⟩
 ·rcases cls i _ hm with q | ⟨rfl,q⟩
  ·obtain ⟨hlt,_,q2,q3⟩:=old i _ q
   rw [q2,q3]
   rcases hM.row _ _ _ _ q with h4 | ⟨b,arr,inf,p0,p1,p2,p3,p4,p5,p6,p7,p8⟩
   ·exact .inl h4
   ·exact .inr ⟨b,arr,inf,p0,by rw [qT hg b (hM.lt i _ b q rfl p0)];exact p1,p2,p3,p4,p5,p6,fun j hj=>(p7 j hj).mono hL.F hL.fz,p8⟩
  ·cases q
   rw [new.1,new.2]
   rcases Xx with h4 | ⟨b,arr,inf,p0,p1,p2,p3,p4,p5,p6,p7,p8⟩
   ·exact .inl h4
   ·refine .inr ⟨b,arr,inf,p0,p1,p2,p3,p4,p5,p6,fun j hj => ?_,p8⟩
    have:=p7 j hj;revert this;rw [nY];generalize arr.getD j undef=u;intro h;cases h;exact .v _
 ·rcases cls i _ hm with q | ⟨rfl,q⟩
  ·obtain ⟨b,arr,p0,p1,p2,p3,p4⟩:=hM.box _ _ _ q
   exact ⟨b,arr,by rw [(old i _ q).2.2.1];exact p0,by rw [qT hg b (hM.lt i _ b q rfl p0)];exact p1,p2,fun j hj=>(p3 j hj).mono hL,p4⟩
  ·cases q
 ·rcases cls i _ hm with q | ⟨rfl,q⟩
  ·obtain ⟨b,arr,p0,p1,p2,p3⟩:=hM.mp _ _ _ q
   refine ⟨b,arr,by rw [(old i _ q).2.2.1];exact p0,by rw [qT hg b (hM.lt i _ b q rfl p0)];exact p1,p2,fun j hj => ?_⟩
   obtain ⟨en,r1,r2,r3,r4⟩:=p3 j hj;exact ⟨en,r1,r2,r3,r4.mono hL.F hL.fz⟩
  ·cases q
 ·rcases cls i _ q1 with c1 | ⟨rfl,rfl⟩ <;> rcases cls i' _ q2 with c2 | ⟨rfl,rfl⟩
  ·rw [(old i _ c1).2.2.1] at e1
   rw [(old i' _ c2).2.2.1] at e2
   exact hM.inj _ _ _ _ _ c1 l1 c2 l2 e1 e2
  ·rw [(old i _ c1).2.2.1] at e1
   rw [new.1] at e2
   have:=hM.lt _ _ _ c1 l1 e1;have:=h3 b e2;omega
  ·rw [new.1] at e1
   rw [(old i' _ c2).2.2.1] at e2
   have:=hM.lt _ _ _ c2 l2 e2;have:=h3 b e1;omega
  ·rfl
 ·rcases cls i _ hm with c1 | ⟨rfl,rfl⟩
  ·rw [(old i _ c1).2.2.1] at hb
   exact hM.nF _ _ _ c1 hl hb
  ·rw [new.1] at hb
   intro hF;have:=hM.Fs b hF;have:=h3 b hb;omega
 ·rcases cls i _ hm with c1 | ⟨rfl,rfl⟩
  ·rw [(old i _ c1).2.2.1] at hb
   exact fY (hM.lt _ _ _ c1 hl hb) hg.size
  ·rw [new.1] at hb
   exact h1.lt 0 _ b rfl rfl hb
 ·cases h2 with
  | own _ _ q0 qa q =>
   refine .own _ _ q0 ⟨nD x.1,by rw [yD (dG _),aTt];rfl⟩ fun ty n cs hm => ?_
   rw [yD (dG _),aTt] at hm
   rw [new.1,new.2];exact q ty n cs hm

theorem rX:∀ {m m':Mem},nmM m=true→nmM m'=true→nmM (m++m')=true
 | [],_,_,h=>h
 | none::r,m',h,h'=>by
  have:nmM (r++m')=true:=rX (m:=r) h h';exact this
 | some x::r,m',h,h'=>by
  cases x with
  | row ty n cs =>
   simp only [nmM,B7] at h
   show (kW cs && nmM (r++m'))=true;rw [h.1,rX h.2 h'];rfl
  | box ty l =>
   simp only [nmM,B7] at h
   show (nmL l && nmM (r++m'))=true;rw [h.1,rX h.2 h'];rfl
  | mp=>exact rX (m:=r) h h'
  | pk=>exact rX (m:=r) h h'
  | dead=>exact rX (m:=r) h h'
theorem lT:∀ {m m':Mem},gK m=true→gK m'=true→gK (m++m')=true
 | [],_,_,h=>h
 | none::r,m',h,h'=>lT (m:=r) h h'
 | some x::r,m',h,h'=>by
  cases x with
  | mp=>simp [gK] at h
  | pk=>simp [gK] at h
  | row=>exact lT (m:=r) h h'
  | box=>exact lT (m:=r) h h'
  | dead=>exact lT (m:=r) h h'

theorem bRw{M':Mem}{W W':World}{C1:Cx}{row:Option Nat}(hn:aBi M')(hq:nmM M'=true)(hF:∀ b,C.F b→b<w.heap.size)(h1:aT P C1 M' W)(h2:Fr C M w C1 M' W)(hg:W.grownBy W' row)
  (hr:∀ r,row=some r→w.heap.size≤r∧∃ o:Obj,W.heap[r]? = some o∧o.isCells=false):∃ C',C'.ι=C1.ι∧C'.κ=C1.κ∧aT P C' M' W'∧Fr C M w C' M' W':=by
 let C':Cx:=⟨C1.ι,C1.κ,fun b=>C1.F b∧(b<w.heap.size∨mU W b),[]⟩
 have hM:aT P C' M' W:=by
  refine ⟨fun i ty n cs hm => ?_,fun i ty cs hm => ?_,fun i es cl hm=>absurd hm (hn.1 _ _ _),h1.inj,fun i o b ho hl hb hf=>h1.nF i o b ho hl hb hf.1,fun b hb=>h1.Fs b hb.1,h1.lt⟩
  ·rcases h1.row _ _ _ _ hm with h4 | ⟨b,arr,inf,q0,q1,q2,q3,q4,q5,q6,q7,q8⟩
   ·exact .inl h4
   ·exact .inr ⟨b,arr,inf,q0,q1,q2,q3,q4,q5,q6,fun j hj=>(q7 j hj).shrink (fun b hb hs=>⟨hb,.inr hs⟩) (rP ((aFa hq).1 _ _ _ _ hm) j hj),q8⟩
  ·obtain ⟨b,arr,q0,q1,q2,q3,q4⟩:=h1.box _ _ _ hm
   exact ⟨b,arr,q0,q1,q2,fun j hj=>(q3 j hj).shrink (fun b hb hs=>⟨hb,.inr hs⟩) (wV ((aFa hq).2 _ _ _ hm) j hj),q4⟩
 have f:Fr C M w C' M' W:=⟨h2.os,h2.tape,h2.out,h2.size,h2.keep,h2.ids,h2.row,h2.liv,h2.new,fun b hb=>⟨h2.F1 b hb,.inl (hF b hb)⟩,fun b hb=>h2.F2 b hb.1⟩
 have hS:∀ b,C'.F b→b<w.heap.size∨mU W b:=fun b hb=>hb.2
 have hsame:∀ b,b<W.heap.size→(b<w.heap.size∨mU W b)→W'.heap[b]? = W.heap[b]? := fun b hb hd=>hg.block b hb (fun e=>by
  obtain ⟨q1,o,q2,q3⟩:=hr b e.symm
  rcases hd with hd | hd
  ·omega
  ·exact kH q2 q3 hd)
 have hFz:∀ b,C'.F b→W'.heap[b]? = W.heap[b]? := fun b hb=>hsame b (hM.Fs b hb) (hS b hb)
 have hL:Le C' C' M' M' W W':=⟨fun _ o h=>⟨o,h⟩,fun _ _ _ _ _ cs h=>⟨cs,h⟩,fun _ o h o' h' hl=>by rw [h] at h';cases h';exact ⟨hl,rfl,rfl⟩,fun _ h=>h,hFz⟩
 refine ⟨C',rfl,rfl,⟨fun i ty n cs hm => ?_,fun i ty cs hm => ?_,fun i es cl hm=>absurd hm (hn.1 _ _ _),hM.inj,hM.nF,fun b hb=>fY (hM.Fs b hb) hg.size,fun i o b ho hl hb=>fY (hM.lt i o b ho hl hb) hg.size⟩,
  ⟨hg.os.trans f.os,hg.tape.trans f.tape,hg.output.trans f.out,fB f.size hg.size,fun b hb hno=>(hsame b (fY hb f.size) (.inl hb)).trans (f.keep b hb hno),f.ids,f.row,f.liv,f.new,f.F1,f.F2⟩⟩
 ·rcases hM.row _ _ _ _ hm with h4 | ⟨b,arr,inf,q0,q1,q2,q3,q4,q5,q6,q7,q8⟩
  ·exact .inl h4
  ·exact .inr ⟨b,arr,inf,q0,(hsame b (nA.1 q1).1 (.inr (fW q1))).trans q1,q2,q3,q4,q5,q6,fun j hj=>(q7 j hj).mono hL.F hL.fz,q8⟩
 ·obtain ⟨b,arr,q0,q1,q2,q3,q4⟩:=hM.box _ _ _ hm
  exact ⟨b,arr,q0,(hsame b (nA.1 q1).1 (.inr (fW q1))).trans q1,q2,fun j hj=>(q3 j hj).mono hL,q4⟩
theorem aXb{C1 C':Cx}{M':Mem}{W W':World}{i:Nat}{u:Value}(h:Rep C1 M' W (.own i) u)(e1:C'.ι=C1.ι)(e2:C'.κ=C1.κ):Rep C' M' W' (.own i) u:=by
 cases h with
 | own _ _ q0 qa q=>exact .own _ _ q0 qa fun ty n cs hm=>by rw [e1,e2];exact q ty n cs hm

def cAd(P:Program)(g:AV)(gf N:Nat)(xs:Lqq):Prop:=∀ (C:Cx) (M:Mem) (w:World) (u:Value),Rep C M w g u→(∀ b,C.F b→b<w.heap.size) →
 ∃ lb,u = .func (.func gf) #[] lb∧aJl Fence.wide 2 P gf lb (fun x:List Int × Value => #[x.2]) (bRu P) (KpG C.F) (fun ys=>ys.map (·.1)=xs) (fun ys=>ys.map (·.1) <+: xs) N w

def rfO(st:St)(p1 d:Nat)(l:List Int):St:=⟨put (put st.t (some p1) (.own st.m.length)) (some d) (.own st.m.length),st.m++[some (nD l)]⟩

section
variable {k kb gi gf p1 d id ty:Nat} {pos:String} {body:Code} {g:AV} {N:Nat} {xs:Lqq}
theorem aJk(H0:St)(S:Lqq→St)(E ER:Lqq→List Int→St)(T:List AV)(MR:Mem)(p:Lqq→List Int→Bool){cc:Code}(hcc:cc = .rangeFunc (.tmp gi) #[p1] (.region id #[{ dst:=some d,op := .assign (.tmp p1),type:=ty,pos:=pos,after := #[],guard:=none }] false) body)
  (Xy:H0.t=T) (hT:∀ pre,(S pre).t=T) (hg:T[gi]? = some g) (hit:cAd P g gf N xs) (eg:∀ args w,(callFunc gf args).run P w = .ok (.enter gf args) w)
  (hmp:∀ pre,gK (S pre).m=true) (hq:∀ pre,nmM (S pre).m=true) (hmE:∀ pre l,gK (E pre l).m=true) (hmER:∀ pre l,gK (ER pre l).m=true) (hmR:gK MR=true) (hqR:nmM MR=true) (hlen:∀ pre,(S pre).m.length<kb) (hnrf:nrf body=true)
  (hp:∀ (x:AV),(put T (some p1) x)[p1]? = some x) {kk:Nat} {g0 g1 gR:Gh} (hkk:H0.m.length≤kk) (Xz:gK H0.m=true) (X0:gh kk g0 H0=some (S [])) (hgh:∀ pre l,gh kk g1 (E pre l)=some ⟨(E pre l).t,(S (pre++[l])).m⟩) (hgR:∀ pre l,p pre l=true→gh kk gR (ER pre l)=some ⟨(ER pre l).t,MR⟩)
  (hbody:∀ pre l,pre.length<N→l.length≤1000→(p pre l=false→aC P kb body (rfO (S pre) p1 d l) .normal (E pre l))∧(p pre l=true→aC P kb body (rfO (S pre) p1 d l) .ret (ER pre l))) :
  ((∀ pre l,pre++[l] <+: xs→p pre l=false)→aC P k cc H0 .normal (S xs)) ∧
  ((∃ pre l,pre++[l] <+: xs∧p pre l=true)→aC P k cc H0 .ret ⟨T,MR⟩):=by
 have Qq:∀ pre,aBi (S pre).m:=fun pre=>eH (hmp pre)
 have Nq:aBi MR:=eH hmR;have main:∀ (Qf:Ex→St→Prop),((∀ pre l,pre++[l] <+: xs→p pre l=false)→Qf .normal (S xs))→((∃ pre l,pre++[l] <+: xs∧p pre l=true)→Qf .ret ⟨T,MR⟩) →
   ∀ (C0:Cx) (M0:Mem) (w0:World) (a:Act) (w:World),M0.length≤k→Sim P C0 M0 w0 H0 a w→∀ (ro:Option Nat),mF ro cc→∀ (n:Nat),cc.wpIn (Fen ro) n P (fun e' a' w'=>∃ e Am,Qf e Am∧e'=e.toExit∧Sim P C0 M0 w0 Am a' w') a w:=by
  intro Qf X1 X2 C0 M0 w0 a w hk hs ro hro n;subst hcc;have Nc:ro=none:=hro.resolve_right (by simp [nrf])
  subst Nc;refine aFb (n:=3) ?_;obtain ⟨C,hSl,hM,hF,hD⟩:=hs;have hini:bHo P C H0.m w (S []).m w:=by
   obtain ⟨C1,_,h1,h2,_⟩:=eV hkk X0 (show Sim P (C.with []) H0.m w H0 { a with defers:=[] } w from ⟨C,hSl,hM,(Fr.refl _ _ _).based [],.nil rfl (eH Xz).2⟩)
   exact ⟨C1,h1,h2.unbased⟩
  rw [Xy] at hSl
  obtain ⟨lb,hu,hseq⟩:=hit C H0.m w _ (hSl.at hg) hM.Fs
  have actOf:∀ x:List Int × Value,Act:=fun x=>({ tmps:=a.tmps.setIfInBounds p1 x.2,defers:=[] }:Act).put (some d) (({ tmps:=a.tmps.setIfInBounds p1 x.2,defers:=[] }:Act).eval (.tmp p1))
  refine vL (F:=Fen none) (n:=3) rfl (by omega) (gf:=gf) (lb:=lb) hu trivial eg hseq (fun h k=>h.trans k)
   (fun W l o o' hl h1 h2 h3=>⟨by simp,fun b hb=>(grownBy_putObj' W l o').block b (fY (hM.Fs b hb) (fB hl (Nat.le_of_lt (nA.1 h1).1))) (fun e=>by cases e;have:=hM.Fs _ hb;omega)⟩)
   (Below.refl _ _) (fun _=>rfl)
   (fun pre W=>bHo P C H0.m w (S (pre.map (·.1))).m W∧∀ q l,q++[l] <+: pre.map (·.1)→p q l=false)
   (fun c pre W=>c = .ret∧bHo P C H0.m w MR W∧∃ q l,q++[l]=pre.map (·.1)∧p q l=true)
   (fun pre X Y row hs hg hr=>⟨hs.1.own (Qq _) (hq _) hM.Fs hg hr,hs.2⟩) (fun c pre X Y row hs hg hr=>⟨hs.1,hs.2.1.own Nq hqR hM.Fs hg hr,hs.2.2⟩)
   ⟨hini,fun q l h=>by simp at h⟩
   (fun pre x V a' W=>a'=({ tmps:=a.tmps.setIfInBounds p1 x.2,defers:=[] }:Act).put (some d) (({ tmps:=a.tmps.setIfInBounds p1 x.2,defers:=[] }:Act).eval (.tmp p1)) ∧
    (∃ C2,aT P C2 ((S (pre.map (·.1))).m++[some (nD x.1)]) W∧Fr C H0.m w C2 ((S (pre.map (·.1))).m++[some (nD x.1)]) W∧Rep C2 ((S (pre.map (·.1))).m++[some (nD x.1)]) W (.own (S (pre.map (·.1))).m.length) x.2) ∧
    KpG C.F V W∧x.1.length≤1000∧∀ q l,q++[l] <+: pre.map (·.1)→p q l=false)
   (fun pre x V a' s X Y row hs hg hr=>by
    obtain ⟨e1,⟨C2,q1,q2,q3⟩,e3,e4,e5⟩:=hs;have hnr:nmM [some (nD x.1)]=true:=by
     show (kW (x.1.map aA) && nmM [])=true;rw [aEz aA (fun _=>rfl)];rfl
    obtain ⟨C',i1,i2,i3,i4⟩:=bRw (eH (lT (hmp _) (by rfl))) (rX (hq _) hnr) hM.Fs q1 q2 hg hr
    refine ⟨e1,⟨C',i3,i4,aXb q3 i1 i2⟩,⟨fB e3.size hg.size,fun b hb => ?_⟩,e4,e5⟩
    refine (hg.block b (fY (hM.Fs b hb) q2.size) (fun e => ?_)).trans (e3.same b hb)
    have:=(hr b e.symm).1;have:=hM.Fs b hb;omega)
   ?assign ?body ?done ?stop
  case assign =>
   intro l pre x V W K hI Ic hR hK;obtain ⟨⟨C',G2,Q2⟩,hpre⟩:=hI;obtain ⟨C2,j1,j2,j3⟩:=bRv G2 Ic hR;have hz:(#[p1].zip #[x.2]).foldl (fun t (y:Nat × Value)=>t.setIfInBounds y.1 y.2) a.tmps=a.tmps.setIfInBounds p1 x.2:=by simp
   rw [hz];refine wpIn_region_lit (wpListIn_plain rfl fun K' S7 => ?_)
   unfold Oper.wpIn;refine ⟨fun f _=>trivial,?_⟩
   rw [Oper.semAt_plain _ _ _ (by intro c Hy;cases Hy)]
   simp only [execOp,Sem.run_pure];exact S7 _ _ (wpListIn_nil (hK _ _ (KeepsFrom.refl _ _) ⟨rfl,⟨C2,j1,Q2.trans j2,j3⟩,⟨Ic.size,fun b hb=>qT Ic b (fY (hM.Fs b hb) Q2.size)⟩,hR.1,hpre⟩))
  case body =>
   rintro l pre x a' V W hl _ ⟨rfl,⟨C2,Ie,G1,G0⟩,Px,hxl,hpre⟩ hlt;have hpl:(pre.map (·.1)).length<N:=by simpa using hlt
   have hSW:eI C2 ((S (pre.map (·.1))).m++[some (nD x.1)]) W T a.tmps:=hSl.le (hM.le G1)
   have s1:eI C2 ((S (pre.map (·.1))).m++[some (nD x.1)]) W (put T (some p1) (.own (S (pre.map (·.1))).m.length)) (({ tmps:=a.tmps,defers:=[] }:Act).put (some p1) x.2).tmps :=
    eI.put (a:={ tmps:=a.tmps,defers:=[] }) hSW G0
   have s2:eI C2 ((S (pre.map (·.1))).m++[some (nD x.1)]) W (put (put T (some p1) (.own (S (pre.map (·.1))).m.length)) (some d) (.own (S (pre.map (·.1))).m.length)) (({ tmps:=a.tmps.setIfInBounds p1 x.2,defers:=[] }:Act).put (some d) (({ tmps:=a.tmps.setIfInBounds p1 x.2,defers:=[] }:Act).eval (.tmp p1))).tmps :=
    eI.put s1 (s1.at (hp _))
   have hnr:gK ((S (pre.map (·.1))).m++[some (nD x.1)])=true:=lT (hmp _) (by rfl)
   have hsim:Sim P (C2.with []) ((S (pre.map (·.1))).m++[some (nD x.1)]) W (rfO (S (pre.map (·.1))) p1 d x.1) (({ tmps:=a.tmps.setIfInBounds p1 x.2,defers:=[] }:Act).put (some d) (({ tmps:=a.tmps.setIfInBounds p1 x.2,defers:=[] }:Act).eval (.tmp p1))) W:=by
    refine ⟨C2,?_,Ie,(Fr.refl _ _ _).based [],.nil rfl (eH hnr).2⟩;unfold rfO;rw [hT];exact s2
   have hkl:((S (pre.map (·.1))).m++[some (nD x.1)]).length≤kb:=by
    rw [iF];exact hlen _
   have keepO:∀ {M2:Mem} {W2:World} {C3:Cx},Fr C2 ((S (pre.map (·.1))).m++[some (nD x.1)]) W C3 M2 W2→KeepsFrom w.heap.size W W2∧KpG C.F V W2:=fun f3 =>
    ⟨⟨f3.size,fun b o _ hb ho=>(f3.keep b (nA.1 hb).1 (aLo Ie (eH hnr) hb ho)).trans hb⟩,
     Px.trans ⟨f3.size,fun b hb=>f3.keep b (fY (hM.Fs b hb) G1.size) (fun id o ho hl he=>Ie.nF id o b ho hl he (G1.F1 b hb))⟩⟩
   have hmapp:(pre++[x]).map (·.1)=pre.map (·.1)++[x.1]:=by simp
   cases hpx:p (pre.map (·.1)) x.1 with
   | false =>
    refine wpIn_mono ((hbody _ x.1 hpl hxl).1 hpx (C2.with []) _ W _ W hkl hsim (some l) (.inr hnrf) 1) ?_
    rintro e a2 W2 ⟨rfl,C3,Kr,Ia,I3,_⟩;have I3:=I3.unbased;obtain ⟨k1,k2⟩:=keepO I3;have Kf:Sim P (C.with []) H0.m w (E (pre.map (·.1)) x.1) { a2 with defers:=[] } W2 :=
     ⟨C3,Kr,Ia,(G1.trans I3).based [],.nil rfl (eH (hmE _ _)).2⟩
    obtain ⟨C4,_,P3,T6,_⟩:=eV hkk (hgh _ _) Kf;refine ⟨k1,k2,⟨C4,?_,?_⟩,fun q l h => ?_⟩
    ·rw [hmapp];exact P3
    ·rw [hmapp];exact T6.unbased
    ·rw [hmapp] at h
     rcases List.prefix_concat_iff.1 h with h | h
     ·obtain ⟨e1,e2⟩:=List.append_inj' h rfl
      cases e2;rw [e1];exact hpx
     ·exact hpre q l h
   | true =>
    have hc:=(hbody _ x.1 hpl hxl).2 hpx;refine wpIn_mono (hc (C2.with []) _ W _ W hkl hsim (some l) (.inr hnrf) 1) ?_
    rintro e a2 W2 ⟨rfl,C3,Kr,Ia,I3,_⟩;have I3:=I3.unbased;obtain ⟨k1,k2⟩:=keepO I3;have Kf:Sim P (C.with []) H0.m w (ER (pre.map (·.1)) x.1) { a2 with defers:=[] } W2 :=
     ⟨C3,Kr,Ia,(G1.trans I3).based [],.nil rfl (eH (hmER _ _)).2⟩
    obtain ⟨C4,_,P3,T6,_⟩:=eV hkk (hgR _ _ hpx) Kf;exact ⟨k1,rfl,⟨C4,P3,T6.unbased⟩,_,_,hmapp.symm,hpx⟩
  case done =>
   intro D ys W Kt hSx hI hDm;obtain ⟨⟨C1,h1,h2⟩,hpre⟩:=hI;rw [hSx] at h1 h2 hpre
   refine ⟨.normal,S xs,X1 hpre,rfl,?_⟩;have hnm:aBi (S xs).m:=Qq xs;obtain ⟨C',G2,f,hSo⟩:=wW hnm (hq xs) hM.Fs h1 h2;refine ⟨C',by rw [hT];exact hSl.le (hM.le f),G2,hF.trans f,?_⟩
   obtain ⟨⟨l,e1,e2,e3⟩,hR⟩:=hD.fr hM (fun i to ti sz L h=>by have:=hnm.2 _ _ h;cases this) f
   obtain ⟨⟨l',Lk,_,Nf⟩,_⟩:=hD;have hll:l=l':=by
    have:=e1.symm.trans Lk;exact (List.map_inj_right (fun x y h=>by simpa [mark] using h)).1 this
   refine ⟨⟨D::l,by rw [e1];rfl,List.nodup_cons.2 ⟨fun hin => ?_,e2⟩,fun D' Ng => ?_⟩,hR⟩
   ·rw [hll] at hin
    have:=(nA.1 (Nf D hin).1).1;omega
   ·rcases fU.1 Ng with rfl | hin
    ·refine ⟨hDm,fB hF.size Kt,fun hf => ?_⟩
     rcases hSo _ hf with h | h
     ·omega
     ·exact kH hDm rfl h
    ·exact e3 D' hin
  case stop =>
   rintro D c pre W Kt hSp ⟨rfl,⟨C1,h1,h2⟩,q,l0,hql,hpq⟩ hDm;refine wpIn_ret ?_;refine ⟨.ret,⟨T,MR⟩,X2 ⟨q,l0,by rw [hql];exact hSp,hpq⟩,rfl,?_⟩
   obtain ⟨C',G2,f,hSo⟩:=wW Nq hqR hM.Fs h1 h2;refine ⟨C',hSl.le (hM.le f),G2,hF.trans f,?_⟩;obtain ⟨⟨l,e1,e2,e3⟩,hR⟩:=hD.fr hM (fun i to ti sz L h=>by have:=Nq.2 _ _ h;cases this) f
   obtain ⟨⟨l',Lk,_,Nf⟩,_⟩:=hD;have hll:l=l':=by
    have:=e1.symm.trans Lk;exact (List.map_inj_right (fun x y h=>by simpa [mark] using h)).1 this
   refine ⟨⟨D::l,by rw [e1];rfl,List.nodup_cons.2 ⟨fun hin => ?_,e2⟩,fun D' Ng => ?_⟩,hR⟩
   ·rw [hll] at hin
    have:=(nA.1 (Nf D hin).1).1;omega
   ·rcases fU.1 Ng with rfl | hin
    ·refine ⟨hDm,fB hF.size Kt,fun hf => ?_⟩
     rcases hSo _ hf with h | h
     ·omega
     ·exact kH hDm rfl h
    ·exact e3 D' hin
 refine ⟨fun hall => ?_,fun hex => ?_⟩
 ·intro C0 M0 w0 a w hk hs ro hro n
  refine wpIn_mono (main (fun e Am=>e = .normal∧Am=S xs) (fun _=>⟨rfl,rfl⟩) (fun ⟨q,l,h1,h2⟩=>by rw [hall q l h1] at h2;cases h2) C0 M0 w0 a w hk hs ro hro n) ?_
  rintro e' a' w' ⟨e,Am,⟨rfl,rfl⟩,h1,h2⟩;exact ⟨h1,h2⟩
 ·intro C0 M0 w0 a w hk hs ro hro n
  refine wpIn_mono (main (fun e Am=>e = .ret∧Am=⟨T,MR⟩) (fun hall=>by obtain ⟨q,l,h1,h2⟩:=hex;rw [hall q l h1] at h2;cases h2) (fun _=>⟨rfl,rfl⟩) C0 M0 w0 a w hk hs ro hro n) ?_
  rintro e' a' w' ⟨e,Am,⟨rfl,rfl⟩,h1,h2⟩;exact ⟨h1,h2⟩
end
end KV
end Go.Proofs
end
section
namespace Go.Proofs
open Go.RowKit
namespace KV
open Tryz
variable {P:Program} {T:TT} {E:Env} {C C0:Cx} {M M0:Mem} {w w0:World}
def cLq(P:Program)(ops:Array Oper)(o:Oper)(st Am:St):Prop:=∀ (C0:Cx) (M0:Mem) (w0:World) (a:Act) (w:World),Sim P C0 M0 w0 st a w→∀ (ro:Option Nat) (n:Nat) (K:Act→World→Prop) (Q:Exit→Act→World→Prop),
 (∀ a' w',(∃ v,a'=a.put o.dst v)→Sim P C0 M0 w0 Am a' w'→K a' w')→if Region.wanted o (yielded ops a.tmps) then o.wpIn (Fen ro) n P a w K Q else (∀ f,o.about P w a.eval=some f→(Fen ro).fn f)∧K (a.put o.dst undef) w
theorem bLc(hT:∀ t i,T t=some i→cN P t=some i)(hE:mR P E){ops:List Oper}{o:Oper}{id:Nat}{st Am:St}{s s':AS}(h:qY P T E ops o id st s=some (Am,s'))(g:bC s'):cLq P ops.toArray o st Am:=by
 intro C0 M0 w0 a w hsim ro n K Q hK;obtain ⟨C,hS,hM,hF,hD⟩:=hsim;unfold qY at h
 obtain ⟨go,s1,h1,k1⟩:=aD h;cases go with
 | true =>
  obtain ⟨vs,s2,h2,k2⟩:=aD k1;obtain ⟨e2,rfl⟩:=aF h2;obtain ⟨⟨x,L⟩,s3,h3,k3⟩:=aD k2;obtain ⟨rfl,rfl⟩:=aK k3;have gd:=qX.good h3 g;rw [oF hS h1 gd,if_pos rfl];refine ⟨fun f _=>trivial,?_⟩
  rw [Oper.semAt_eq _ _ _ (aAv h3)]
  rcases uO h3 with ⟨q,_,_,h4⟩ | ⟨h4,hno⟩
  ·obtain ⟨_,hup⟩:=aAw hT hE hS hM hF hD (sR hS _ _ e2) h4 g
   revert hup;generalize (execOp a.eval o).run P w=r;intro hup;cases r with
   | halt x w'=>exact hup.elim
   | ok nx w' =>
    cases nx with
    | value u=>exact hK _ _ ⟨_,rfl⟩ hup
    | skip=>exact hK _ _ ⟨_,rfl⟩ (hup _)
    | enter f us =>
     obtain ⟨rfl,hc⟩:=hup;refine ⟨fun h=>by simp [Fen,Fence.wide] at h,(uN (hc (n-1))).mono ?_⟩
     rintro e H5 ⟨u,rfl,hs⟩;exact hK _ _ ⟨_,rfl⟩ hs
    | _=>exact hup.elim
  ·obtain ⟨_,hup⟩:=aDv hT hE hM (sR hS _ _ e2) h4 g
   have hk:lJ st.m (upds st.m L):=sQ hno;revert hup;generalize (execOp a.eval o).run P w=r;intro hup;cases r with
   | halt x w'=>exact hup.elim
   | ok nx w' =>
    cases nx with
    | value u =>
     obtain ⟨C',f,m,r⟩:=hup;exact hK _ _ ⟨_,rfl⟩ (oG hS hM hF hD f hk m r)
    | skip =>
     obtain ⟨rfl,C',f,m⟩:=hup;exact hK _ _ ⟨_,rfl⟩ (oG hS hM hF hD f hk m (.any _))
    | enter f us =>
     obtain ⟨rfl,hc⟩:=hup;refine ⟨fun h=>by simp [Fen,Fence.wide] at h,(uN (hc (n-1))).mono ?_⟩
     rintro e H5 ⟨u,rfl,C',f,m,r⟩;exact hK _ _ ⟨_,rfl⟩ (oG hS hM hF hD f hk m r)
    | _=>exact hup.elim
 | false =>
  obtain ⟨rfl,rfl⟩:=aK k1;rw [oF hS h1 g];simp only [Bool.false_eq_true,if_false];exact ⟨fun f _=>trivial,hK _ _ ⟨_,rfl⟩ (oG hS hM hF hD (Fr.refl ..) .refl hM (.tup [] #[] rfl (fun i h=>by simp at h)))⟩
theorem qR{a:Act}{d:Option Nat}{v:Value}{i:Nat}(h:d≠some i):(a.put d v).tmps.getD i undef=a.tmps.getD i undef:=by
 cases d with
 | none=>rfl
 | some j =>
  have hne:j≠i:=fun e=>h (by rw [e])
  show (a.tmps.setIfInBounds j v).getD i undef=_;simp [B4,Array.getElem?_setIfInBounds_ne hne]
theorem aJj(hT:∀ t i,T t=some i→cN P t=some i)(hE:mR P E){ops:List Oper}:∀ (l:List Oper) (k:Nat) {st Am:St} {s s':AS},(∀ j,l[j]? = ops[k+j]?)→bCm P T E ops l st s=some (Am,s')→bC s' →
  ∀ (C0:Cx) (M0:Mem) (w0:World) (a:Act) (w:World),Sim P C0 M0 w0 st a w→∀ (ro:Option Nat) (n:Nat) (Q:Exit→Act→World→Prop),(∀ a' w',((∀ i,(∀ o∈l,o.dst≠some i)→a'.tmps.getD i undef=a.tmps.getD i undef)∧a'.defers=a.defers)→Sim P C0 M0 w0 Am a' w'→Q .normal a' w')→wpOpsIn (Fen ro) n P ops.toArray Q ((List.range l.length).map (k + ·)) a w
 | [],k,st,Am,s,s',_,h,g,C0,M0,w0,a,w,hs,ro,n,Q,hQ=>by
  obtain ⟨rfl,rfl⟩:=aK h;exact hQ _ _ ⟨fun _ _=>rfl,rfl⟩ hs
 | o::l,k,st,Am,s,s',hl,h,g,C0,M0,w0,a,w,hs,ro,n,Q,hQ=>by
  obtain ⟨st1,s1,h1,k1⟩:=aD h;have h0:ops[k]? = some o:=by simpa using (hl 0).symm
  have ih:=fun a1 w1=>aJj hT hE l (k+1) (fun j=>by have:=hl (j+1);simpa [Nat.add_assoc,Nat.add_comm 1 j] using this) k1 g C0 M0 w0 a1 w1
  have hst:=bLc hT hE h1 (uP.good k1 g) C0 M0 w0 a w hs ro n (wpOpsIn (Fen ro) n P ops.toArray Q ((List.range l.length).map (k+1 + ·))) Q (fun a1 w1 hv Ir=>ih a1 w1 Ir ro n Q fun a' w' hk Cl=>hQ a' w' ⟨fun i hi=>by
   obtain ⟨v,rfl⟩:=hv;rw [hk.1 i fun o' Dw=>hi o' (Cj _ Dw),qR (hi o (gL ..))],by
   obtain ⟨v,rfl⟩:=hv;rw [hk.2];cases o.dst <;> rfl⟩ Cl)
  rw [nX,List.range_succ_eq_map,fZ,vD];have hm:(List.range l.length).map ((k + ·) ∘ Nat.succ)=(List.range l.length).map (k+1 + ·):=by
   apply aBx;intro x _;simp only [Function.comp];omega
  rw [hm,Nat.add_zero,wpOpsIn_cons];unfold wpOpIn;simp only [List.getElem?_toArray,h0];exact hst
def wrR(c:Code)(i:Nat):Bool:=match c with
 | .region _ ops _=>ops.toList.any fun o=>match o.dst with
  | some j=>Nat.beq j i
  | none=>false
 | _=>true
def dU(P:Program)(k:Nat)(c:Code)(st:St)(e:Ex)(Am:St):Prop:=∀ (C0:Cx) (M0:Mem) (w0:World) (a:Act) (w:World),M0.length≤k→Sim P C0 M0 w0 st a w→∀ (ro:Option Nat) (n:Nat),c.wpIn (Fen ro) n P (fun e' a' w'=>e'=e.toExit∧Sim P C0 M0 w0 Am a' w'∧(∀ i,wrR c i=false→a'.tmps.getD i undef=a.tmps.getD i undef)∧a'.defers=a.defers) a w
noncomputable def bRt(c:Code)(st:St):Ask (Ex × St):=match c with
 | .region _ ops false=>do
  let Am ← bCm Tp tT EO ops.toList ops.toList st
  pure (.normal,Am)
 | _=>fail
theorem dU.fin{k:Nat}{c:Code}{st Am:St}{e:Ex}{g:Gh}{o:List OI}{l:List Prop}(h:aBz k g (bRt c st (asg o))=some (e,Am,l,[]))(gd:bC (out l)):dU Tp k c st e Am:=by
 unfold aBz at h
 split at h
 ·rename_i e1 st1 s hr
  split at h
  ·rename_i st2 hg
   simp only [Option.some.injEq,Prod.mk.injEq] at h
   obtain ⟨rfl,rfl,rfl,hs⟩:=h;unfold bRt at hr
   split at hr
   ·rename_i id ops
    obtain ⟨Vf,s1,h1,k1⟩:=aD hr;obtain ⟨he,rfl⟩:=aK k1;cases he;intro C0 M0 w0 a w hk hsm ro n;refine wpIn_region ?_;have:=aJj aIl aIk ops.toList 0 (fun j=>by simp) h1 (fun p hp=>gd p hp) C0 M0 w0 a w hsm ro n (fun e' a' w'=>e'=Ex.normal.toExit∧Sim Tp C0 M0 w0 st2 a' w'∧(∀ i,wrR (.region id ops false) i=false→a'.tmps.getD i undef=a.tmps.getD i undef)∧a'.defers=a.defers) (fun a' w' hkp h'=>⟨rfl,eV hk hg h',fun i hi=>hkp.1 i fun o ho e=>by
     unfold wrR at hi
     have:=List.any_eq_false.1 hi o ho;rw [e] at this
     exact this (Nat.beq_refl i),hkp.2⟩)
    simpa using this
   ·cases hr
  ·cases h
 ·cases h
theorem dU.fi{k:Nat}{c:Code}{st Am:St}{e:Ex}(g:Gh)(o:List OI){l:List Prop}(gd:bC (out l))(h:aBz k g (bRt c st (asg o))=some (e,Am,l,[]):=by kernel_rfl):dU Tp k c st e Am:=dU.fin h gd
end KV
end Go.Proofs
end
namespace Go.Proofs
namespace KV
open Tryz
section
section
variable {α:Type}

def mv(A:List α)(x:α)(j:Nat)(R:List α):List α:=A.take j++x::(A.drop j++R)

theorem aAg(A:List α)(x:α)(j:Nat)(R:List α)(hj:j≤A.length):(mv A x j R).length=A.length+1+R.length:=by
 unfold mv;simp;omega

theorem aMu(A:List α)(x:α)(j:Nat)(R:List α)(hj:j≤A.length)(t:Nat) :
  (mv A x j R)[t]? = if t<j then A[t]? else if t=j then some x else if t≤A.length then A[t-1]? else R[t-A.length-1]? := by
 unfold mv
 by_cases h1:t<j
 ·rw [if_pos h1,zL (by simp;omega),bUe h1]
 ·rw [if_neg h1,yD (by simp;omega)]
  have hl:(A.take j).length=j:=by simp;omega
  rw [hl]
  by_cases h2:t=j
  ·rw [if_pos h2,show t-j=0 by omega];rfl
  ·rw [if_neg h2,show t-j=(t-j-1)+1 by omega,List.getElem?_cons_succ]
   by_cases h3:t≤A.length
   ·rw [if_pos h3,zL (by simp;omega),List.getElem?_drop]
    congr 1;omega
   ·rw [if_neg h3,yD (by simp;omega)]
    congr 1
    simp;omega

theorem bYt(A:List α)(x:α)(j:Nat)(R:List α)(hj:j≤A.length)(h0:0<j)(y:α)(hy:A[j-1]? = some y) :
  ((mv A x j R).set j y).set (j-1) x=mv A x (j-1) R:=by
 have hl:=aAg A x j R hj;apply List.ext_getElem?;intro t;rw [List.getElem?_set,List.getElem?_set,aMu A x (j-1) R (by omega),aMu A x j R hj]
 simp only [nZ,hl]
 by_cases h1:j-1=t
 ·subst h1
  rw [if_pos rfl,if_pos (by omega),if_neg (by omega),if_pos rfl]
 ·rw [if_neg h1]
  by_cases h2:j=t
  ·subst h2
   rw [if_pos rfl,if_pos (by omega),if_neg (by omega),if_neg (by omega),if_pos (by omega),hy]
  ·rw [if_neg h2]
   by_cases h3:t<j
   ·rw [if_pos h3,if_pos (by omega)]
   ·rw [if_neg h3,if_neg (by omega:¬ t=j),if_neg (by omega:¬ t<j-1),if_neg (by omega:¬ t=j-1)]

def mP(lt:α→α→Bool)(x:α)(A:List α):Nat:=(A.reverse.dropWhile (lt x)).length
def ins(lt:α→α→Bool)(A:List α)(x:α):List α:=A.take (mP lt x A)++x::A.drop (mP lt x A)
def isort(lt:α→α→Bool)(l:List α):List α:=l.foldl (ins lt) []

theorem mD{p:α→Bool}:∀ (l r:List α),(∀ x∈l,p x=true)→(l++r).dropWhile p=r.dropWhile p
 | [],_,_=>rfl
 | x::l,r,h=>by
  rw [List.cons_append,List.dropWhile_cons,if_pos (h x (by simp))]
  exact mD l r (fun y hy=>h y (by simp [hy]))

theorem aJn(lt:α→α→Bool)(x:α)(A:List α)(j:Nat)(hj:j≤A.length)(h:∀ t (_:t<A.length),j≤t→lt x A[t]=true)
  (h2:j=0∨∃ y,A[j-1]? = some y∧lt x y=false):mP lt x A=j:=by
 unfold mP;have e:A.reverse=(A.drop j).reverse++(A.take j).reverse:=by rw [← List.reverse_append,aPm]
 rw [e,mD]
 ·rcases h2 with h0 | ⟨y,hy,hlt⟩
  ·subst h0;simp
  ·by_cases h0:j=0
   ·subst h0;simp
   ·have e2:A.take j=A.take (j-1)++[y]:=by
     rw [show j=(j-1)+1 by omega,List.take_add_one,Nat.add_sub_cancel,hy];rfl
    have hl:(A.take (j-1)).length=j-1:=by simp;omega
    rw [e2,List.reverse_append];show ((y::(A.take (j-1)).reverse).dropWhile (lt x)).length=j;rw [List.dropWhile_cons,hlt];simp;omega
 ·intro z hz
  rw [zM] at hz
  obtain ⟨t,ht,rfl⟩:=List.getElem_of_mem hz;rw [List.getElem_drop];exact h (j+t) (by simp at ht;omega) (by omega)

theorem aXl(lt:α→α→Bool)(A:List α)(x:α):(ins lt A x).length=A.length+1:=by
 unfold ins;simp;have:mP lt x A≤A.length:=by
  unfold mP;have h2:((A.reverse).dropWhile (lt x)).length≤A.reverse.length:=(List.dropWhile_sublist _).length_le;simpa using h2
 omega

theorem cIs(A:List α)(x:α)(R:List α):mv A x A.length R=A++x::R:=by unfold mv;simp
theorem bRz(lt:α→α→Bool)(A:List α)(x:α)(R:List α):mv A x (mP lt x A) R=ins lt A x++R:=by unfold mv ins;simp

theorem yP(lt:α→α→Bool)(l:List α):(isort lt l).length=l.length:=by
 unfold isort;have:∀ (l A:List α),(l.foldl (ins lt) A).length=A.length+l.length:=by
  intro l
  induction l with
  | nil=>intro A;simp
  | cons x r ih=>intro A;rw [lE,ih,aXl];simp;omega
 rw [this];simp

theorem aXm(lt:α→α→Bool)(l:List α)(k:Nat)(h:k<l.length):isort lt (l.take (k+1))=ins lt (isort lt (l.take k)) l[k]:=by
 unfold isort;rw [List.take_succ_eq_append_getElem h,aBy];rfl
end
theorem Da{x:List Int}(h:x.length=3):∃ a b c,x=[a,b,c]:=by
 match x,h with
 | [a,b,c],_=>exact ⟨a,b,c,rfl⟩
theorem vA{α:Type}(lt:α→α→Bool)(l:List α)(y:α):y∈isort lt l↔y∈l:=by
 unfold isort;have : ∀ (l A:List α),y∈l.foldl (ins lt) A↔y∈A∨y∈l:=by
  intro l
  induction l with
  | nil=>intro A;simp
  | cons x r ih =>
   intro A;rw [lE,ih];have:y∈ins lt A x↔y∈A∨y=x:=by
    unfold ins;rw [jX,fU];constructor
    ·rintro (h | h | h)
     ·exact Or.inl (List.mem_of_mem_take h)
     ·exact Or.inr h
     ·exact Or.inl (List.mem_of_mem_drop h)
    ·rintro (h | h)
     ·rw [← aPm (mP lt x A) A,jX] at h
      rcases h with h | h
      ·exact Or.inl h
      ·exact Or.inr (Or.inr h)
     ·exact Or.inr (Or.inl h)
   rw [this,fU];constructor
   ·rintro ((h | h) | h) <;> simp [h]
   ·rintro (h | h | h) <;> simp [h]
 rw [this];simp

section
variable {α:Type}
theorem aAh(lt:α→α→Bool)(A:List α)(x:α):∃ B D:List α,A=B++D∧ins lt A x=B++x::D∧(∀ d∈D,lt x d=true)∧(B=[]∨∃ B' h,B=B'++[h]∧lt x h=false):=by
 have hA:A=(A.reverse.dropWhile (lt x)).reverse++(A.reverse.takeWhile (lt x)).reverse:=by
  rw [← List.reverse_append,List.takeWhile_append_dropWhile,List.reverse_reverse]
 generalize hdw:A.reverse.dropWhile (lt x)=dw at hA
 generalize htw:A.reverse.takeWhile (lt x)=tw at hA
 have hp:mP lt x A=dw.reverse.length:=by unfold mP;rw [hdw,bUg]
 refine ⟨dw.reverse,tw.reverse,hA,?_,fun d hd => ?_,?_⟩
 ·unfold ins
  rw [hp]
  conv=>lhs;rw [hA]
  rw [List.take_left',List.drop_left'] <;> rfl
 ·rw [zM,← htw] at hd
  exact gJ.1 List.all_takeWhile d hd
 ·cases dw with
  | nil=>exact .inl rfl
  | cons h r =>
   refine .inr ⟨r.reverse,h,by simp,?_⟩
   have:=List.head_dropWhile_not (lt x) (l:=A.reverse) (by rw [hdw];simp)
   simp only [hdw,List.head_cons] at this
   simpa using this
theorem aRc(lt:α→α→Bool)(A:List α)(x:α):(ins lt A x).Perm (x::A):=by
 obtain ⟨B,D,h1,h2,_⟩:=aAh lt A x;rw [h2,h1];exact List.perm_middle
theorem aXn(lt:α→α→Bool)(l:List α):(isort lt l).Perm l:=by
 unfold isort;have:∀ (l A:List α),(l.foldl (ins lt) A).Perm (A++l):=by
  intro l
  induction l with
  | nil=>intro A;simp
  | cons x r ih =>
   intro A;rw [lE];refine (ih _).trans (((aRc lt A x).append_right r).trans ?_);exact List.perm_middle.symm
 simpa using this l []
theorem aXo{f:α→Int}{lt:α→α→Bool}(hlt:∀ x y,lt x y=decide (f x<f y)){A:List α}(x:α)(hs:A.Pairwise (fun a b=>f a≤f b)):(ins lt A x).Pairwise (fun a b=>f a≤f b):=by
 obtain ⟨B,D,rfl,h2,h3,h4⟩:=aAh lt A x;rw [h2];obtain ⟨s1,s2,s3⟩:=List.pairwise_append.1 hs;have hB:∀ b∈B,f b≤f x:=fun b hb=>by
  rcases h4 with rfl | ⟨B',h,rfl,hx⟩
  ·simp at hb
  ·rw [hlt,decide_eq_false_iff_not] at hx
   rcases jX.1 hb with hb | hb
   ·have:=(List.pairwise_append.1 s1).2.2 b hb h (by simp)
    omega
   ·simp at hb;subst hb;omega
 have hD:∀ d∈D,f x≤f d:=fun d hd=>by
  have:=h3 d hd;rw [hlt,decide_eq_true_eq] at this
  omega
 refine List.pairwise_append.2 ⟨s1,aKy.2 ⟨hD,s2⟩,fun a ha b hb => ?_⟩
 rcases fU.1 hb with rfl | hb
 ·exact hB a ha
 ·exact s3 a ha b hb
theorem rY{f:α→Int}{lt:α→α→Bool}(hlt:∀ x y,lt x y=decide (f x<f y))(l:List α):(isort lt l).Pairwise (fun a b=>f a≤f b):=by
 unfold isort;have:∀ (l A:List α),A.Pairwise (fun a b=>f a≤f b)→(l.foldl (ins lt) A).Pairwise (fun a b=>f a≤f b):=by
  intro l
  induction l with
  | nil=>intro A h;exact h
  | cons x r ih=>intro A h;rw [lE];exact ih _ (aXo hlt x h)
 exact this l [] .nil
end
section
variable {α:Type}
theorem aXp{f g:α→Int}{lt:α→α→Bool}(hlt:∀ x y,lt x y=decide (f x<f y)){A:List α}(x:α)(hs:A.Pairwise (fun a b=>f a<f b∨f a=f b∧g a<g b))(hg:∀ a∈A,g a<g x):(ins lt A x).Pairwise (fun a b=>f a<f b∨f a=f b∧g a<g b):=by
 obtain ⟨B,D,rfl,h2,h3,h4⟩:=aAh lt A x;rw [h2];obtain ⟨s1,s2,s3⟩:=List.pairwise_append.1 hs;have hB:∀ b∈B,f b≤f x:=fun b hb=>by
  rcases h4 with rfl | ⟨B',h,rfl,hx⟩
  ·simp at hb
  ·rw [hlt,decide_eq_false_iff_not] at hx
   rcases jX.1 hb with hb | hb
   ·have:=(List.pairwise_append.1 s1).2.2 b hb h (by simp)
    omega
   ·simp at hb;subst hb;omega
 have hD:∀ d∈D,f x<f d:=fun d hd=>by
  have:=h3 d hd
  rwa [hlt,decide_eq_true_eq] at this
 refine List.pairwise_append.2 ⟨s1,aKy.2 ⟨fun d hd => .inl (hD d hd),s2⟩,fun a ha b hb => ?_⟩
 rcases fU.1 hb with rfl | hb
 ·have h5:=hB a ha
  have h6:=hg a (oV _ ha)
  by_cases e:f a=f b
  ·exact .inr ⟨e,h6⟩
  ·exact .inl (by omega)
 ·exact s3 a ha b hb
theorem aMv{f g:α→Int}{lt:α→α→Bool}(hlt:∀ x y,lt x y=decide (f x<f y))(l:List α)(hl:l.Pairwise (fun a b=>g a<g b)):(isort lt l).Pairwise (fun a b=>f a<f b∨f a=f b∧g a<g b):=by
 unfold isort;have:∀ (l A:List α),l.Pairwise (fun a b=>g a<g b)→(∀ a∈A,∀ x∈l,g a<g x)→A.Pairwise (fun a b=>f a<f b∨f a=f b∧g a<g b)→(l.foldl (ins lt) A).Pairwise (fun a b=>f a<f b∨f a=f b∧g a<g b):=by
  intro l
  induction l with
  | nil=>intro A _ _ h;exact h
  | cons x r ih =>
   intro A hl hA h;obtain ⟨h1,h2⟩:=aKy.1 hl;rw [lE];refine ih _ h2 (fun a ha y hy => ?_) (aXp hlt x h (fun a ha=>hA a ha x (gL ..)))
   rcases fU.1 ((aRc lt A x).mem_iff.1 ha) with rfl | ha
   ·exact h1 y hy
   ·exact hA a ha y (Cj _ hy)
 exact this l [] hl (fun a ha=>by simp at ha) .nil
end
end
section
variable {j x y Ah Ag An Au Ao Al:Int}{L M l:Lqq}{i base:Nat}

noncomputable abbrev aRb:Code:=sub (cd Tryz.f216) [1,0,0,1,0,0,1,0,0]
noncomputable abbrev bAn:Code:=sub (cd Tryz.f216) [1,0,0]
theorem cIl{r0:Bool}(A4:r0=(x != x)):FV Tp 168 [(pI x)] base (pB r0) []:=by
 subst A4;exact FV.fi func168 [] gn
theorem aAf(x:Int){base:Nat}:FV Tp 168 [.p (aA x)] base (pB false) []:=cIl (by simp)
theorem cIm(h0:x<y):FV Tp 116 [(pI x),(pI y)] base (pI (-1)) []:=FV.fi func116 [.c (pB false) [],.c (pB false) [],bF,bF,bT] (gc (aI h0) (gf (gf (gc (fk 0 (aAf y) rfl) (gc (fk 0 (aAf x) rfl) gn)))))
theorem cIn(h0:y≤x)(h1:y<x):FV Tp 116 [(pI x),(pI y)] base (pI 1) []:=FV.fi func116 [.c (pB false) [],.c (pB false) [],bF,bF,bF,bT] (gc (aI h1) (gc (aN h0) (gf (gf (gc (fk 0 (aAf y) rfl) (gc (fk 0 (aAf x) rfl) gn))))))
theorem cIo(h0:y≤x)(h1:x≤y):FV Tp 116 [(pI x),(pI y)] base (pI 0) []:=FV.fi func116 [.c (pB false) [],.c (pB false) [],bF,bF,bF,bF] (gc (aN h1) (gc (aN h0) (gf (gf (gc (fk 0 (aAf y) rfl) (gc (fk 0 (aAf x) rfl) gn))))))
def aCe(x y:Int):Int:=if x<y then -1 else if y<x then 1 else 0
theorem cIp(x y:Int){base:Nat}:FV Tp 116 [.p (aA x),.p (aA y)] base (pI (aCe x y)) []:=by
 unfold aCe
 by_cases h1:x<y
 ·rw [if_pos h1];exact cIm h1
 ·rw [if_neg h1]
  by_cases h2:y<x
  ·rw [if_pos h2];exact cIn (by omega) h2
  ·rw [if_neg h2];exact cIo (by omega) (by omega)
def ltK(f:Nat)(x y:List Int):Bool:=decide (aCe (x.getD f 0) (y.getD f 0)<0)
theorem aMt(f:Nat)(x y:List Int):ltK f x y=decide (x.getD f 0<y.getD f 0):=by
 unfold ltK aCe;rw [decide_eq_decide]
 split
 ·omega
 ·split <;> omega
theorem bAo{a0 a1 a2 b0 b1 b2 r0:Int}(A4:r0=(aCe a2 b2)):FV Tp 152 [(.p (.agg [(aA a0),(aA a1),(aA a2)])),(.p (.agg [(aA b0),(aA b1),(aA b2)]))] base (pI r0) []:=by
 subst A4;have k1:=fk 2 (cIp a2 b2) rfl;exact FV.fi func152 [k1.o] (gc k1 gn)
def oR(l:Lqq)(i:Nat)(Ln:Nat)(Lc:List PV):St:=⟨fr 53 [(0,(.own 0)),(1,(pI 0)),(2,(pI (l.length:Int))),(3,(.fn 152 [] [])),(8,(pI (i:Int)))],[some (.row 48 Ln Lc)]⟩
theorem bAp{Bm:Nat}{L'1:Lqq}(hl0:aE Tp 1 bAn (oR l 1 l.length (l.flatten.map aA)) (.exit 0) (oR l Bm L'1.length (L'1.flatten.map aA))):FMM Tp 216 [(.own 0),(pI 0),(pI (l.length:Int)),(.fn 152 [] [])] [some (.row 48 l.length (l.flatten.map aA))] (.tup []) [some (.row 48 L'1.length (L'1.flatten.map aA))]:=FMM.fi 1 gE func216 [hl0.k 3 (gZ [4,4,9,44])] (gc hl0.code (gt (inR 1) (by unfold inR;omega) gn))
def lW(l:Lqq)(i:Nat)(j:Int)(Mn:Nat)(Mc:List PV):St:=⟨fr 53 [(0,(.own 0)),(1,(pI 0)),(2,(pI (l.length:Int))),(3,(.fn 152 [] [])),(8,(pI (i:Int))),(9,(pI j)),(12,(pI (i:Int))),(13,(pI (l.length:Int))),(14,(pB (decide ((i:Int)<(l.length:Int))))),(17,(pI (i:Int)))],[some (.row 48 Mn Mc)]⟩
theorem aXf{Qs:Int}{M'101:Lqq}{i':Nat}{L':Lqq}(h0:(i:Int)<(l.length:Int))(A2:aE Tp 1 aRb (lW l i (i:Int) L.length (L.flatten.map aA)) (.exit 2) (lW l i Qs M'101.length (M'101.flatten.map aA)))(h2:inR (((i+1):Nat):Int))(Ai:i'=(i+1))(Dx:L'.length=M'101.length)(Dy:L'.flatten.map aA=(M'101.flatten.map aA)):aC Tp 1 bAn (oR l i L.length (L.flatten.map aA)) .normal (oR l i' L'.length (L'.flatten.map aA)):=by
 subst Ai;rw [Dx,Dy];exact aC.fi (gZ [4,4,9,44]) [bT,A2.k 5 (gZ [4,4,10,2,18,35])] (gc h2 (gc A2.code (gc (aI h0) gn)))
theorem aFy(h0:(l.length:Int)≤(i:Int)):aC Tp 1 bAn (oR l i L.length (L.flatten.map aA)) (.exit 0) (oR l i L.length (L.flatten.map aA)):=aC.fi (gZ [4,4,9,44]) [bF] (gc (aN h0) gn)
theorem aXg{j':Int}{M':Lqq}(h0:(0:Int)<j)(h1:M[j.toNat]? = some [Ah,Ag,An])(h2:0≤j)(h3:uni 3 M)(h4:inR (j-1))(h5:M[(j-1).toNat]? = some [Au,Ao,Al])(h6:0≤(j-1))(h7:(aCe An Al)<0)(h8:[(aA Au),(aA Ao),(aA Al)].length=3∧(j.toNat*3)+3≤(M.flatten.map aA).length)(h9:0≤(j-1)∧(j-1)<(M.length:Int))(A5:[(aA Ah),(aA Ag),(aA An)].length=3∧((j-1).toNat*3)+3≤((M.flatten.map aA).take (j.toNat*3)++[(aA Au),(aA Ao),(aA Al)]++(M.flatten.map aA).drop ((j.toNat*3)+3)).length)(Eo:j'=(j-1))(Uc:M'.length=M.length)(Ud:M'.flatten.map aA=(((M.flatten.map aA).take (j.toNat*3)++[(aA Au),(aA Ao),(aA Al)]++(M.flatten.map aA).drop ((j.toNat*3)+3)).take ((j-1).toNat*3)++[(aA Ah),(aA Ag),(aA An)]++((M.flatten.map aA).take (j.toNat*3)++[(aA Au),(aA Ao),(aA Al)]++(M.flatten.map aA).drop ((j.toNat*3)+3)).drop (((j-1).toNat*3)+3))):aC Tp 1 aRb (lW l i j M.length (M.flatten.map aA)) .normal (lW l i j' M'.length (M'.flatten.map aA)):=by
 subst Eo;rw [Uc,Ud];exact aC.fi (gZ [4,4,10,2,18,35]) (rT 5++[.x (.agg [(aA Ah),(aA Ag),(aA An)])]++rT 5++[.x (.agg [(aA Au),(aA Ao),(aA Al)]),bT,.c (pI (aCe An Al)) [],bT,bT,bT,.x (.agg [(aA Au),(aA Ao),(aA Al)]),.x (.agg [(aA Ah),(aA Ag),(aA An)])]) (gc h4 (gc A5 (gc h9 (gc h8 (gc (bZ (i:=j) h2 h1) (gc (iA (i:=j.toNat) h3 h1) (gc (jP (i:=j.toNat) h3 h1) (gc (bZ (i:=j) h2 h1) (gc (iA (i:=(j-1).toNat) h3 h5) (gc (jP (i:=(j-1).toNat) h3 h5) (gc (bZ (i:=(j-1)) h6 h5) (Az h4 (gc (aI h7) (Az (aI h0) (gt (FC Tp 152 [(.p (.agg [(aA Ah),(aA Ag),(aA An)])),(.p (.agg [(aA Au),(aA Ao),(aA Al)]))] [] 1 (pI (aCe An Al)) []) (FV.fc (bAo rfl) rfl) (gc (aI h0) (gc (iA (i:=(j-1).toNat) h3 h5) (gc (jP (i:=(j-1).toNat) h3 h5) (gc (aI h0) (gc (bZ (i:=(j-1)) h6 h5) (gc (aI h0) (gc h4 (Ak (aI h0) (gc (iA (i:=j.toNat) h3 h1) (gc (jP (i:=j.toNat) h3 h1) (gc (aI h0) (gc (bZ (i:=j) h2 h1) (Aw (aI h0) gn))))))))))))))))))))))))))))
theorem aXh(h0:(0:Int)<j)(h1:M[j.toNat]? = some [Ah,Ag,An])(h2:0≤j)(h3:uni 3 M)(h4:inR (j-1))(h5:M[(j-1).toNat]? = some [Au,Ao,Al])(h6:0≤(j-1))(h7:(0:Int)≤(aCe An Al)):aC Tp 1 aRb (lW l i j M.length (M.flatten.map aA)) (.exit 2) (lW l i j M.length (M.flatten.map aA)):=aC.fi (gZ [4,4,10,2,18,35]) (rT 5++[.x (.agg [(aA Ah),(aA Ag),(aA An)])]++rT 5++[.x (.agg [(aA Au),(aA Ao),(aA Al)]),bT,.c (pI (aCe An Al)) [],bT,bT,bF]) (gc (aN h7) (Az (aI h0) (gt (FC Tp 152 [(.p (.agg [(aA Ah),(aA Ag),(aA An)])),(.p (.agg [(aA Au),(aA Ao),(aA Al)]))] [] 1 (pI (aCe An Al)) []) (FV.fc (bAo rfl) rfl) (gc (aI h0) (gc (iA (i:=(j-1).toNat) h3 h5) (gc (jP (i:=(j-1).toNat) h3 h5) (gc (aI h0) (gc (bZ (i:=(j-1)) h6 h5) (gc (aI h0) (gc h4 (Ak (aI h0) (gc (iA (i:=j.toNat) h3 h1) (gc (jP (i:=j.toNat) h3 h1) (gc (aI h0) (gc (bZ (i:=j) h2 h1) (Aw (aI h0) gn))))))))))))))))
theorem aXi(h0:j≤0):aC Tp 1 aRb (lW l i j M.length (M.flatten.map aA)) (.exit 2) (lW l i j M.length (M.flatten.map aA)):=aC.fi (gZ [4,4,10,2,18,35]) (rF 13) (Eu (aN h0) (Bo (aN h0) gn))
theorem cIq(l:Lqq)(i:Nat)(A R:Lqq)(hA:A.length<1000)(hi:i=A.length)(x0 x1 x2:Int)(hu:uni 3 (A++[x0,x1,x2]::R)):∀ m,m≤A.length→(∀ t (h:t<A.length),m≤t→ltK 2 [x0,x1,x2] A[t]=true) →
  aE Tp 1 aRb (lW l i (m:Int) (mv A [x0,x1,x2] m R).length ((mv A [x0,x1,x2] m R).flatten.map aA)) (.exit 2) (lW l i (mP (ltK 2) [x0,x1,x2] A:Int) (ins (ltK 2) A [x0,x1,x2]++R).length ((ins (ltK 2) A [x0,x1,x2]++R).flatten.map aA)):=by
 have huA:∀ y∈A,y.length=3:=fun y hy=>hu y (oV _ hy)
 have huM:∀ m,uni 3 (mv A [x0,x1,x2] m R):=fun m y hy=>by
  unfold mv at hy
  rcases jX.1 hy with h | h
  ·exact huA y (List.mem_of_mem_take h)
  ·rcases fU.1 h with rfl | h
   ·rfl
   ·rcases jX.1 h with h | h
    ·exact huA y (List.mem_of_mem_drop h)
    ·exact hu y (aBw _ (Cj _ h))
 intro m
 induction m with
 | zero =>
  intro _ hlt;have e:=aJn (ltK 2) [x0,x1,x2] A 0 (Nat.zero_le _) hlt (.inl rfl);rw [← bRz,e];exact .exit (aXi (by simp)) (by simp)
 | succ m ih =>
  intro hm hlt;have hy:=Av (show m<A.length by omega)
  generalize A[m]=y at hy
  obtain ⟨y0,y1,y2,rfl⟩:=Da (huA y (Bi hy));have e1:((m+1:Nat):Int).toNat=m+1:=by omega
  have e2:(((m+1:Nat):Int)-1).toNat=m:=by omega
  have hl:=aAg A [x0,x1,x2] (m+1) R hm;have g1:(mv A [x0,x1,x2] (m+1) R)[m+1]? = some [x0,x1,x2]:=by rw [aMu A _ _ R hm];simp
  have g2:(mv A [x0,x1,x2] (m+1) R)[m]? = some [y0,y1,y2]:=by rw [aMu A _ _ R hm,if_pos (by omega)];exact hy
  by_cases hc:aCe x2 y2<0
  ·have st:=tF (k:=3) (i:=m+1) (x:=[y0,y1,y2]) (huM (m+1)) (by omega) rfl
   have Ir:uni 3 ((mv A [x0,x1,x2] (m+1) R).set (m+1) [y0,y1,y2]):=aZc (huM _) rfl;have st2:=tF (k:=3) (i:=m) (x:=[x0,x1,x2]) Ir (by rw [nZ];omega) rfl
   have gm:((mv A [x0,x1,x2] (m+1) R).set (m+1) [y0,y1,y2])[m]? = some [y0,y1,y2]:=by rw [List.getElem?_set,if_neg (by omega)];exact g2
   have hsw:=bYt A [x0,x1,x2] (m+1) R hm (by omega) [y0,y1,y2] (by simpa using hy)
   rw [Nat.add_sub_cancel] at hsw
   simp only [fZ,List.map_nil] at st st2
   refine .step (aXg (j:=((m+1:Nat):Int)) (j':=(m:Int)) (M':=mv A [x0,x1,x2] m R) (by omega) (by rw [e1];exact g1) (by omega) (huM _) (by unfold inR;omega) (by rw [e2];exact g2) (by omega) hc ⟨rfl,by rw [e1];exact jP (huM _) g1⟩ ⟨by omega,by omega⟩ ⟨rfl,?_⟩ (by omega) (by rw [hl,aAg A _ _ R (by omega)]) ?_) (ih (by omega) fun t ht h1 => ?_)
   ·rw [e1,e2,st];exact jP Ir gm
   ·rw [e1,e2,st,st2,hsw]
   ·by_cases h2:t=m
    ·subst h2
     have h3:=hy;rw [Av ht,Option.some.injEq] at h3
     rw [h3];simpa [ltK] using hc
    ·exact hlt t ht (by omega)
  ·have e:=aJn (ltK 2) [x0,x1,x2] A (m+1) hm hlt (.inr ⟨[y0,y1,y2],by simpa using hy,by simpa [ltK] using hc⟩)
   rw [← bRz,e];exact .exit (aXh (by omega) (by rw [e1];exact g1) (by omega) (huM _) (by unfold inR;omega) (by rw [e2];exact g2) (by omega) (by omega)) (by simp)
theorem bYp(l:Lqq)(hu:uni 3 l)(hn:l.length<1000):FMM Tp 216 [.own 0,.p (aA 0),.p (aA (l.length:Int)),.fn 152 [] []] [some (.row 48 l.length (l.flatten.map aA))] (.tup []) [some (.row 48 (isort (ltK 2) l).length ((isort (ltK 2) l).flatten.map aA))]:=by
 have hui:∀ i,uni 3 (isort (ltK 2) (l.take i)):=fun i y hy=>hu y (List.mem_of_mem_take ((vA (ltK 2) _ y).1 hy))
 have key:∀ d i,i+d=l.length→1≤i→aE Tp 1 bAn (oR l i (isort (ltK 2) (l.take i)++l.drop i).length ((isort (ltK 2) (l.take i)++l.drop i).flatten.map aA)) (.exit 0) (oR l l.length (isort (ltK 2) l).length ((isort (ltK 2) l).flatten.map aA)):=by
  intro d
  induction d with
  | zero =>
   intro i hi _;obtain rfl:i=l.length:=by omega
   rw [List.take_length,List.drop_length,List.append_nil];exact .exit (aFy (by omega)) (by simp)
  | succ d ih =>
   intro i hi h1;have hlt:i<l.length:=by omega
   have hx:=hu l[i] (fL hlt);generalize hxx:l[i]=x at hx
   obtain ⟨x0,x1,x2,rfl⟩:=Da hx;have hAl:(isort (ltK 2) (l.take i)).length=i:=by rw [yP,mJ];omega
   have hdr:l.drop i=[x0,x1,x2]::l.drop (i+1):=by rw [aKx hlt,hxx]
   have hin:=cIq l i (isort (ltK 2) (l.take i)) (l.drop (i+1)) (by omega) hAl.symm x0 x1 x2 (by
    intro y hy
    rcases jX.1 hy with h | h
    ·exact hui i y h
    ·rcases fU.1 h with rfl | h
     ·rfl
     ·exact hu y (List.mem_of_mem_drop h)) i (by omega) (fun t ht h2=>by omega)
   have hmv:mv (isort (ltK 2) (l.take i)) [x0,x1,x2] i (l.drop (i+1))=isort (ltK 2) (l.take i)++l.drop i:=by
    have:=cIs (isort (ltK 2) (l.take i)) [x0,x1,x2] (l.drop (i+1));rw [hAl] at this;rw [this,hdr]
   have hsn:=aXm (ltK 2) l i hlt;rw [hxx] at hsn
   rw [hmv,← hsn] at hin
   exact .step (aXf (by omega) hin (by unfold inR;omega) rfl rfl rfl) (ih (i+1) (by omega) (by omega))
 rcases Nat.eq_zero_or_pos l.length with h0 | hp
 ·have:l=[]:=aBu h0
  subst this;exact bAp (aE.exit (aFy (l:=[]) (L:=[]) (i:=1) (by simp)) (by simp))
 ·have:=key (l.length-1) 1 (by omega) (by omega)
  have e1:isort (ltK 2) (l.take 1)++l.drop 1=l:=by
   cases l with
   | nil=>simp at hp
   | cons x r=>simp [isort,ins,mP]
  rw [e1] at this
  exact bAp this
def aCr(l:Lqq)  : St:=⟨fr 63 [(0,(.own 0)),(1,(pI (l.length:Int))),(2,(.fn 152 [] [])),(6,(pI 20)),(7,(pI 0)),(8,(pI 20))],[some (.row 48 l.length (l.flatten.map aA))]⟩
def aCs(l:Lqq)  : St:=⟨fr 63 [(0,(.own 0)),(1,(pI (l.length:Int))),(2,(.fn 152 [] [])),(6,(pI 20)),(7,(pI 0)),(8,(pI 20))],[some (.row 48 ((isort (ltK 2) l).length) ((isort (ltK 2) l).flatten.map aA))]⟩
theorem bYq(hl0:aE Tp 1 (sub (cd Tryz.f188) [1,1,0,0,0]) (aCr l ) (.exit 0) (aCr l ))(h1:uni 3 l)(h2:l.length<1000)(Cn:aE Tp 1 (sub (cd Tryz.f188) [1,1,1,1,0,0]) (aCs l ) (.exit 2) (aCs l )):FMM Tp 188 [(.own 0),(pI (l.length:Int)),(.fn 152 [] [])] [some (.row 48 l.length (l.flatten.map aA))] (.tup []) [some (.row 48 ((isort (ltK 2) l).length) ((isort (ltK 2) l).flatten.map aA))]:=have k1:=mq [0] 1 (bYp l h1 h2);FMM.fi 1 gE func188 [hl0.k 6 (gZ [3,3,10,13,27,1,43,1,60,1]),k1.o,Cn.k 1 (gZ [3,3,10,53])] (gc Cn.code (gc k1 (gc hl0.code gn)))
theorem aXj(h0:(l.length:Int)<20):aC Tp 1 (sub (cd Tryz.f188) [1,1,0,0,0]) (aCr l ) (.exit 0) (aCr l ):=aC.fi (gZ [3,3,10,13,27,1,43,1,60,1]) [bF] (gc (jG h0) gn)
theorem aXk(h0:(l.length:Int)≤20):aC Tp 1 (sub (cd Tryz.f188) [1,1,1,1,0,0]) (aCs l ) (.exit 2) (aCs l ):=aC.fi (gZ [3,3,10,53]) [bF] (gc (aN h0) gn)
theorem bYr(l:Lqq)(hu:uni 3 l)(hn:l.length<20):FMM Tp 188 [.own 0,.p (aA (l.length:Int)),.fn 152 [] []] [some (.row 48 l.length (l.flatten.map aA))] (.tup []) [some (.row 48 (isort (ltK 2) l).length ((isort (ltK 2) l).flatten.map aA))] := 
 bYq (aE.exit (aXj (by omega)) (by simp)) hu (by omega) (aE.exit (aXk (by omega)) (by simp))
theorem bYs(h0:uni 3 l)(h1:l.length<20):FMM Tp 151 [(.own 0),(.fn 152 [] [])] [some (.row 48 l.length (l.flatten.map aA))] (.tup []) [some (.row 48 ((isort (ltK 2) l).length) ((isort (ltK 2) l).flatten.map aA))]:=have k1:=mq [0] 1 (bYr l h0 h1);FMM.fi 1 gE func151 [k1.o] (gc k1 gn)
theorem cIr(l:Lqq)(hu:uni 3 l)(hn:l.length<20):FMM Tp 151 [.own 0,.fn 152 [] []] [some (.row 48 l.length (l.flatten.map aA))] (.tup []) [some (.row 48 (isort (ltK 2) l).length ((isort (ltK 2) l).flatten.map aA))]:=bYs hu hn
end
section
variable {r0 Gc:Bool}{n102 Aq D1 Aa Ab Ah Ag An Au Ao Al:Int}{t t' Eh T104:Lqb}{L p L' Fp Gg:Lqq}{l q u:List Int}{i j i' j' Bm base:Nat}{ov:PV}
variable {dl:Int}{sk dc:Lqq}

noncomputable abbrev aFw:Code:=sub (cd Tryz.f86) [1,1,1,1,0,1,0,0]
noncomputable abbrev aMr:Code:=sub (cd Tryz.f86) [1,1,0,1,0,0]
noncomputable abbrev aAe:Code:=sub (cd Tryz.f129) [1,0,1,0,0]
noncomputable abbrev aMs:Code:=pS (cd Tryz.f21) 5 [0,1,0,0]
theorem bRy:((0:Int) != 0)=false:=by first | decide | simp
theorem aFx{cs:List PV}{a b:Nat}{v x:PV}(hn:a≠b)(h:cs[b]? = some x):(cs.set a v)[b]? = some x:=by rw [bOk hn];exact h
def ocB(q:List Int)(n:Int):Bool:=q.contains n
abbrev cId(dl:Int)(sk dc:Lqq)(ov:PV)(R:Lqq)(T T2:Lqb):Prop:=FMM Tp 86 [qL dl sk dc,zV] (dF dl sk dc ov T) (.own 7) (dF dl sk dc ov T2++[some (.row 48 R.length (R.flatten.map aA))])
def pQ(dl:Int)(sk:Lqq)(dc:Lqq)(ov:PV)(pn:Nat)(pc:List PV)(qn:Nat)(qc:List PV)(i:Nat)(te:List (Value × PV))(tk:Nat):St:=⟨fr 87 [(0,(.rp (aY dl sk dc) 0)),(3,(.ptr 7 0)),(4,(.p bX)),(5,(.own 8)),(6,(.own 9)),(16,(.p (fS sk))),(17,(pI (sk.length:Int))),(18,(pI (i:Int)))],[some (Ga dl sk dc),some (.box 33 [(.p ov)]),some G5,some (.mp te tk),some (.box 207 [(.mp 3)]),some (Gb dl sk dc),some H9,some G5,some (.row 48 pn pc),some (.row 48 qn qc)]⟩
def lC(dl:Int)(sk:Lqq)(dc:Lqq)(ov:PV)(Fp:Lqq)(Gg:Lqq)(Eh:Lqb)(Ln:Nat)(Lc:List PV)(j:Nat):St:=⟨fr 87 [(4,(.p bX)),(5,(.own 7)),(6,(.own 8)),(47,(pI (((isort (ltK 2) Fp).length:Nat):Int))),(48,(pI (j:Int)))],[some (Ga dl sk dc),some (.box 33 [(.p ov)]),some G5,some (.mp (aR Eh) Eh.length),some (.box 207 [(.mp 3)]),some (Gb dl sk dc),some H9,some (.row 48 Ln Lc),some (.row 48 Gg.length (Gg.flatten.map aA))]⟩
theorem cIe{T:Lqb}{B5:Nat}{L'4:Lqq}{X5 N5:Nat}{Ei:List PV}(hl0:aE Tp 7 aMr (pQ dl sk dc ov 0 [] 0 [] 0 (aR T) T.length) (.exit 0) (pQ dl sk dc ov Fp.length (Fp.flatten.map aA) Gg.length (Gg.flatten.map aA) B5 (aR Eh) Eh.length))(h1:uni 3 Fp)(h2:Fp.length<20)(Cn:aE Tp 7 aFw (lC dl sk dc ov Fp Gg Eh ((isort (ltK 2) Fp).length) ((isort (ltK 2) Fp).flatten.map aA) 0) (.exit 2) (lC dl sk dc ov Fp Gg Eh L'4.length (L'4.flatten.map aA) X5))(h4:(Gg.flatten.map aA).length=Gg.length*3∧L'4.length+Gg.length≤1000000)(Nn:N5=(L'4.length+Gg.length))(D2:Ei=((L'4.flatten.map aA)++(Gg.flatten.map aA))):FMM Tp 86 [(.rp (aY dl sk dc) 0),zV] (dF dl sk dc ov T) (.own 7) [some (Ga dl sk dc),some (.box 33 [(.p ov)]),some G5,some (.mp (aR Eh) Eh.length),some (.box 207 [(.mp 3)]),some (Gb dl sk dc),some H9,some (.row 48 N5 Ei)]:=by
 subst Nn D2;have k1:=mq [8] 10 (cIr Fp h1 h2);exact FMM.fi 7 ⟨[],[9],[],[]⟩ func86 [.x (fS sk),hl0.k 1 (gN [1,2,7,4,12,4,19,25,45,1] [7,8,9] [(5,48),(6,48)]),k1.o,Cn.k 4 (gI [0,4,7,40,49,35] [8,9])] (gc h4 (gc Cn.code (gc k1 (gc hl0.code (gr (fS sk) gn)))))
theorem bLd{q:Lqq}{q':Lqq}(h0:(i:Int)<(sk.length:Int))(h1:sk[i]? = some [Aa,Ab])(h2:uni 2 sk)(h3:aGz dl sk dc ov [Aa,Ab] n102 Gc t T104)(h4:Gc=true)(h5:[(aA Aa),(aA (-1)),(aA 0)].length=1*3∧q.length+1≤1000000)(h6:inR (((i+1):Nat):Int))(Jz:q'.length=(q.length+1))(J0:q'.flatten.map aA=((q.flatten.map aA)++[(aA Aa),(aA (-1)),(aA 0)]))(Ai:i'=(i+1))(Be:aR t'=(aR T104))(Bf:t'.length=T104.length):aC Tp 7 aMr (pQ dl sk dc ov p.length (p.flatten.map aA) q.length (q.flatten.map aA) i (aR t) t.length) .normal (pQ dl sk dc ov p.length (p.flatten.map aA) q'.length (q'.flatten.map aA) i' (aR t') t'.length):=by
 subst Ai;have k1:=mq [0,1,2,3,4,5,6] 11 h3;rw [Jz,J0,Be,Bf];exact aC.fi (gI [1,2,7,4,12,4,19,25,45,1] [7,8,12]) [bT,.x (.agg [(aA Aa),(aA Ab)]),k1.o,bT] (gc h6 (gc h5 (gt ([(aA Aa),(aA (-1)),(aA 0)].length=3) (by first | decide | simp) (gc h4 (gc k1 (gfl h2 h1 (gc (aI h0) gn)))))))
theorem bLe{q:Lqq}{p':Lqq}(h0:(i:Int)<(sk.length:Int))(h1:sk[i]? = some [Aa,Ab])(h2:uni 2 sk)(h3:aGz dl sk dc ov [Aa,Ab] n102 Gc t T104)(h4:Gc=false)(h5:[(aA Aa),(aA 0),(aA n102)].length=1*3∧p.length+1≤1000000)(h6:inR (((i+1):Nat):Int))(Ua:p'.length=(p.length+1))(Ub:p'.flatten.map aA=((p.flatten.map aA)++[(aA Aa),(aA 0),(aA n102)]))(Ai:i'=(i+1))(Be:aR t'=(aR T104))(Bf:t'.length=T104.length):aC Tp 7 aMr (pQ dl sk dc ov p.length (p.flatten.map aA) q.length (q.flatten.map aA) i (aR t) t.length) .normal (pQ dl sk dc ov p'.length (p'.flatten.map aA) q.length (q.flatten.map aA) i' (aR t') t'.length):=by
 subst Ai;have k1:=mq [0,1,2,3,4,5,6] 11 h3;rw [Ua,Ub,Be,Bf];exact aC.fi (gI [1,2,7,4,12,4,19,25,45,1] [7,12,9]) [bT,.x (.agg [(aA Aa),(aA Ab)]),k1.o,bF] (gc h6 (gc h5 (gt ([(aA Aa),(aA 0),(aA n102)].length=3) (by first | decide | simp) (gc h4 (gc k1 (gfl h2 h1 (gc (aI h0) gn)))))))
theorem bLf{q:Lqq}(h0:(sk.length:Int)≤(i:Int)):aC Tp 7 aMr (pQ dl sk dc ov p.length (p.flatten.map aA) q.length (q.flatten.map aA) i (aR t) t.length) (.exit 0) (pQ dl sk dc ov p.length (p.flatten.map aA) q.length (q.flatten.map aA) i (aR t) t.length):=aC.fi (gI [1,2,7,4,12,4,19,25,45,1] [7,8,9]) [bF] (gc (aN h0) gn)
theorem bLg(h0:(j:Int)<(((isort (ltK 2) Fp).length:Nat):Int))(h1:inR (((j+1):Nat):Int))(h2:L[j]? = some [Ah,Ag,An])(h3:((j*3)+1)<(L.flatten.map aA).length)(h4:(0:Int)<(j:Int))(h5:uni 3 L)(h6:inR ((j:Int)-1))(h7:L[((j:Int)-1).toNat]? = some [Au,Ao,Al])(h8:0≤((j:Int)-1))(h9:An=Al)(A5:((j*3)+1)<((L.flatten.map aA).set ((j*3)+1) (aA (((j+1):Nat):Int))).length)(Dx:L'.length=L.length)(Dy:L'.flatten.map aA=(((L.flatten.map aA).set ((j*3)+1) (aA (((j+1):Nat):Int))).set ((j*3)+1) (aA Ao)))(Eo:j'=(j+1)):aC Tp 7 aFw (lC dl sk dc ov Fp Gg Eh L.length (L.flatten.map aA) j) .normal (lC dl sk dc ov Fp Gg Eh L'.length (L'.flatten.map aA) j'):=by
 subst Eo;rw [Dx,Dy];exact aC.fi (gI [0,4,7,40,49,35] [7,8]) (rT 6++[.x (aA An)]++rT 6++[.x (aA Al),bT,bT,bT,.x (aA Ao)]) (gc h1 (gc A5 (gc (bZ (i:=(j:Int)) (Br _) h2) (gt (((L.flatten.map aA).set ((j*3)+1) (aA (((j+1):Nat):Int)))[((((j:Int)-1).toNat*3)+1)]? = some (aA Ao)) (aFx (by omega) (bE (i:=((j:Int)-1).toNat) (f:=1) h5 h7 rfl)) (gc (bZ (i:=((j:Int)-1)) h8 h7) (gc h6 (gc (cH h9) (Az (aI h4) (gt (((L.flatten.map aA).set ((j*3)+1) (aA (((j+1):Nat):Int)))[((((j:Int)-1).toNat*3)+2)]? = some (aA Al)) (aFx (by omega) (bE (i:=((j:Int)-1).toNat) (f:=2) h5 h7 rfl)) (Az (aI h4) (gc (bZ (i:=((j:Int)-1)) h8 h7) (gc (aI h4) (gc h6 (Ak (aI h4) (gt (((L.flatten.map aA).set ((j*3)+1) (aA (((j+1):Nat):Int)))[((j*3)+2)]? = some (aA An)) (aFx (by omega) (bE (i:=j) (f:=2) h5 h2 rfl)) (Az (aI h4) (gc (bZ (i:=(j:Int)) (Br _) h2) (Ak (aI h4) (gc h3 (gc (bZ (i:=(j:Int)) (Br _) h2) (gc h1 (gc (aI h0) gn))))))))))))))))))))))
theorem bLh(h0:(j:Int)<(((isort (ltK 2) Fp).length:Nat):Int))(h1:inR (((j+1):Nat):Int))(h2:L[j]? = some [Ah,Ag,An])(h3:((j*3)+1)<(L.flatten.map aA).length)(h4:(0:Int)<(j:Int))(h5:uni 3 L)(h6:inR ((j:Int)-1))(h7:L[((j:Int)-1).toNat]? = some [Au,Ao,Al])(h8:0≤((j:Int)-1))(h9:An≠Al)(Dx:L'.length=L.length)(Dy:L'.flatten.map aA=((L.flatten.map aA).set ((j*3)+1) (aA (((j+1):Nat):Int))))(Eo:j'=(j+1)):aC Tp 7 aFw (lC dl sk dc ov Fp Gg Eh L.length (L.flatten.map aA) j) .normal (lC dl sk dc ov Fp Gg Eh L'.length (L'.flatten.map aA) j'):=by
 subst Eo;rw [Dx,Dy];exact aC.fi (gI [0,4,7,40,49,35] [7,8]) (rT 6++[.x (aA An)]++rT 6++[.x (aA Al),bT,bT,bF]) (gc h1 (gc (aU h9) (Az (aI h4) (gt (((L.flatten.map aA).set ((j*3)+1) (aA (((j+1):Nat):Int)))[((((j:Int)-1).toNat*3)+2)]? = some (aA Al)) (aFx (by omega) (bE (i:=((j:Int)-1).toNat) (f:=2) h5 h7 rfl)) (Az (aI h4) (gc (bZ (i:=((j:Int)-1)) h8 h7) (gc (aI h4) (gc h6 (Ak (aI h4) (gt (((L.flatten.map aA).set ((j*3)+1) (aA (((j+1):Nat):Int)))[((j*3)+2)]? = some (aA An)) (aFx (by omega) (bE (i:=j) (f:=2) h5 h2 rfl)) (Az (aI h4) (gc (bZ (i:=(j:Int)) (Br _) h2) (Ak (aI h4) (gc h3 (gc (bZ (i:=(j:Int)) (Br _) h2) (gc h1 (gc (aI h0) gn)))))))))))))))))
theorem bLi(h0:(j:Int)<(((isort (ltK 2) Fp).length:Nat):Int))(h1:inR (((j+1):Nat):Int))(h2:L[j]? = some [Ah,Ag,An])(h3:((j*3)+1)<(L.flatten.map aA).length)(h4:(j:Int)≤0)(Dx:L'.length=L.length)(Dy:L'.flatten.map aA=((L.flatten.map aA).set ((j*3)+1) (aA (((j+1):Nat):Int))))(Eo:j'=(j+1)):aC Tp 7 aFw (lC dl sk dc ov Fp Gg Eh L.length (L.flatten.map aA) j) .normal (lC dl sk dc ov Fp Gg Eh L'.length (L'.flatten.map aA) j'):=by
 subst Eo;rw [Dx,Dy];exact aC.fi (gI [0,4,7,40,49,35] [7,8]) ([bT]++rF 13) (gc h1 (Eu (aN h4) (Bo (aN h4) (gc h3 (gc (bZ (i:=(j:Int)) (Br _) h2) (gc h1 (gc (aI h0) gn)))))))
theorem bLj(h0:(((isort (ltK 2) Fp).length:Nat):Int)≤(j:Int)):aC Tp 7 aFw (lC dl sk dc ov Fp Gg Eh L.length (L.flatten.map aA) j) (.exit 2) (lC dl sk dc ov Fp Gg Eh L.length (L.flatten.map aA) j):=aC.fi (gI [0,4,7,40,49,35] [7,8]) [bF] (gc (aN h0) gn)
theorem cIf{dl:Int}{sk dc R0:Lqq}{T1:Lqb}(h0:bR dl sk dc)(h1:cId dl (aB sk) (aB dc) bX R0 ([]:Lqb) T1):FV Tp 28 [(.p (.agg (bB dl sk dc)))] base (.tup [(.own base),(pI 0)]) [(base,(.row 48 R0.length (R0.flatten.map aA)))]:=have k1:=fk 1 (fE dl sk dc h0) rfl;have k2:=mN [] 1 (aLy (dl:=dl) (sk:=(aB sk)) (dc:=(aB dc)));have k3:=mq [1,2,3,4,5,6,7] 8 h1;FV.fi func28 [k1.o,bF,k2.o,k3.o] (gc k3 (gc k2 (gc bRy (gc k1 gn))))
theorem cIg{n:Int}(h0:q.length≤1000)(A4:r0=(q.contains n)):FV Tp 85 [(pI n),(.rp [(aG q)] 0)] base (pB r0) []:=by
 subst A4;have k1:=fk 0 (pD q n h0) rfl;exact FV.fi func85 [.x (aG q),k1.o] (gc k1 (gr (aG q) gn))
theorem cIh(n:Int)(q:List Int)(hq:q.length≤1000){base:Nat}:FV Tp 85 [.p (aA n),.rp [aG q] 0] base (pB (ocB q n)) []:=cIg hq rfl
theorem bYj{x:Int}(h0:q.length≤1000)(A4:r0=(!(ocB q x))):FMM Tp 150 [(pI x),(.ptr 0 0)] [some (.box 96 [(.fn 85 [] [(.rp [(aG q)] 0)])])] (pB r0) [some (.box 96 [(.fn 85 [] [(.rp [(aG q)] 0)])])]:=by
 subst A4;exact FMM.fi 1 gE func150 [.c (pB (ocB q x)) []] (gc (fk 1 (cIh x q h0) rfl) gn)
theorem bAm(x:Int)(q:List Int)(he:q.length≤1000):FMM Tp 150 [(pI x),.ptr 0 0] [some (.box 96 [(.fn 85 [] [(.rp [(aG q)] 0)])])] (pB (!(ocB q x))) [some (.box 96 [(.fn 85 [] [(.rp [(aG q)] 0)])])]:=bYj he rfl
def jD(l:List Int)(q:List Int)(i:Nat):St:=⟨fr 19 [(0,(.p (aG l))),(1,(.fn 150 [] [(.ptr 0 0)])),(7,(pI (l.length:Int))),(8,(pI (i:Int)))],[some (.box 96 [(.fn 85 [] [(.rp [(aG q)] 0)])])]⟩
theorem bYk(hl0:aE Tp 1 aAe (jD l q 0) (.exit 0) (jD l q Bm)):FMM Tp 129 [(.p (aG l)),(.fn 150 [] [(.ptr 0 0)])] [some (.box 96 [(.fn 85 [] [(.rp [(aG q)] 0)])])] (pI (-1)) [some (.box 96 [(.fn 85 [] [(.rp [(aG q)] 0)])])]:=FMM.fi 1 gE func129 [hl0.k 6 (gZ [2,5,9,10])] (gc hl0.code gn)
theorem bYl(hl0:aE Tp 1 aAe (jD l q 0) .ret (bS (jD l q Bm) [(4,(pI (Bm:Int)))])):FMM Tp 129 [(.p (aG l)),(.fn 150 [] [(.ptr 0 0)])] [some (.box 96 [(.fn 85 [] [(.rp [(aG q)] 0)])])] (pI (Bm:Int)) [some (.box 96 [(.fn 85 [] [(.rp [(aG q)] 0)])])]:=FMM.fi 1 gE func129 [hl0.k 6 (gZ [2,5,9,10])] (gc hl0.code gn)
theorem aXc(h0:(i:Int)<(l.length:Int))(h1:l[i]? = some Aq)(h2:q.length≤1000)(h3:(ocB q Aq)=false):aC Tp 1 aAe (jD l q i) .ret (bS (jD l q i) [(4,(pI (i:Int)))]):=have k1:=mq [0] 1 (bAm Aq q h2);aC.fi (gZ [2,2,5,2,9,10]) [bT,.x (aA Aq),k1.o,bT] (gc (bM h3) (gc k1 (gc (atm aA h1) (gc (ixn aA h1) (gc (aI h0) gn)))))
theorem aXd(h0:(i:Int)<(l.length:Int))(h1:l[i]? = some Aq)(h2:q.length≤1000)(h3:(ocB q Aq)=true)(h4:inR (((i+1):Nat):Int))(Ai:i'=(i+1)):aC Tp 1 aAe (jD l q i) .normal (jD l q i'):=by
 subst Ai;have k1:=mq [0] 1 (bAm Aq q h2);exact aC.fi (gZ [2,5,9,10]) [bT,.x (aA Aq),k1.o,bF] (gc h4 (gc (aV h3) (gc k1 (gc (atm aA h1) (gc (ixn aA h1) (gc (aI h0) gn))))))
theorem aXe(h0:(l.length:Int)≤(i:Int)):aC Tp 1 aAe (jD l q i) (.exit 0) (jD l q i):=aC.fi (gZ [2,5,9,10]) [bF] (gc (aN h0) gn)
theorem bYm(l:List Int)(q:List Int)(hl:l.length≤1000)(he:∀ x∈l,q.length≤1000):FMM Tp 129 [.p (aG l),(.fn 150 [] [(.ptr 0 0)])] [some (.box 96 [(.fn 85 [] [(.rp [(aG q)] 0)])])] (pI (bJ (fun x => !(ocB q x)) l)) [some (.box 96 [(.fn 85 [] [(.rp [(aG q)] 0)])])]:=by
 rcases aE.find (P:=Tp) (k:=1) (b:=aAe) (fun i=>jD l q i) (fun i _=>bS (jD l q i) [(4,.p (aA (i:Int)))]) (jD l q l.length) .ret (.exit 0) (by simp) (by simp) (fun x => !(ocB q x)) l
  (fun i x hx hp=>by exact aXd (by have:=aO hx;omega) hx (he _ (Bi hx)) (by simpa using hp) (aH (by have:=aO hx;omega)) rfl)
  (fun i x hx hp=>by exact aXc (by have:=aO hx;omega) hx (he _ (Bi hx)) (by simpa using hp))
  (aXe (l:=l) (i:=l.length) (by omega)) with ⟨i,x,h1,h2,h3,h4⟩ | ⟨h1,h2,h3⟩
 ·rw [eF h2];exact bYl h4
 ·rw [gS h1];exact bYk h3
theorem bYn(h0:l.length≤1000)(h1:∀ x∈l,q.length≤1000)(A4:r0=(decide ((bJ (fun x => !(ocB q x)) l) ≥ 0))):FMM Tp 149 [(.p (aG l)),(.fn 150 [] [(.ptr 0 0)])] [some (.box 96 [(.fn 85 [] [(.rp [(aG q)] 0)])])] (pB r0) [some (.box 96 [(.fn 85 [] [(.rp [(aG q)] 0)])])]:=by
 subst A4;have k1:=mq [0] 1 (bYm l q h0 h1);exact FMM.fi 1 gE func149 [k1.o] (gc k1 gn)
theorem bYo(l:List Int)(q:List Int)(hl:l.length≤1000)(he:∀ x∈l,q.length≤1000):FMM Tp 149 [.p (aG l),(.fn 150 [] [(.ptr 0 0)])] [some (.box 96 [(.fn 85 [] [(.rp [(aG q)] 0)])])] (pB (l.any (fun x => !(ocB q x)))) [some (.box 96 [(.fn 85 [] [(.rp [(aG q)] 0)])])]:=bYn hl he (lZ _ _).symm
theorem cIi(h0:l.length≤1000)(h1:∀ x∈l,q.length≤1000)(A4:r0=(!(l.any (fun x => !(ocB q x))))):FV Tp 84 [(.p (aG l)),(.fn 85 [] [(.rp [(aG q)] 0)])] base (pB r0) []:=by
 subst A4;have k1:=mq [0] 1 (bYo l q h0 h1);exact FV.fi func84 [k1.o] (gc k1 gn)
theorem cIj(l:List Int)(q:List Int)(hl:l.length≤1000)(he:∀ x∈l,q.length≤1000){base:Nat}:FV Tp 84 [.p (aG l),(.fn 85 [] [(.rp [(aG q)] 0)])] base (pB (l.all (ocB q))) []:=cIi hl he (by rw [List.all_eq_not_any_not])
def jK(dl:Int)(sk:Lqq)(dc:Lqq)(u:List Int)(i:Int):St:=⟨fr 45 [(1,(.p (aG u))),(6,(.rp (aY dl (aB sk) (aB dc)) 0)),(9,(pI i))],[]⟩
theorem cIk{Bm:Int}{R1:Lqq}{T2:Lqb}(h0:bR dl sk dc)(h1:bN (aB dc))(h2:u.length≤1000)(h3:∀ x∈u,(aP dl (aB dc)).length≤1000)(h4:(u.all (ocB (aP dl (aB dc))))=true)(Ea:aE Tp 0 aMs (jK dl sk dc u 1) (.exit 0) (jK dl sk dc u Bm))(h6:cId dl (aB sk) (aB dc) (aG u) R1 ([]:Lqb) T2):FV Tp 21 [(.p (.agg (bB dl sk dc))),(.p (aG u))] base (.tup [(.own base),(pI 0)]) [(base,(.row 48 R1.length (R1.flatten.map aA)))]:=have k1:=fk 1 (fE dl sk dc h0) rfl;have k2:=fk 1 (rR (dl:=dl) (sk:=(aB sk)) (dc:=(aB dc)) h1) rfl;have k3:=fk 1 (cIj u (aP dl (aB dc)) h2 h3) rfl;have k4:=mN [] 0 (rU (dl:=dl) (sk:=(aB sk)) (dc:=(aB dc)) (on:=u.length) (ol:=(u.map aA)));have k5:=mq [0,1,2,3,4,5,6] 7 h6;FV.fi func21 [k1.o,bF,k2.o,.g 2 ⟨[],[0],[1,2],[]⟩,k3.o,bF,Ea.k 4 (gZ [0,1,2,4,7,2,10,30]),k4.o,k5.o] (gc k5 (gc k4 (gc Ea.code (gc (aV h4) (gc k3 (gc k2 (gc bRy (gc k1 gn))))))))
theorem bLk{i:Int}(h0:i<(u.length:Int))(h1:u[i.toNat]? = some Aq)(h2:0≤i)(h3:inR (i-1))(h4:u[(i-1).toNat]? = some D1)(h5:0≤(i-1))(h6:Aq≤D1):aC Tp 0 aMs (jK dl sk dc u i) .ret (bS (jK dl sk dc u i) [(4,(.p bX)),(5,(pI 4))]):=aC.fi (gZ [0,1,2,2,7,2,10,30]) [bT,.x (aA Aq),.x (aA D1),bT] (gc (mA h6) (gt ((u.map aA)[((i-1).toNat*1)]? = some (aA D1)) (iK (i:=(i-1).toNat) h4) (gc (iL (g:=aA) h5 h4) (gc h3 (gt ((u.map aA)[(i.toNat*1)]? = some (aA Aq)) (iK (i:=i.toNat) h1) (gc (iL (g:=aA) h2 h1) (gc (aI h0) gn)))))))
theorem bLl{i i':Int}(h0:i<(u.length:Int))(h1:u[i.toNat]? = some Aq)(h2:0≤i)(h3:inR (i-1))(h4:u[(i-1).toNat]? = some D1)(h5:0≤(i-1))(h6:D1<Aq)(h7:inR (i+1))(Ai:i'=(i+1)):aC Tp 0 aMs (jK dl sk dc u i) .normal (jK dl sk dc u i'):=by
 subst Ai;exact aC.fi (gZ [0,1,2,4,7,2,10,30]) [bT,.x (aA Aq),.x (aA D1),bF] (gc h7 (gc (jG h6) (gt ((u.map aA)[((i-1).toNat*1)]? = some (aA D1)) (iK (i:=(i-1).toNat) h4) (gc (iL (g:=aA) h5 h4) (gc h3 (gt ((u.map aA)[(i.toNat*1)]? = some (aA Aq)) (iK (i:=i.toNat) h1) (gc (iL (g:=aA) h2 h1) (gc (aI h0) gn))))))))
theorem aJm{i:Int}(h0:(u.length:Int)≤i):aC Tp 0 aMs (jK dl sk dc u i) (.exit 0) (jK dl sk dc u i):=aC.fi (gZ [0,1,2,4,7,2,10,30]) [bF] (gc (aN h0) gn)
end
section
variable {n8:Int}{o q:List Int}{i l s:Nat}

def fG(q:List Int)(s i:Nat):List Int:=((List.range i).filter fun j=>s / 2 ^ j % 2 == 1).map fun j=>q.getD j 0
def iE(q:List Int):Lqq:=(List.range (2 ^ q.length)).map fun s=>fG q s q.length

theorem bXy(h0:0≤(q.length:Int)∧(q.length:Int)≤60∧IntKind.i64 = .i64)(h1:inR ((1:Int)*2 ^ ((q.length:Int).toNat))):dU Tp 0 (sub (cd Tryz.f182) [0]) ⟨fr 35 [(0,(.yld l)),(1,(.rp [(aG q)] 0))],[]⟩ .normal ⟨fr 35 [(0,(.yld l)),(1,(.rp [(aG q)] 0)),(8,(pI ((1:Int)*2 ^ ((q.length:Int).toNat)))),(9,(pI 0))],[]⟩:=dU.fi (gZ [2,6,10,25]) [.x (aG q)] (gc h1 (gc h0 (gr (aG q) gn)))
theorem bXz:dU Tp 0 (sub (cd Tryz.f182) [1,0,0,0]) ⟨fr 35 [(0,(.yld l)),(1,(.rp [(aG q)] 0)),(8,(pI n8)),(9,(pI (s:Int)))],[]⟩ .normal ⟨fr 35 [(0,(.yld l)),(1,(.rp [(aG q)] 0)),(8,(pI n8)),(9,(pI (s:Int))),(10,(pB (decide ((s:Int)<n8))))],[]⟩:=dU.fi (gZ [2,6,11,24]) [] gn
theorem bYa:dU Tp 0 (sub (cd Tryz.f182) [1,0,0,1,1,0,0,0]) ⟨fr 35 [(0,(.yld l)),(1,(.rp [(aG q)] 0)),(8,(pI n8)),(9,(pI (s:Int)))],[]⟩ .normal ⟨fr 35 [(0,(.yld l)),(1,(.rp [(aG q)] 0)),(3,(pI (s:Int))),(8,(pI n8)),(9,(pI (s:Int)))],[]⟩:=dU.fi (gZ [2,1,4,4,10,25]) [] gn
theorem bYb:dU Tp 0 (sub (cd Tryz.f182) [1,0,0,1,1,0,0,1,0]) ⟨fr 35 [(0,(.yld l)),(1,(.rp [(aG q)] 0)),(3,(pI (s:Int))),(8,(pI n8)),(9,(pI (s:Int)))],[]⟩ .normal ⟨fr 35 [(0,(.yld l)),(1,(.rp [(aG q)] 0)),(3,(pI (s:Int))),(4,(.p bX)),(8,(pI n8)),(9,(pI (s:Int)))],[]⟩:=dU.fi (gZ [2,1,5,3,10,25]) [] gn
theorem bYc:dU Tp 0 (sub (cd Tryz.f182) [1,0,0,1,1,0,0,1,1,0,0]) ⟨fr 35 [(0,(.yld l)),(1,(.rp [(aG q)] 0)),(3,(pI (s:Int))),(4,(.p bX)),(8,(pI n8)),(9,(pI (s:Int)))],[]⟩ .normal ⟨fr 35 [(0,(.yld l)),(1,(.rp [(aG q)] 0)),(3,(pI (s:Int))),(4,(.own 0)),(8,(pI n8)),(9,(pI (s:Int))),(13,(pI (q.length:Int))),(14,(pI 0))],[some (.row 3 0 [])]⟩:=dU.fi (gN [2,1,5,3,10,3,15,20] [0] [(4,3)]) [.x (aG q)] (gr (aG q) gn)
theorem bYd:dU Tp 0 (sub (cd Tryz.f182) [1,0,0,1,1,0,0,1,1,0,1,0,0,0]) ⟨fr 35 [(0,(.yld l)),(1,(.rp [(aG q)] 0)),(3,(pI (s:Int))),(4,(.own 0)),(8,(pI n8)),(9,(pI (s:Int))),(13,(pI (q.length:Int))),(14,(pI (i:Int)))],[some (.row 3 o.length (o.map aA))]⟩ .normal ⟨fr 35 [(0,(.yld l)),(1,(.rp [(aG q)] 0)),(3,(pI (s:Int))),(4,(.own 0)),(8,(pI n8)),(9,(pI (s:Int))),(13,(pI (q.length:Int))),(14,(pI (i:Int))),(15,(pB (decide ((i:Int)<(q.length:Int)))))],[some (.row 3 o.length (o.map aA))]⟩:=dU.fi (gI [2,1,5,3,10,3,16,19] [0]) [] gn
theorem bYe:dU Tp 0 (sub (cd Tryz.f182) [1,0,0,1,1,0,0,1,1,0,1,0,0,1,1,0,0,0]) ⟨fr 35 [(0,(.yld l)),(1,(.rp [(aG q)] 0)),(3,(pI (s:Int))),(4,(.own 0)),(8,(pI n8)),(9,(pI (s:Int))),(13,(pI (q.length:Int))),(14,(pI (i:Int)))],[some (.row 3 o.length (o.map aA))]⟩ .normal ⟨fr 35 [(0,(.yld l)),(1,(.rp [(aG q)] 0)),(3,(pI (s:Int))),(4,(.own 0)),(5,(pI (i:Int))),(8,(pI n8)),(9,(pI (s:Int))),(13,(pI (q.length:Int))),(14,(pI (i:Int)))],[some (.row 3 o.length (o.map aA))]⟩:=dU.fi (gI [2,1,6,2,10,3,15,20] [0]) [] gn
theorem bYf(h0:0≤((s:Int).fdiv (2 ^ min ((i:Int).toNat) (IntKind.bits .i64)))∧((s:Int).fdiv (2 ^ min ((i:Int).toNat) (IntKind.bits .i64)))≤9223372036854775807∧(1:Int)=1∧IntKind.i64 = .i64):dU Tp 0 (sub (cd Tryz.f182) [1,0,0,1,1,0,0,1,1,0,1,0,0,1,1,0,0,1,0]) ⟨fr 35 [(0,(.yld l)),(1,(.rp [(aG q)] 0)),(3,(pI (s:Int))),(4,(.own 0)),(5,(pI (i:Int))),(8,(pI n8)),(9,(pI (s:Int))),(13,(pI (q.length:Int))),(14,(pI (i:Int)))],[some (.row 3 o.length (o.map aA))]⟩ .normal ⟨fr 35 [(0,(.yld l)),(1,(.rp [(aG q)] 0)),(3,(pI (s:Int))),(4,(.own 0)),(5,(pI (i:Int))),(8,(pI n8)),(9,(pI (s:Int))),(13,(pI (q.length:Int))),(14,(pI (i:Int))),(21,(pB ((((s:Int).fdiv (2 ^ min ((i:Int).toNat) (IntKind.bits .i64))) % 2) == 1)))],[some (.row 3 o.length (o.map aA))]⟩:=dU.fi (gI [2,1,6,2,10,3,15,6,22,13] [0]) [] (gc h0 (gt (0≤(i:Int)) (Br _) gn))
theorem bYg{x0:Int}(h0:q[i]? = some x0)(h1:[(aA x0)].length=1*1∧o.length+1≤1000000):dU Tp 0 (sub (cd Tryz.f182) [1,0,0,1,1,0,0,1,1,0,1,0,0,1,1,0,0,1,1,0]) ⟨fr 35 [(0,(.yld l)),(1,(.rp [(aG q)] 0)),(3,(pI (s:Int))),(4,(.own 0)),(5,(pI (i:Int))),(8,(pI n8)),(9,(pI (s:Int))),(13,(pI (q.length:Int))),(14,(pI (i:Int)))],[some (.row 3 o.length (o.map aA))]⟩ .normal ⟨fr 35 [(0,(.yld l)),(1,(.rp [(aG q)] 0)),(3,(pI (s:Int))),(4,(.own 0)),(8,(pI n8)),(9,(pI (s:Int))),(13,(pI (q.length:Int))),(14,(pI (i:Int)))],[some (.row 3 (o.length+1) ((o.map aA)++[(aA x0)]))]⟩:=dU.fi (gI [2,1,5,3,10,3,15,20] [2]) [.x (aG q),.x (aA x0)] (gc h1 (gc (atm aA h0) (gc (ixn aA h0) (gr (aG q) gn))))
theorem bYh(h0:inR (((i+1):Nat):Int)):dU Tp 0 (sub (cd Tryz.f182) [1,0,0,1,1,0,0,1,1,0,1,0,0,1,1,1]) ⟨fr 35 [(0,(.yld l)),(1,(.rp [(aG q)] 0)),(3,(pI (s:Int))),(4,(.own 0)),(8,(pI n8)),(9,(pI (s:Int))),(13,(pI (q.length:Int))),(14,(pI (i:Int)))],[some (.row 3 o.length (o.map aA))]⟩ .normal ⟨fr 35 [(0,(.yld l)),(1,(.rp [(aG q)] 0)),(3,(pI (s:Int))),(4,(.own 0)),(8,(pI n8)),(9,(pI (s:Int))),(13,(pI (q.length:Int))),(14,(pI (((i+1):Nat):Int)))],[some (.row 3 o.length (o.map aA))]⟩:=dU.fi (gI [2,1,5,3,10,3,15,20] [0]) [] (gc h0 gn)
theorem bYi(h0:inR (((s+1):Nat):Int)):dU Tp 0 (sub (cd Tryz.f182) [1,0,0,1,1,1]) ⟨fr 35 [(0,(.yld l)),(1,(.rp [(aG q)] 0)),(8,(pI n8)),(9,(pI (s:Int)))],[]⟩ .normal ⟨fr 35 [(0,(.yld l)),(1,(.rp [(aG q)] 0)),(8,(pI n8)),(9,(pI (((s+1):Nat):Int)))],[]⟩:=dU.fi (gZ [2,6,10,25]) [] (gc h0 gn)
end
end KV
end Go.Proofs
section
namespace Go.Proofs
open Go.RowKit
namespace KV
open Tryz
attribute [local go_sem] Oper.semAt_some
theorem aCq(l:List (Nat × AV)):∀ (n k:Nat),(frm l n k).length=n
 | 0,_=>rfl
 | n+1,k=>by unfold frm;rw [nX,aCq]
theorem aXa(l:List (Nat × AV)):∀ (n k j:Nat) (h:j<(frm l n k).length),(frm l n k)[j]=look l (k+j)
 | 0,_,j,h=>by simp [frm] at h
 | n+1,k,0,h=>rfl
 | n+1,k,j+1,h=>by
  have:=aXa l n (k+1) j (by rw [aCq] at h ⊢;omega)
  rw [show k+(j+1)=k+1+j by omega]
  exact this
theorem aQy{C:Cx}{M:Mem}{w:World}{us:Array Value}:∀ {l:List (Nat × AV)},(∀ p∈l,Rep C M w p.2 (us.getD p.1 undef))→∀ j,Rep C M w (look l j) (us.getD j undef)
 | [],_,j => .any _
 | (i,x)::r,h,j=>by
  unfold look
  split
  ·rename_i hb
   rw [← Nat.eq_of_beq_eq_true hb];exact h (i,x) (gL ..)
  ·exact aQy (fun p hp=>h p (Cj _ hp)) j
theorem aQz{C:Cx}{M:Mem}{w:World}{us:Array Value}{n:Nat}{l:List (Nat × AV)}(hs:us.size=n)(h:∀ p∈l,Rep C M w p.2 (us.getD p.1 undef)):eI C M w (fr n l) us:=by
 refine ⟨by rw [hs,aCq],fun i hi => ?_⟩
 rw [aXa,gU];exact aQy h _
theorem xC{C:Cx}{M:Mem}{w:World}{us:Array Value}{n:Nat}{l:List (Nat × AV)}(h:eI C M w (fr n l) us)(i:Nat)(hi:i<n):Rep C M w (look l i) (us.getD i undef):=by
 have:=h.rep i (by rw [aCq];exact hi)
 rwa [aXa,gU] at this

section
variable {P:Program}
def InK(Cv:Cx)(V:World)(v0:Value)(st:St)(a:Act)(w:World):Prop:=Sim Tp Cv [] V st a w∧a.tmps.getD 1 undef=v0∧a.defers=[]
theorem InK.step{Cv:Cx}{V:World}{v0:Value}{c:Code}{st Am:St}{a:Act}{w:World}{n:Nat}{K:Act→World→Prop}{Q:Exit→Act→World→Prop}(h:dU Tp 0 c st .normal Am)(hw:wrR c 1=false)(hi:InK Cv V v0 st a w)
  (hK:∀ a' w',InK Cv V v0 Am a' w'→K a' w'):c.wpIn (Fen none) n Tp (Exit.then K Q) a w :=
 wpIn_mono (h Cv [] V a w (by simp) hi.1 none n) fun e a' w' hq=>by
  obtain ⟨he,hs,hk⟩:=hq;subst he;exact hK a' w' ⟨hs,(hk.1 1 hw).trans hi.2.1,hk.2.trans hi.2.2⟩
end
noncomputable abbrev cO:Code:=cd Tryz.f182
abbrev stA(l:Nat)(q:List Int)(n8:Int)(s:Nat):St:=⟨fr 35 [(0,.yld l),(1,.rp [aG q] 0),(8,.p (aA n8)),(9,.p (aA (s:Int)))],[]⟩
abbrev stB(l:Nat)(q:List Int)(n8:Int)(s:Nat)(o:List Int)(i:Nat):St:=⟨fr 35 [(0,.yld l),(1,.rp [aG q] 0),(3,.p (aA (s:Int))),(4,.own 0),(8,.p (aA n8)),(9,.p (aA (s:Int))),(13,.p (aA (q.length:Int))),(14,.p (aA (i:Int)))],[some (.row 3 o.length (o.map aA))]⟩
theorem bLb(q:List Int)(s i:Nat):fG q s (i+1)=fG q s i++if s / 2 ^ i % 2 == 1 then [q.getD i 0] else []:=by
 unfold fG;rw [List.range_succ,kU,fM]
 congr 1
 cases h:s / 2 ^ i % 2 == 1 <;> simp [h]
theorem aRa(q:List Int)(s i:Nat):(fG q s i).length≤i:=by
 unfold fG;rw [Cb];have:=mI (fun j=>s / 2 ^ j % 2 == 1) (List.range i)
 rwa [aGv] at this
theorem bXx(s i:Nat)(hi:i≤60):(s:Int).fdiv (2 ^ min ((i:Int).toNat) (IntKind.bits .i64))=((s / 2 ^ i:Nat):Int):=by
 have hb:IntKind.bits .i64=64:=rfl;rw [aPo,hb,Nat.min_eq_left (by omega),Int.fdiv_eq_ediv_of_nonneg _ (by exact_mod_cast Nat.zero_le _)]
 push_cast
 rfl
theorem bRs{Cv:Cx}{V:World}{v0:Value}{l:Nat}{q:List Int}{n8:Int}{s:Nat}(hq:q.length≤60)(hs:s≤9223372036854775807){n:Nat}{K:Act→World→Prop}{Q:Exit→Act→World→Prop}{a:Act}{w:World}
  (hi:InK Cv V v0 (stB l q n8 s [] 0) a w) (hK:∀ a' w',InK Cv V v0 (stB l q n8 s (fG q s q.length) q.length) a' w'→K a' w') :
  (Code.block 2 (.loop (sub cO [1,0,0,1,1,0,0,1,1,0,1,0,0]))).wpIn (Fen none) n Tp (Exit.then K Q) a w:=by
 refine wpIn_block ?_;refine wpIn_loop_ghost (fun k a w=>∃ i,i≤q.length∧k=q.length-i∧InK Cv V v0 (stB l q n8 s (fG q s i) i) a w) q.length ⟨0,by omega,by omega,hi⟩ ?_
 rintro k a w ⟨i,hil,rfl,hI⟩;have e1:sub cO [1,0,0,1,1,0,0,1,1,0,1,0,0] = .seq (sub cO [1,0,0,1,1,0,0,1,1,0,1,0,0,0]) (.seq (.cond (.tmp 15) .skip (.exit 2)) (.seq (.block 3 (.seq (sub cO [1,0,0,1,1,0,0,1,1,0,1,0,0,1,1,0,0,0]) (.seq (sub cO [1,0,0,1,1,0,0,1,1,0,1,0,0,1,1,0,0,1,0]) (.cond (.tmp 21) (sub cO [1,0,0,1,1,0,0,1,1,0,1,0,0,1,1,0,0,1,1,0]) .skip)))) (sub cO [1,0,0,1,1,0,0,1,1,0,1,0,0,1,1,1]))):=by kernel_rfl
 rw [e1];refine wpIn_seq ?_;refine InK.step bYd (by kernel_rfl) hI fun a1 w1 h1 => ?_
 refine wpIn_seq ?_;obtain ⟨⟨C1,J6,_⟩,_⟩:=id h1;have Qo:a1.eval (.tmp 15) = .bool (decide ((i:Int)<(q.length:Int))):=by
  have:=xC J6 15 (by omega)
  show a1.tmps.getD 15 undef=_;generalize a1.tmps.getD 15 undef=u at this
  have h2:Rep C1 _ w1 (.p (.v (.bool (decide ((i:Int)<(q.length:Int)))))) u:=this;cases h2 with
  | p _ _ h=>cases h;rfl
 by_cases hlt:i<q.length
 ·refine wpIn_cond_true (by rw [Qo,decide_eq_true (by omega)]) (wpIn_skip ?_)
  show Code.wpIn _ _ _ _ _ _ _;have Je:InK Cv V v0 (stB l q n8 s (fG q s i) i) a1 w1:=⟨(eV (g:=⟨[15],[0],[],[]⟩) (k:=0) (dG _) (by kernel_rfl) h1.1),h1.2⟩
  refine wpIn_seq ?_;have hsd:=bXx s i (by omega)
  have hx:q[i]? = some (q.getD i 0):=by rw [Bv,Av hlt];rfl
  have hpl:=aRa q s i;have hfin:∀ a2 w2,InK Cv V v0 (stB l q n8 s (fG q s (i+1)) i) a2 w2→(sub cO [1,0,0,1,1,0,0,1,1,0,1,0,0,1,1,1]).wpIn (Fen none) n Tp (Exit.then (fun a' w'=>∃ n',n'<q.length-i∧∃ i',i'≤q.length∧n'=q.length-i'∧InK Cv V v0 (stB l q n8 s (fG q s i') i') a' w') (Exit.inBlock 2 (Exit.then K Q))) a2 w2:=fun a2 w2 h2 =>
   InK.step (bYh (aH (by omega))) (by kernel_rfl) h2 fun a3 w3 h3=>⟨q.length-(i+1),by omega,i+1,by omega,rfl,h3⟩
  refine wpIn_block ?_;refine wpIn_seq ?_;refine InK.step bYe (by kernel_rfl) Je fun a2 w2 h2 => ?_
  refine wpIn_seq ?_;have hle:s / 2 ^ i≤s:=Nat.div_le_self _ _;refine InK.step (bYf (s:=s) (i:=i) ⟨by rw [hsd];exact Br _,by rw [hsd];exact Int.ofNat_le.2 (fB hle hs),rfl,rfl⟩) (by kernel_rfl) h2 fun a3 w3 h3 => ?_
  obtain ⟨⟨C3,Kr,_⟩,_⟩:=id h3;have Qp:a3.eval (.tmp 21) = .bool (s / 2 ^ i % 2 == 1):=by
   have:=xC Kr 21 (by omega)
   show a3.tmps.getD 21 undef=_;generalize a3.tmps.getD 21 undef=u at this
   have h2:Rep C3 _ w3 (.p (.v (.bool (((s:Int).fdiv (2 ^ min ((i:Int).toNat) (IntKind.bits .i64))) % 2 == 1)))) u:=this;cases h2 with
   | p _ _ h =>
    cases h;rw [hsd]
    congr 1
    generalize s / 2 ^ i=z;rw [Bool.eq_iff_iff,beq_iff_eq,beq_iff_eq];omega
  have Ks:InK Cv V v0 ⟨fr 35 [(0,.yld l),(1,.rp [aG q] 0),(3,.p (aA (s:Int))),(4,.own 0),(5,.p (aA (i:Int))),(8,.p (aA n8)),(9,.p (aA (s:Int))),(13,.p (aA (q.length:Int))),(14,.p (aA (i:Int)))],[some (.row 3 (fG q s i).length ((fG q s i).map aA))]⟩ a3 w3:=⟨(eV (g:=⟨[21],[0],[],[]⟩) (k:=0) (dG _) (by kernel_rfl) h3.1),h3.2⟩
  have hp:=bLb q s i;cases hb:s / 2 ^ i % 2 == 1 with
  | true =>
   refine wpIn_cond_true (by rw [Qp,hb]) ?_
   rw [hb,if_pos rfl] at hp
   refine wpIn_mono (bYg (o:=fG q s i) hx ⟨rfl,by omega⟩ Cv [] V a3 w3 (by simp) Ks.1 none n) ?_
   rintro e a4 w4 ⟨rfl,h4,Vh⟩;refine hfin a4 w4 ⟨?_,(Vh.1 1 (by kernel_rfl)).trans Ks.2.1,Vh.2.trans Ks.2.2⟩
   have e8:(stB l q n8 s (fG q s (i+1)) i)=⟨fr 35 [(0,.yld l),(1,.rp [aG q] 0),(3,.p (aA (s:Int))),(4,.own 0),(8,.p (aA n8)),(9,.p (aA (s:Int))),(13,.p (aA (q.length:Int))),(14,.p (aA (i:Int)))],[some (.row 3 ((fG q s i).length+1) ((fG q s i).map aA++[aA (q.getD i 0)]))]⟩:=by
    rw [hp];unfold stB;rw [iF,fM];rfl
   rw [e8];exact h4
  | false =>
   refine wpIn_cond_false (by rw [Qp,hb]) (wpIn_skip ?_)
   rw [hb,if_neg (by simp),List.append_nil] at hp
   refine hfin a3 w3 ?_;rw [hp];exact ⟨(eV (g:=⟨[5],[0],[],[]⟩) (k:=0) (dG _) (by kernel_rfl) Ks.1),Ks.2⟩
 ·obtain rfl:i=q.length:=by omega
  refine wpIn_cond_false (by rw [Qo,decide_eq_false (by omega)]) (wpIn_exit ?_)
  show Exit.inBlock 2 (Exit.then K Q) (.exit 2) a1 w1
  unfold Exit.inBlock;dsimp only;rw [if_pos rfl];exact hK a1 w1 ⟨(eV (g:=⟨[15],[0],[],[]⟩) (k:=0) (dG _) (by kernel_rfl) h1.1),h1.2⟩
theorem aMq{a:Act}{W:World}{l id t0 t1 t2 t3:Nat}{ts:Array TypeId}{p0 p1 p2 p3:String}{f0 f1 f2 f3:Array Edge}{u:Value}{A B:World→Prop}{K:Act→World→Prop}{Q:Exit→Act→World→Prop}
  (hs:a.tmps.size=35) (h0:a.tmps.getD 0 undef = .func (.yield l) #[] #[]) (h4:a.tmps.getD 4 undef=u)
  (hy:YieldAt (Fen none) 1 Tp l #[u] W (fun e W'=>(e = .returned (.bool true)∧A W')∨(e = .returned (.bool false)∧B W')))
  (hA:∀ a' W',A W'→a'.defers=a.defers→a'.tmps.size=35→(∀ i,i<30→a'.tmps.getD i undef=a.tmps.getD i undef)→a'.tmps.getD 33 undef = .bool false→K a' W')
  (hB:∀ a' W',B W'→a'.defers=a.defers→a'.tmps.getD 33 undef = .bool true→K a' W') :
  (Code.region id #[{ dst:=some 30,op := .move (.tmp 0),type:=t0,pos:=p0,after:=f0,guard:=none },{ dst:=some 31,op := .move (.tmp 4),type:=t1,pos:=p1,after:=f1,guard:=none },
   {dst:=some 32,op := .call { callee := .value (.tmp 30),args := #[.tmp 31],argTypes:=ts },type:=t2,pos:=p2,after:=f2,guard:=none },{ dst:=some 33,op := .unOp .not 4 (.tmp 32),type:=t3,pos:=p3,after:=f3,guard:=none }] false).wpIn (Fen none) 2 Tp (Exit.then K Q) a W:=by
 refine wpIn_region_lit (wpListIn_plain rfl fun K1 Ty => ?_)
 unfold Oper.wpIn;refine ⟨fun f _=>trivial,?_⟩
 rw [Oper.semAt_plain _ _ _ (by intro c Hy;cases Hy)]
 simp only [execOp,Sem.run_pure];refine Ty _ _ (wpListIn_plain rfl fun K2 Px => ?_)
 unfold Oper.wpIn;refine ⟨fun f _=>trivial,?_⟩
 rw [Oper.semAt_plain _ _ _ (by intro c Hy;cases Hy)]
 simp only [execOp,Sem.run_pure];refine Px _ _ (wpListIn_plain rfl fun K3 Qb => ?_)
 unfold Oper.wpIn;refine ⟨fun f _=>trivial,?_⟩
 rw [Oper.semAt_plain _ _ _ (by intro c Hy;cases Hy)]
 obtain ⟨fn,tmps,assign,body,hrun,hR⟩:=hy;have Tz:(((a.put (some 30) (a.eval (.tmp 0))).put (some 31) ((a.put (some 30) (a.eval (.tmp 0))).eval (.tmp 4)))).eval (.tmp 30) = .func (.yield l) #[] #[]:=by
  show ((a.tmps.setIfInBounds 30 (a.tmps.getD 0 undef)).setIfInBounds 31 _).getD 30 undef=_;rw [h0];simp [B4,Array.getElem?_setIfInBounds,hs]
 have T0:(((a.put (some 30) (a.eval (.tmp 0))).put (some 31) ((a.put (some 30) (a.eval (.tmp 0))).eval (.tmp 4)))).eval (.tmp 31)=u:=by
  show ((a.tmps.setIfInBounds 30 (a.tmps.getD 0 undef)).setIfInBounds 31 ((a.tmps.setIfInBounds 30 (a.tmps.getD 0 undef)).getD 4 undef)).getD 31 undef=_;rw [← h4];simp [B4,Array.getElem?_setIfInBounds,hs]
 have Qa:∀ i,i<30→(((a.put (some 30) (a.eval (.tmp 0))).put (some 31) ((a.put (some 30) (a.eval (.tmp 0))).eval (.tmp 4)))).tmps.getD i undef=a.tmps.getD i undef:=fun i hi=>by
  rw [qR (fun e=>by cases e;omega),qR (fun e=>by cases e;omega)]
 have eD:(((a.put (some 30) (a.eval (.tmp 0))).put (some 31) ((a.put (some 30) (a.eval (.tmp 0))).eval (.tmp 4)))).defers=a.defers:=rfl;have eS:(((a.put (some 30) (a.eval (.tmp 0))).put (some 31) ((a.put (some 30) (a.eval (.tmp 0))).eval (.tmp 4)))).tmps.size=35:=by
  show ((a.tmps.setIfInBounds _ _).setIfInBounds _ _).size=35;simp [hs]
 revert Tz T0 Qa eD eS;dsimp only;generalize (((a.put (some 30) (a.eval (.tmp 0))).put (some 31) ((a.put (some 30) (a.eval (.tmp 0))).eval (.tmp 4))))=a2;intro Tz T0 Qa eD eS;have er:Sem.run Tp (execOp a2.eval { dst:=some 32,op := .call { callee := .value (.tmp 30),args := #[.tmp 31],argTypes:=ts },type:=t2,pos:=p2,after:=f2,guard:=none }) W = .ok (.round l fn tmps assign body) W:=by
  rw [← hrun];simp only [execOp,resolve,Deferred.ofValue,Tz,T0,List.map_toArray,fZ,List.map_nil,Sem.run_bind,Sem.run_pure,invoke];simp
 rw [er,Oper.uponIn_round];refine ⟨fun h=>by simp [Fen,Fence.wide] at h,hR.mono ?_⟩
 have last:∀ (b:Bool) (w3:World),(∀ a',a'.defers=a.defers→a'.tmps.size=35→(∀ i,i<30→a'.tmps.getD i undef=a.tmps.getD i undef)→a'.tmps.getD 33 undef = .bool (!b)→K a' w3)→K3 (a2.put (some 32) (.bool b)) w3:=fun b w3 hfin=>by
  refine Qb _ _ (wpListIn_plain rfl fun K4 P2 => ?_)
  unfold Oper.wpIn;refine ⟨fun f _=>trivial,?_⟩
  rw [Oper.semAt_plain _ _ _ (by intro c Hy;cases Hy)]
  have Xw:(a2.put (some 32) (.bool b)).eval (.tmp 32) = .bool b:=by
   show (a2.tmps.setIfInBounds 32 _).getD 32 undef=_;simp [B4,eS]
  have eu:Sem.run Tp (execOp (a2.put (some 32) (.bool b)).eval { dst:=some 33,op := .unOp .not 4 (.tmp 32),type:=t3,pos:=p3,after:=f3,guard:=none }) w3 = .ok (.value (.bool !b)) w3:=by
   simp only [execOp,Xw];rfl
  rw [eu];refine P2 _ _ (wpListIn_nil (hfin _ eD ?_ (fun i hi => ?_) ?_))
  ·show ((a2.tmps.setIfInBounds _ _).setIfInBounds _ _).size=35
   simp [eS]
  ·rw [qR (fun e=>by cases e;omega),qR (fun e=>by cases e;omega)]
   exact Qa i hi
  ·show ((a2.tmps.setIfInBounds 32 _).setIfInBounds 33 _).getD 33 undef=_
   simp [B4,eS]
 rintro e w3 (⟨rfl,h⟩ | ⟨rfl,h⟩)
 ·exact last true w3 fun a' h1 h2 h3 h4=>hA a' w3 h h1 h2 h3 h4
 ·exact last false w3 fun a' h1 h2 h3 h4=>hB a' w3 h h1 h4
end KV
end Go.Proofs
end
section
namespace Go.Proofs
open Go.RowKit
namespace KV
open Tryz
structure Lp (l:Nat) (v0:Value) (n8:Int) (s:Nat) (a:Act):Prop where
 size:a.tmps.size=35
 s0:a.tmps.getD 0 undef = .func (.yield l) #[] #[]
 s1:a.tmps.getD 1 undef=v0
 s8:a.tmps.getD 8 undef = .int .i64 n8
 s9:a.tmps.getD 9 undef = .int .i64 (s:Int)
 df:a.defers=[]
abbrev cxF(F:Nat→Prop):Cx:={ ι:=fun _=>none,κ:=fun _=>0,F:=F,R:=[] }
theorem bAk{P:Program}{F:Nat→Prop}{W:World}(hF:∀ b,F b→b<W.heap.size):aT P (cxF F) [] W :=
 ⟨fun _ _ _ _ h=>by simp at h,fun _ _ _ h=>by simp at h,fun _ _ _ h=>by simp at h,fun _ _ _ _ _ h=>by simp at h,fun _ _ _ h=>by simp at h,hF,fun _ _ _ h=>by simp at h⟩
theorem aQw{C:Cx}{M:Mem}{w:World}{n:Int}{u:Value}(h:Rep C M w (.p (aA n)) u):u = .int .i64 n:=by
 cases h with
 | p _ _ h=>cases h;rfl
theorem Lp.ink{F:Nat→Prop}{l:Nat}{v0:Value}{q:List Int}{n8:Int}{s:Nat}{a:Act}{W:World}(h:Lp l v0 n8 s a)(hF:∀ b,F b→b<W.heap.size)(hr:Rep (cxF F) [] W (.rp [aG q] 0) v0):InK (cxF F) W v0 (stA l q n8 s) a W:=by
 refine ⟨⟨cxF F,aQz h.size ?_,bAk hF,Fr.refl _ _ _,?_⟩,h.s1,h.df⟩
 ·intro p hp
  simp only [fU,List.not_mem_nil,or_false] at hp
  rcases hp with rfl | rfl | rfl | rfl
  ·rw [h.s0];exact .yld l
  ·rw [h.s1];exact hr
  ·rw [h.s8];exact .p _ _ (.v _)
  ·rw [h.s9];exact .p _ _ (.v _)
 ·rw [h.df];exact .nil rfl (pZ rfl)
theorem InK.lp{Cv:Cx}{V W:World}{l:Nat}{v0:Value}{n8:Int}{s:Nat}{a:Act}{st:St}(h:InK Cv V v0 st a W)(M3:st.t.length=35)(e0:st.t[0]? = some (.yld l))(e8:st.t[8]? = some (.p (aA n8)))(e9:st.t[9]? = some (.p (aA (s:Int)))):Lp l v0 n8 s a:=by
 obtain ⟨⟨C,hS,_⟩,h1,hd⟩:=h;refine ⟨hS.size.trans M3,?_,h1,aQw (hS.at e8),aQw (hS.at e9),hd⟩
 have:=hS.at e0
 revert this;generalize a.tmps.getD 0 undef=u;intro this;cases this;rfl
theorem aQx{C0 C:Cx}{V W:World}{M:Mem}(h:Fr C0 [] V C M W):V.grownBy W none :=
 ⟨h.os,h.tape,h.out,h.size,fun k hk _=>h.keep k hk (fun _ _ h=>by simp at h)⟩
theorem InK.grown{Cv:Cx}{V W:World}{v0:Value}{st:St}{a:Act}(h:InK Cv V v0 st a W):V.grownBy W none:=by
 obtain ⟨⟨C,_,_,hF,_⟩,_⟩:=h;exact aQx hF
theorem InK.kp{Cv:Cx}{V W:World}{v0:Value}{st:St}{a:Act}(h:InK Cv V v0 st a W){F:Nat→Prop}(hF:∀ b,F b→b<V.heap.size):KpG F V W :=
 ⟨h.grown.size,fun b hb=>qT h.grown b (hF b hb)⟩
theorem InK.rowH{F:Nat→Prop}{V W:World}{v0:Value}{st:St}{a:Act}{o:List Int}(h:InK (cxF F) V v0 st a W)(e4:st.t[4]? = some (.own 0))(em:st.m=[some (nD o)])(hl:o.length≤1000):bRu Tp (o,a.tmps.getD 4 undef) V W:=by
 obtain ⟨⟨C,hS,hM,hF,_⟩,_⟩:=h;refine ⟨hl,C,em ▸ hM,em ▸ hS.at e4,fun b hb => ?_⟩
 rcases hF.new 0 (nD o) b (by rw [em];rfl) rfl hb with h | ⟨i,o',h,_⟩
 ·exact h
 ·simp at h
theorem bAl{n:Nat}(h:n≤1152921504606846977):inR (n:Int):=by unfold inR;omega
theorem bRr{n:Nat}(h:n≤60):(2:Nat) ^ n≤1152921504606846976:=fB (Nat.pow_le_pow_right (by omega) h) (by decide)
theorem bKy(q:List Int)(s:Nat)(h:s<2 ^ q.length):(iE q).take (s+1)=(iE q).take s++[fG q s q.length]:=by
 rw [List.take_add_one]
 congr 1
 unfold iE;rw [fR,nP h];rfl
theorem yO(q:List Int):(iE q).length=2 ^ q.length:=by unfold iE;simp
set_option maxHeartbeats 2000000 in
theorem bKz{F:Nat→Prop}{q:List Int}(hq:q.length≤60){l:Nat}{v0:Value}{w:World}(hF:∀ b,F b→b<w.heap.size)(hr:Rep (cxF F) [] w (.rp [aG q] 0) v0){a:Act}(ha:a.tmps.size=35)(Xt:a.tmps.getD 0 undef = .func (.yield l) #[] #[])(N4:a.tmps.getD 1 undef=v0)(had:a.defers=[])
  {J Jx:List (List Int × Value)→World→Prop} (hJ:AbidesFrom w.heap.size J) (hJx:AbidesFrom w.heap.size Jx)
  (hY:∀ pre x W0 W1,J pre W0→W0.grownBy W1 none→bRu Tp x W0 W1→pre.length<2 ^ q.length→YieldAt (Fen none) 1 Tp l #[x.2] W1 fun e W' =>
   (e = .returned (.bool true)∧J (pre++[x]) W'∧KpG F W0 W')∨(e = .returned (.bool false)∧Jx (pre++[x]) W'))
  (h0:J [] w) {R:Ending→World→Prop} (hR:∀ W',((∃ xs:List (List Int × Value),xs.map (·.1)=iE q∧J xs W')∨(∃ pre:List (List Int × Value),pre.map (·.1) <+: iE q∧Jx pre W'))→R (.returned (.tuple #[])) W') :
  cO.wpIn (Fen none) 2 Tp (bodyPost Tp Tryz.f182 R) a w:=by
 have hpow:=bRr hq;obtain ⟨N,hN⟩:∃ N,2 ^ q.length=N:=⟨_,rfl⟩;rw [hN] at hpow
 have c0 : cO = .seq (sub cO [0]) (.block 0 (.loop (.seq (sub cO [1, 0, 0, 0]) (.seq (.cond (.tmp 10) .skip (.exit 0)) (.seq (.block 1 (.seq (sub cO [1, 0, 0, 1, 1, 0, 0, 0]) (.seq (sub cO [1, 0, 0, 1, 1, 0, 0, 1, 0]) (.seq (.seq (sub cO [1, 0, 0, 1, 1, 0, 0, 1, 1, 0, 0]) (.block 2 (.loop (sub cO [1, 0, 0, 1, 1, 0, 0, 1, 1, 0, 1, 0, 0])))) (.seq (.region 10 #[{ dst := some 30, op := .move (.tmp 0), type := 155, pos := "outcome.go:38", after := #[], guard := none }, { dst := some 31, op := .move (.tmp 4), type := 33, pos := "outcome.go:38", after := #[], guard := none }, { dst := some 32, op := .call { callee := .value (.tmp 30), args := #[.tmp 31], argTypes := #[33] }, type := 4, pos := "outcome.go:38", after := #[{ on := 0, ground := .data }, { on := 1, ground := .data }], guard := none }, { dst := some 33, op := .unOp .not 4 (.tmp 32), type := 4, pos := "outcome.go:38", after := #[{ on := 2, ground := .data }], guard := none }] false) (.cond (.tmp 33) .ret .skip)))))) (sub cO [1, 0, 0, 1, 1, 1])))))) := by kernel_rfl
 rw [c0];have hsame:∀ {W'},KpG F w W'→Rep (cxF F) [] W' (.rp [aG q] 0) v0:=fun hk=>by
  cases hr with
  | rp _ _ b o us h1 h2 h3 =>
   exact .rp _ _ b o us (fun i hi=>⟨(h1 i hi).1,(eT (hk.same b (h1 i hi).1) _).trans (h1 i hi).2⟩) (fun i hi=>(h2 i hi).mono (fun _ h=>h) hk.same) h3
 have hFw:∀ {W'},KpG F w W'→∀ b,F b→b<W'.heap.size:=fun hk b hb=>fY (hF b hb) hk.size
 have Vg:(1:Int)*2 ^ ((q.length:Int).toNat)=(N:Int):=by
  rw [aPo,Int.one_mul,← hN];push_cast;rfl
 have Tv:InK (cxF F) w v0 ⟨fr 35 [(0,.yld l),(1,.rp [aG q] 0)],[]⟩ a w:=by
  refine ⟨⟨cxF F,aQz ha ?_,bAk hF,Fr.refl _ _ _,by rw [had];exact .nil rfl (pZ rfl)⟩,N4,had⟩
  intro p hp;simp only [fU,List.not_mem_nil,or_false] at hp
  rcases hp with rfl | rfl
  ·rw [Xt];exact .yld l
  ·rw [N4];exact hr
 refine wpIn_seq ?_;refine InK.step (bXy (l:=l) (q:=q) ⟨by omega,by omega,rfl⟩ (by rw [Vg];exact bAl (by omega))) (by kernel_rfl) Tv fun a1 w1 h1 => ?_
 rw [Vg] at h1
 refine wpIn_block ?_;refine wpIn_loop_ghost (fun k a W=>∃ s,s≤N∧k=N-s∧Lp l v0 (N:Int) s a∧KpG F w W∧∃ pre:List (List Int × Value),pre.map (·.1)=(iE q).take s∧J pre W) (N)
  ⟨0,by omega,by omega,h1.lp (s:=0) (by rfl) (by rfl) (by rfl) (by rfl),h1.kp hF,[],by simp,hJ [] w w1 none h0 h1.grown (fun r e=>by cases e)⟩ ?_
 rintro k a W ⟨s,hs,rfl,hL,hK,pre,hpre,hJp⟩;have hI:=hL.ink (hFw hK) (hsame hK);have grow:∀ {W0 W':World} {ys},KpG F w W0→J ys W0→W0.grownBy W' none→J ys W':=fun hk hj hg=>hJ _ _ _ none hj hg (fun r e=>by cases e)
 refine wpIn_seq ?_;refine InK.step bXz (by kernel_rfl) hI fun a2 w2 h2 => ?_
 have Ql:a2.eval (.tmp 10) = .bool (decide ((s:Int)<(N:Int))):=by
  obtain ⟨⟨C2,Qm,_⟩,_⟩:=id h2;have:=xC Qm 10 (by omega)
  show a2.tmps.getD 10 undef=_;revert this;generalize a2.tmps.getD 10 undef=u;intro this;have h3:Rep C2 _ w2 (.p (.v (.bool (decide ((s:Int)<(N:Int)))))) u:=this;cases h3 with
  | p _ _ h=>cases h;rfl
 refine wpIn_seq ?_
 by_cases hlt:s<N
 ·refine wpIn_cond_true (by rw [Ql,decide_eq_true (by omega)]) (wpIn_skip ?_)
  show Code.wpIn _ _ _ _ _ _ _;have Gj:InK (cxF F) W v0 (stA l q (N:Int) s) a2 w2:=⟨(eV (g:=⟨[10],[],[],[]⟩) (k:=0) (dG _) (by kernel_rfl) h2.1),h2.2⟩
  refine wpIn_seq ?_;refine wpIn_block ?_;refine wpIn_seq ?_;refine InK.step bYa (by kernel_rfl) Gj fun a3 w3 h3 => ?_
  refine wpIn_seq ?_;refine InK.step bYb (by kernel_rfl) h3 fun a4 w4 h4 => ?_
  refine wpIn_seq ?_;refine wpIn_seq ?_;refine InK.step bYc (by kernel_rfl) h4 fun a5 w5 h5 => ?_
  refine bRs hq (by omega) h5 fun a6 w6 h6 => ?_
  refine wpIn_seq ?_;have Mp:Lp l v0 (N:Int) s a6:=h6.lp (s:=s) (by rfl) (by rfl) (by rfl) (by rfl)
  have hpl:pre.length=s:=by
   have:=congrArg List.length hpre;rw [Cb,mJ,yO,hN] at this
   omega
  have hrow:bRu Tp (fG q s q.length,a6.tmps.getD 4 undef) W w6:=h6.rowH (by rfl) (by rfl) (fB (aRa q s q.length) (by omega))
  have hmap:(pre++[(fG q s q.length,a6.tmps.getD 4 undef)]).map (·.1)=(iE q).take (s+1):=by
   rw [bKy q s (hN ▸ hlt),fM,hpre];rfl
  refine aMq Mp.size Mp.s0 rfl (hY pre _ W w6 hJp h6.grown hrow (by omega)) (A:=fun W'=>J (pre++[(fG q s q.length,a6.tmps.getD 4 undef)]) W'∧KpG F W W') (B:=fun W'=>Jx (pre++[(fG q s q.length,a6.tmps.getD 4 undef)]) W') ?_ ?_
  ·rintro a7 w7 ⟨Tw,Xu⟩ Tx S8 Ec Kz
   refine wpIn_cond_false Kz (wpIn_skip ?_);show Code.wpIn _ _ _ _ _ _ _;have Xv:Lp l v0 (N:Int) s a7:=⟨S8,(Ec 0 (by omega)).trans Mp.s0,(Ec 1 (by omega)).trans Mp.s1,(Ec 8 (by omega)).trans Mp.s8,(Ec 9 (by omega)).trans Mp.s9,Tx.trans Mp.df⟩
   have Qn:=hK.trans Xu;refine InK.step (bYi (bAl (by omega))) (by kernel_rfl) (Xv.ink (hFw Qn) (hsame Qn)) fun a8 w8 h8 => ?_
   exact ⟨N-(s+1),by omega,s+1,by omega,rfl,h8.lp (by rfl) (by rfl) (by rfl) (by rfl),Qn.trans (h8.kp (hFw Qn)),_,hmap,grow Qn Tw h8.grown⟩
  ·rintro a7 w7 Tw Tx Kz
   refine wpIn_cond_true Kz (wpIn_ret ?_);exact bodyPost_ret (results_none rfl _ _ _) (Tx.trans Mp.df) (hR _ (.inr ⟨_,by rw [hmap];exact List.take_prefix _ _,Tw⟩))
 ·have hsN:s=N:=by omega
  subst hsN;refine wpIn_cond_false (by rw [Ql,decide_eq_false (by omega)]) (wpIn_exit ?_)
  have Gl:Lp l v0 (s:Int) s a2:=h2.lp (by rfl) (by rfl) (by rfl) (by rfl)
  show Exit.inBlock 0 (bodyPost Tp Tryz.f182 R) (.exit 0) a2 w2;unfold Exit.inBlock;dsimp only;rw [if_pos rfl];refine ⟨Gl.df,_,results_none rfl _ _ _,hR _ (.inl ⟨pre,?_,grow hK hJp h2.grown⟩)⟩;rw [hpre,← hN,← yO,List.take_length]
theorem cLa{C:Cx}{M:Mem}{w:World}{cs:List PV}{k:Nat}{u:Value}(h:Rep C M w (.rp cs k) u):Rep (cxF C.F) [] w (.rp cs k) u:=by
 cases h with
 | rp _ _ b o us h1 h2 h3=>exact .rp _ _ b o us h1 h2 h3
theorem cLb{F:Nat→Prop}{w W:World}{cs:List PV}{k:Nat}{u:Value}(h:Rep (cxF F) [] w (.rp cs k) u)(hk:KpG F w W):Rep (cxF F) [] W (.rp cs k) u:=by
 cases h with
 | rp _ _ b o us h1 h2 h3=>exact .rp _ _ b o us (fun i hi=>⟨(h1 i hi).1,(eT (hk.same b (h1 i hi).1) _).trans (h1 i hi).2⟩) (fun i hi=>(h2 i hi).mono (fun _ h=>h) hk.same) h3
theorem bLa(y v0:Value)(k:Nat):(#[y] ++ #[v0]++Array.replicate k undef).size=2+k∧(#[y] ++ #[v0]++Array.replicate k undef).getD 0 undef=y∧(#[y] ++ #[v0]++Array.replicate k undef).getD 1 undef=v0:=by
 refine ⟨by simp,?_,?_⟩ <;> simp [B4,Array.getElem?_append]
theorem aJi(q:List Int)(hq:q.length≤60):cAd Tp (.fn 182 [] [.rp [aG q] 0]) 182 (2 ^ q.length) (iE q):=fun C M w u Pq hFs=>by
 cases Pq with
 | fn _ _ _ us vs h1 h2 h3 h4 =>
  obtain rfl:us = #[]:=by simpa using h1
  have q0:=h4 0 (by simp)
  simp only [List.getElem_cons_zero] at q0
  obtain ⟨v0,rfl⟩:∃ v0,vs = #[v0]:=by
   have:vs.toList.length=1:=by simpa using h2
   match hv:vs.toList,this with
   | [x0],_=>exact ⟨x0,by rw [← hv]⟩
  change Rep C M w (.rp [aG q] 0) v0 at q0
  have hr:=cLa q0;refine ⟨#[v0],rfl,fun l J Jx W hW hJ hJx hY h0 => ?_⟩
  have hk:KpG C.F w W:=⟨hW.size,fun b hb=>hW.block b (hFs b hb)⟩
  have G6:=cLb hr hk;refine callsIn_of_wp func182 rfl trivial ?_ rfl;obtain ⟨k1,k2,k3⟩:=bLa (.func (.yield l) #[] #[]) v0 (Tryz.f182.ntmps-(#[Value.func (.yield l) #[] #[]] ++ #[v0]).size);exact bKz hq (fun b hb=>fY (hFs b hb) hW.size) G6 (a:={ tmps := #[.func (.yield l) #[] #[]] ++ #[v0]++Array.replicate (Tryz.f182.ntmps-(#[Value.func (.yield l) #[] #[]] ++ #[v0]).size) undef,defers:=[] }) k1 k2 k3 rfl hJ hJx hY h0 fun W' h=>⟨⟨_,rfl⟩,h⟩
end KV
end Go.Proofs
end
namespace Go.Proofs
namespace KV
open Tryz
section
variable {r0 Ca:Bool}{m n dl tm bib Aq:Int}{dc sk:Lqq}{c l c' Cg:List Int}{i j i' i0 j' Bm B5 Np base:Nat}
variable {dl:Int}{sk dc:Lqq}

noncomputable abbrev pN:Code:=sub (cd Tryz.f129) [1,0,1,0,0]
noncomputable abbrev uC:Code:=sub (cd Tryz.f54) [1,1,1,0,1,0,0]
theorem bRo:((-1:Int) == (-1))=true:=by first | decide | simp
theorem aWs{q:List Int}:FV Tp 132 [(.p (aG q))] base (.fn 182 [] [(.rp [(aG q)] 0)]) []:=FV.fi func132 [.g 3 ⟨[],[],[0],[]⟩] gn
abbrev bRp(dl:Int)(sk dc:Lqq)(x:List Int)(r:Int):Prop:=∀ base:Nat,FV Tp 128 [qL dl sk dc,.p (.agg (x.map aA))] base (pI r) []
theorem cHx{y0 y1 y2 y3 y4 y5 r6:Int}(h0:cP .i64 (atF dc.reverse) (.int .i64 n))(h1:(dS (atF dc.reverse) (.int .i64 n))=true)(h2:gB (atF dc.reverse) (.int .i64 n)=some (dcE y0 y1 y2 y3 y4 y5))(h3:bRp dl sk dc [y0,y1,y2,y3,y4,y5] r6)(A4:r0=(r6 != bib)):FV Tp 189 [(pI n),(.rp [(PV.rp (aY dl sk dc) 0)] 0),(.rp [(aA bib),(aA tm)] 0)] base (pB r0) []:=by
 subst A4;exact FV.fi func189 [.x (PV.rp (aY dl sk dc) 0),.x (PV.rp (aY dl sk dc) 0),.x (.mp (atF dc.reverse)),bT,.x (dcE y0 y1 y2 y3 y4 y5),.c (pI r6) [],.x (aA bib)] (gr (aA bib) (gc (fk 0 (h3 _) rfl) (gc h2 (gc h1 (gc h0 (gr (.mp (atF dc.reverse)) (gr (PV.rp (aY dl sk dc) 0) (gr (PV.rp (aY dl sk dc) 0) gn))))))))
theorem cHy(A4:r0=(n == m)):FV Tp 133 [(pI n),(.rp [(aA m)] 0)] base (pB r0) []:=by
 subst A4;exact FV.fi func133 [.x (aA m)] (gr (aA m) gn)
abbrev bRq(dl:Int)(sk dc:Lqq):PV := .rp (aY dl sk dc) 0
abbrev aWt(dl:Int)(sk dc:Lqq)(bib tm n:Int)(b:Bool):Prop:=∀ base:Nat,FV Tp 189 [.p (aA n),.rp [bRq dl sk dc] 0,.rp [aA bib,aA tm] 0] base (pB b) []
theorem aMp(n m:Int){base:Nat}:FV Tp 133 [.p (aA n),.rp [aA m] 0] base (pB (n == m)) []:=cHy rfl
def jB(l:List Int)(dl:Int)(sk:Lqq)(dc:Lqq)(bib:Int)(tm:Int)(i:Nat):St:=⟨fr 19 [(0,(.own 0)),(1,(.fn 189 [] [(.rp [(PV.rp (aY dl sk dc) 0)] 0),(.rp [(aA bib),(aA tm)] 0)])),(7,(pI (l.length:Int))),(8,(pI (i:Int)))],[some (.row 3 l.length (l.map aA))]⟩
theorem bXr(hl0:aE Tp 1 pN (jB l dl sk dc bib tm 0) (.exit 0) (jB l dl sk dc bib tm Bm)):FMM Tp 129 [(.own 0),(.fn 189 [] [(.rp [(PV.rp (aY dl sk dc) 0)] 0),(.rp [(aA bib),(aA tm)] 0)])] [some (.row 3 l.length (l.map aA))] (pI (-1)) [some (.row 3 l.length (l.map aA))]:=FMM.fi 1 gE func129 [hl0.k 6 (gZ [2,5,9,10])] (gc hl0.code gn)
theorem bXs(hl0:aE Tp 1 pN (jB l dl sk dc bib tm 0) .ret (bS (jB l dl sk dc bib tm Bm) [(4,(pI (Bm:Int)))])):FMM Tp 129 [(.own 0),(.fn 189 [] [(.rp [(PV.rp (aY dl sk dc) 0)] 0),(.rp [(aA bib),(aA tm)] 0)])] [some (.row 3 l.length (l.map aA))] (pI (Bm:Int)) [some (.row 3 l.length (l.map aA))]:=FMM.fi 1 gE func129 [hl0.k 6 (gZ [2,5,9,10])] (gc hl0.code gn)
theorem aWu(h0:(i:Int)<(l.length:Int))(h1:l[i]? = some Aq)(h2:aWt dl sk dc bib tm Aq Ca)(h3:Ca=true):aC Tp 1 pN (jB l dl sk dc bib tm i) .ret (bS (jB l dl sk dc bib tm i) [(4,(pI (i:Int)))]):=aC.fi (gZ [2,2,5,2,9,10]) [bT,.x (aA Aq),.c (pB Ca) [],bT] (gc h3 (gc (fk 1 (h2 _) rfl) (gc (atm aA h1) (gc (bZ (i:=(i:Int)) (Br _) h1) (gc (aI h0) gn)))))
theorem aWv(h0:(i:Int)<(l.length:Int))(h1:l[i]? = some Aq)(h2:aWt dl sk dc bib tm Aq Ca)(h3:Ca=false)(h4:inR (((i+1):Nat):Int))(Ai:i'=(i+1)):aC Tp 1 pN (jB l dl sk dc bib tm i) .normal (jB l dl sk dc bib tm i'):=by
 subst Ai;exact aC.fi (gZ [2,5,9,10]) [bT,.x (aA Aq),.c (pB Ca) [],bF] (gc h4 (gc h3 (gc (fk 1 (h2 _) rfl) (gc (atm aA h1) (gc (bZ (i:=(i:Int)) (Br _) h1) (gc (aI h0) gn))))))
theorem aWw(h0:(l.length:Int)≤(i:Int)):aC Tp 1 pN (jB l dl sk dc bib tm i) (.exit 0) (jB l dl sk dc bib tm i):=aC.fi (gZ [2,5,9,10]) [bF] (gc (aN h0) gn)
abbrev bXt(l:List Int)(dl:Int)(sk:Lqq)(dc:Lqq)(bib:Int)(tm:Int)(i:Int):Prop:=FMM Tp 129 [.own 0,(.fn 189 [] [(.rp [(PV.rp (aY dl sk dc) 0)] 0),(.rp [(aA bib),(aA tm)] 0)])] [some (.row 3 l.length (l.map aA))] (pI i) [some (.row 3 l.length (l.map aA))]
def pO(dl:Int)(sk:Lqq)(dc:Lqq)(bib:Int)(tm:Int)(cn:Nat)(cc:List PV)(i:Nat)(j:Nat):St:=⟨fr 42 [(0,(.own 0)),(1,(.fn 189 [] [(.rp [(PV.rp (aY dl sk dc) 0)] 0),(.rp [(aA bib),(aA tm)] 0)])),(4,(.p bX)),(5,(pI (i:Int))),(6,(pI (j:Int)))],[some (.row 3 cn cc)]⟩
theorem cHz{Ei:List PV}(h0:bXt l dl sk dc bib tm (i0:Int))(h1:(i0:Int)≠(-1:Int))(h2:inR (((i0+1):Nat):Int))(Cn:aE Tp 1 uC (pO dl sk dc bib tm l.length (l.map aA) i0 (i0+1)) (.exit 0) (pO dl sk dc bib tm Cg.length (Cg.map aA) B5 Np))(h4:0≤(B5:Int)∧(B5:Int)≤(Cg.length:Int)∧(Cg.length:Int)≤(Cg.length:Int))(h5:(B5*1)+(Cg.length-B5)≤(Cg.map aA).length)(h6:0≤(0:Int)∧(0:Int)≤(B5:Int)∧(B5:Int)≤(Cg.length:Int))(D2:Ei=((((Cg.map aA).take (B5*1)++List.replicate (Cg.length-B5) (PV.v (.int .i64 0))++(Cg.map aA).drop ((B5*1)+(List.replicate (Cg.length-B5) (PV.v (.int .i64 0))).length)).drop 0).take (B5*(((Cg.map aA).take (B5*1)++List.replicate (Cg.length-B5) (PV.v (.int .i64 0))++(Cg.map aA).drop ((B5*1)+(List.replicate (Cg.length-B5) (PV.v (.int .i64 0))).length)).length / Cg.length)))):FMM Tp 54 [(.own 0),(.fn 189 [] [(.rp [(PV.rp (aY dl sk dc) 0)] 0),(.rp [(aA bib),(aA tm)] 0)])] [some (.row 3 l.length (l.map aA))] (.p (.sl B5 Ei)) [some .dead]:=by
 subst D2;have k1:=mq [0] 1 h0;exact FMM.fi 1 ⟨[],[],[0],[]⟩ func54 [k1.o,bF,Cn.k 4 (gZ [2,2,7,29])] (gc h6 (gc h5 (gc h4 (gc Cn.code (gc h2 (gc (aU h1) (gc k1 gn)))))))
theorem cIa(h0:bXt l dl sk dc bib tm (-1)):FMM Tp 54 [(.own 0),(.fn 189 [] [(.rp [(PV.rp (aY dl sk dc) 0)] 0),(.rp [(aA bib),(aA tm)] 0)])] [some (.row 3 l.length (l.map aA))] (.p (aG l)) [some .dead]:=have k1:=mq [0] 1 h0;FMM.fi 1 ⟨[],[],[0],[]⟩ func54 [k1.o,bT] (gc bRo (gc k1 gn))
theorem bKs{Tu:Int}(h0:(j:Int)<(c.length:Int))(h1:c[j]? = some Aq)(h2:aWt dl sk dc bib tm Aq Ca)(h3:Ca=false)(h4:c[i]? = some Tu)(h5:(i*1)<(c.map aA).length)(h6:inR (((i+1):Nat):Int))(h7:inR (((j+1):Nat):Int))(Kd:c'.length=c.length)(Ke:c'.map aA=((c.map aA).set (i*1) (aA Aq)))(Ai:i'=(i+1))(Eo:j'=(j+1)):aC Tp 1 uC (pO dl sk dc bib tm c.length (c.map aA) i j) .normal (pO dl sk dc bib tm c'.length (c'.map aA) i' j'):=by
 subst Ai Eo;rw [Kd,Ke];exact aC.fi (gZ [2,2,7,29]) [bT,.x (aA Aq),.c (pB Ca) [],bT] (gc h7 (gc h6 (gc h5 (gc (bZ (i:=(i:Int)) (Br _) h4) (gc (bM h3) (gc (fk 1 (h2 _) rfl) (gc (atm aA h1) (gc (bZ (i:=(j:Int)) (Br _) h1) (gc (aI h0) gn)))))))))
theorem bKt(h0:(j:Int)<(c.length:Int))(h1:c[j]? = some Aq)(h2:aWt dl sk dc bib tm Aq Ca)(h3:Ca=true)(h4:inR (((j+1):Nat):Int))(Eo:j'=(j+1)):aC Tp 1 uC (pO dl sk dc bib tm c.length (c.map aA) i j) .normal (pO dl sk dc bib tm c.length (c.map aA) i j'):=by
 subst Eo;exact aC.fi (gZ [2,2,7,29]) [bT,.x (aA Aq),.c (pB Ca) [],bF] (gc h4 (gc (aV h3) (gc (fk 1 (h2 _) rfl) (gc (atm aA h1) (gc (bZ (i:=(j:Int)) (Br _) h1) (gc (aI h0) gn))))))
theorem bKu(h0:(c.length:Int)≤(j:Int)):aC Tp 1 uC (pO dl sk dc bib tm c.length (c.map aA) i j) (.exit 0) (pO dl sk dc bib tm c.length (c.map aA) i j):=aC.fi (gZ [2,2,7,29]) [bF] (gc (aN h0) gn)
def jC(l:List Int)(m:Int)(i:Nat):St:=⟨fr 19 [(0,(.own 0)),(1,(.fn 133 [] [(.rp [(aA m)] 0)])),(7,(pI (l.length:Int))),(8,(pI (i:Int)))],[some (.row 3 l.length (l.map aA))]⟩
theorem bXu(hl0:aE Tp 1 pN (jC l m 0) (.exit 0) (jC l m Bm)):FMM Tp 129 [(.own 0),(.fn 133 [] [(.rp [(aA m)] 0)])] [some (.row 3 l.length (l.map aA))] (pI (-1)) [some (.row 3 l.length (l.map aA))]:=FMM.fi 1 gE func129 [hl0.k 6 (gZ [2,5,9,10])] (gc hl0.code gn)
theorem bXv(hl0:aE Tp 1 pN (jC l m 0) .ret (bS (jC l m Bm) [(4,(pI (Bm:Int)))])):FMM Tp 129 [(.own 0),(.fn 133 [] [(.rp [(aA m)] 0)])] [some (.row 3 l.length (l.map aA))] (pI (Bm:Int)) [some (.row 3 l.length (l.map aA))]:=FMM.fi 1 gE func129 [hl0.k 6 (gZ [2,5,9,10])] (gc hl0.code gn)
theorem aWx(h0:(i:Int)<(l.length:Int))(h1:l[i]? = some Aq)(h2:(Aq == m)=true):aC Tp 1 pN (jC l m i) .ret (bS (jC l m i) [(4,(pI (i:Int)))]):=aC.fi (gZ [2,2,5,2,9,10]) [bT,.x (aA Aq),.c (pB (Aq == m)) [],bT] (gc h2 (gc (fk 1 (aMp Aq m) rfl) (gc (atm aA h1) (gc (bZ (i:=(i:Int)) (Br _) h1) (gc (aI h0) gn)))))
theorem aWy(h0:(i:Int)<(l.length:Int))(h1:l[i]? = some Aq)(h2:(Aq == m)=false)(h3:inR (((i+1):Nat):Int))(Ai:i'=(i+1)):aC Tp 1 pN (jC l m i) .normal (jC l m i'):=by
 subst Ai;exact aC.fi (gZ [2,5,9,10]) [bT,.x (aA Aq),.c (pB (Aq == m)) [],bF] (gc h3 (gc h2 (gc (fk 1 (aMp Aq m) rfl) (gc (atm aA h1) (gc (bZ (i:=(i:Int)) (Br _) h1) (gc (aI h0) gn))))))
theorem aWz(h0:(l.length:Int)≤(i:Int)):aC Tp 1 pN (jC l m i) (.exit 0) (jC l m i):=aC.fi (gZ [2,5,9,10]) [bF] (gc (aN h0) gn)
abbrev bXw(l:List Int)(m:Int)(i:Int):Prop:=FMM Tp 129 [.own 0,(.fn 133 [] [(.rp [(aA m)] 0)])] [some (.row 3 l.length (l.map aA))] (pI i) [some (.row 3 l.length (l.map aA))]
def pP(m:Int)(cn:Nat)(cc:List PV)(i:Nat)(j:Nat):St:=⟨fr 42 [(0,(.own 0)),(1,(.fn 133 [] [(.rp [(aA m)] 0)])),(4,(.p bX)),(5,(pI (i:Int))),(6,(pI (j:Int)))],[some (.row 3 cn cc)]⟩
theorem cIb{Ei:List PV}(h0:bXw l m (i0:Int))(h1:(i0:Int)≠(-1:Int))(h2:inR (((i0+1):Nat):Int))(Cn:aE Tp 1 uC (pP m l.length (l.map aA) i0 (i0+1)) (.exit 0) (pP m Cg.length (Cg.map aA) B5 Np))(h4:0≤(B5:Int)∧(B5:Int)≤(Cg.length:Int)∧(Cg.length:Int)≤(Cg.length:Int))(h5:(B5*1)+(Cg.length-B5)≤(Cg.map aA).length)(h6:0≤(0:Int)∧(0:Int)≤(B5:Int)∧(B5:Int)≤(Cg.length:Int))(D2:Ei=((((Cg.map aA).take (B5*1)++List.replicate (Cg.length-B5) (PV.v (.int .i64 0))++(Cg.map aA).drop ((B5*1)+(List.replicate (Cg.length-B5) (PV.v (.int .i64 0))).length)).drop 0).take (B5*(((Cg.map aA).take (B5*1)++List.replicate (Cg.length-B5) (PV.v (.int .i64 0))++(Cg.map aA).drop ((B5*1)+(List.replicate (Cg.length-B5) (PV.v (.int .i64 0))).length)).length / Cg.length)))):FMM Tp 54 [(.own 0),(.fn 133 [] [(.rp [(aA m)] 0)])] [some (.row 3 l.length (l.map aA))] (.p (.sl B5 Ei)) [some .dead]:=by
 subst D2;have k1:=mq [0] 1 h0;exact FMM.fi 1 ⟨[],[],[0],[]⟩ func54 [k1.o,bF,Cn.k 4 (gZ [2,2,7,29])] (gc h6 (gc h5 (gc h4 (gc Cn.code (gc h2 (gc (aU h1) (gc k1 gn)))))))
theorem cIc(h0:bXw l m (-1)):FMM Tp 54 [(.own 0),(.fn 133 [] [(.rp [(aA m)] 0)])] [some (.row 3 l.length (l.map aA))] (.p (aG l)) [some .dead]:=have k1:=mq [0] 1 h0;FMM.fi 1 ⟨[],[],[0],[]⟩ func54 [k1.o,bT] (gc bRo (gc k1 gn))
theorem bKv{D1:Int}(h0:(j:Int)<(c.length:Int))(h1:c[j]? = some Aq)(h2:(Aq == m)=false)(h3:c[i]? = some D1)(h4:(i*1)<(c.map aA).length)(h5:inR (((i+1):Nat):Int))(h6:inR (((j+1):Nat):Int))(Kd:c'.length=c.length)(Ke:c'.map aA=((c.map aA).set (i*1) (aA Aq)))(Ai:i'=(i+1))(Eo:j'=(j+1)):aC Tp 1 uC (pP m c.length (c.map aA) i j) .normal (pP m c'.length (c'.map aA) i' j'):=by
 subst Ai Eo;rw [Kd,Ke];exact aC.fi (gZ [2,2,7,29]) [bT,.x (aA Aq),.c (pB (Aq == m)) [],bT] (gc h6 (gc h5 (gc h4 (gc (bZ (i:=(i:Int)) (Br _) h3) (gc (bM h2) (gc (fk 1 (aMp Aq m) rfl) (gc (atm aA h1) (gc (bZ (i:=(j:Int)) (Br _) h1) (gc (aI h0) gn)))))))))
theorem bKw(h0:(j:Int)<(c.length:Int))(h1:c[j]? = some Aq)(h2:(Aq == m)=true)(h3:inR (((j+1):Nat):Int))(Eo:j'=(j+1)):aC Tp 1 uC (pP m c.length (c.map aA) i j) .normal (pP m c.length (c.map aA) i j'):=by
 subst Eo;exact aC.fi (gZ [2,2,7,29]) [bT,.x (aA Aq),.c (pB (Aq == m)) [],bF] (gc h3 (gc (aV h2) (gc (fk 1 (aMp Aq m) rfl) (gc (atm aA h1) (gc (bZ (i:=(j:Int)) (Br _) h1) (gc (aI h0) gn))))))
theorem bKx(h0:(c.length:Int)≤(j:Int)):aC Tp 1 uC (pP m c.length (c.map aA) i j) (.exit 0) (pP m c.length (c.map aA) i j):=aC.fi (gZ [2,2,7,29]) [bF] (gc (aN h0) gn)
end
section
structure aCd (p:Int→Bool) (l:List Int) (j:Nat) (x:List Int × Nat):Prop where
 len:x.1.length=l.length
 le:x.2<j
 kept:x.1.take x.2=(l.take j).filter fun n => !p n
 rest:x.1.drop j=l.drop j
theorem aCd.skip{p:Int→Bool}{l:List Int}{j:Nat}{x:List Int × Nat}(h:aCd p l j x)(hj:j<l.length){n:Int}(hn:x.1[j]? = some n)(hp:p n=true):aCd p l (j+1) x:=by
 have hl:l[j]? = some n:=by
  have:=congrArg (·[0]?) h.rest
  simp only [List.getElem?_drop,Nat.add_zero] at this
  rw [← this];exact hn
 refine ⟨h.len,by have:=h.le;omega,?_,?_⟩
 ·rw [h.kept,List.take_add_one,hl]
  simp [kU,hp]
 ·rw [← List.drop_drop,h.rest,List.drop_drop]
theorem aCd.keep{p:Int→Bool}{l:List Int}{j:Nat}{x:List Int × Nat}(h:aCd p l j x)(hj:j<l.length){n:Int}(hn:x.1[j]? = some n)(hp:p n=false):aCd p l (j+1) (x.1.set x.2 n,x.2+1):=by
 have hl:l[j]? = some n:=by
  have:=congrArg (·[0]?) h.rest
  simp only [List.getElem?_drop,Nat.add_zero] at this
  rw [← this];exact hn
 have hle:=h.le;have hlen:=h.len;refine ⟨by simp [h.len],by simpa using hle,?_,?_⟩
 ·show (x.1.set x.2 n).take (x.2+1)=_
  rw [List.take_add_one,List.take_set_of_le (dG _),h.kept,bCu (by omega),List.take_add_one,hl]
  simp [kU,hp]
 ·show (x.1.set x.2 n).drop (j+1)=_
  rw [List.drop_set_of_lt (by omega),← List.drop_drop,h.rest,List.drop_drop]
theorem aCd.start{p:Int→Bool}{l:List Int}{i:Nat}{n:Int}(hi:l[i]? = some n)(hp:p n=true)(hb:∀ m∈l.take i,p m=false):aCd p l (i+1) (l,i):=by
 refine ⟨rfl,Nat.lt_succ_self _,?_,rfl⟩;show l.take i=_;rw [List.take_add_one,hi];simp only [kU];rw [List.filter_eq_self.2 fun m hm=>by simp [hb m hm]]
 simp [hp]
theorem aBo{p:Int→Bool}{l:List Int}{i:Nat}(h:l.findIdx? p=some i):∀ m∈l.take i,p m=false:=fun m hm=>by
 obtain ⟨hi,h1,h2⟩:=List.findIdx?_eq_some_iff_getElem.1 h;obtain ⟨j,hj,rfl⟩:=List.getElem_of_mem hm;rw [List.getElem_take];rw [mJ] at hj
 have:=h2 j (by omega)
 simpa using this

theorem bXp{l:List Int}{dl:Int}{sk dc:Lqq}{bib tm:Int}(hl:l.length≤1000){p:Int→Bool}(hp:∀ n∈l,aWt dl sk dc bib tm n (p n)) :
  (∃ i n,l[i]? = some n∧l.findIdx? p=some i∧p n=true∧bXt l dl sk dc bib tm (i:Int))∨(l.any p=false∧bXt l dl sk dc bib tm (-1)):=by
 rcases aE.find (P:=Tp) (k:=1) (b:=(sub (cd Tryz.f129) [1,0,1,0,0])) (fun i=>jB l dl sk dc bib tm i) (fun i _=>bS (jB l dl sk dc bib tm i) [(4,.p (aA (i:Int)))]) (jB l dl sk dc bib tm l.length) .ret (.exit 0) (by simp) (by simp) p l
  (fun i x hx hq=>aWv (by have:=aO hx;omega) hx (hp x (Bi hx)) hq (aH (by have:=aO hx;omega)) rfl)
  (fun i x hx hq=>aWu (by have:=aO hx;omega) hx (hp x (Bi hx)) hq)
  (aWw (by omega)) with ⟨i,x,h1,h2,h3,h4⟩ | ⟨h1,h2,h3⟩
 ·exact .inl ⟨i,x,h1,h2,h3,bXs h4⟩
 ·exact .inr ⟨h2,bXr h3⟩
theorem cHw{l:List Int}{dl:Int}{sk dc:Lqq}{bib tm:Int}(hl:l.length≤1000){p:Int→Bool}(hp:∀ n∈l,aWt dl sk dc bib tm n (p n)) :
  FMM Tp 54 [.own 0,.fn 189 [] [.rp [bRq dl sk dc] 0,.rp [aA bib,aA tm] 0]] [some (.row 3 l.length (l.map aA))] (.p (aG (l.filter fun n => !p n))) [some .dead]:=by
 rcases bXp hl hp with ⟨i,n,h1,h2,h3,h4⟩ | ⟨h1,h2⟩
 ·have hi:=aO h1
  obtain ⟨d,hm⟩:∃ d,i+1+d=l.length:=⟨l.length-(i+1),by omega⟩
  obtain ⟨⟨c,k⟩,hI,hL⟩:=aE.ex (P:=Tp) (k:=1) (b:=(sub (cd Tryz.f54) [1,1,1,0,1,0,0])) (e := .exit 0) (fun j (x:List Int × Nat)=>pO dl sk dc bib tm x.1.length (x.1.map aA) x.2 (i+1+j)) (fun x=>pO dl sk dc bib tm x.1.length (x.1.map aA) x.2 l.length) (fun j x=>aCd p l (i+1+j) x∧∀ n∈x.1,n∈l) (by simp) d
   (fun j x hj hx=>by
    obtain ⟨hI,hs⟩:=hx;have hlt:i+1+j<x.1.length:=by rw [hI.len];omega
    have hle:=hI.le;have hlen:=hI.len;obtain ⟨y,hy⟩:∃ y,x.1[i+1+j]? = some y:=⟨_,Av hlt⟩;have hyl:=hs y (Bi hy);cases hq:p y with
    | true=>exact ⟨x,⟨hI.skip (by omega) hy hq,hs⟩,bKt (by omega) hy (hp y hyl) hq (aH (by omega)) rfl⟩
    | false =>
     obtain ⟨z,hz⟩:∃ z,x.1[x.2]? = some z:=⟨_,Av (by omega)⟩
     refine ⟨_,⟨hI.keep (by omega) hy hq,fun n hn => ?_⟩,bKs (c:=x.1) (c':=x.1.set x.2 y) (by omega) hy (hp y hyl) hq hz (by rw [Cb];omega) (aH (by omega)) (aH (by omega)) (by simp) (by rw [List.map_set,Nat.mul_one]) rfl rfl⟩
     rcases List.mem_or_eq_of_mem_set hn with h | rfl
     ·exact hs n h
     ·exact hyl)
   (fun x hx=>by
    have:=bKu (dl:=dl) (sk:=sk) (dc:=dc) (bib:=bib) (tm:=tm) (c:=x.1) (i:=x.2) (j:=l.length) (by rw [hx.1.len];omega)
    rw [show i+1+d=l.length from hm];exact this)
   (acc:=(l,i)) ⟨aCd.start h1 h3 (aBo h2),fun n h=>h⟩
  obtain ⟨hI,_⟩:=hI;have hlen:=hI.len;have hle:=hI.le;have hk:=hI.kept;simp only [hm,List.take_length] at hlen hle hk
  have fin:=cHz (l:=l) (Cg:=c) (B5:=k) (Np:=l.length) (Ei:=(c.take k).map aA) h4 (by omega) (aH (by omega)) hL ⟨by omega,by omega,by omega⟩ (by rw [Cb];omega) ⟨by omega,by omega,by omega⟩ (by
   rw [List.drop_zero,Nat.mul_one,List.length_replicate];have Gl:(((c.map aA).take k)++List.replicate (c.length-k) (PV.v (.int .i64 0))++(c.map aA).drop (k+(c.length-k))).length=c.length:=by
    simp only [iF,mJ,Cb,List.length_replicate,bOl];omega
   rw [Gl,Nat.div_self (by omega),Nat.mul_one,List.append_assoc,List.take_append_of_le_length (by rw [mJ,Cb];omega),List.take_take,Nat.min_self,List.map_take])
  rw [← hk];have e:aG (c.take k) = .sl k ((c.take k).map aA):=by
   show PV.sl (c.take k).length _=_;rw [mJ,Nat.min_eq_left (by omega)]
  rw [e];exact fin
 ·have:(l.filter fun n => !p n)=l:=List.filter_eq_self.2 fun n hn=>by
   have:=List.any_eq_false.1 h1 n hn;simpa using this
  rw [this];exact cIa h2

theorem bXq{l:List Int}{m:Int}(hl:l.length≤1000){p:Int→Bool}(hp:∀ n∈l,p n=(n == m)) :
  (∃ i n,l[i]? = some n∧l.findIdx? p=some i∧p n=true∧bXw l m (i:Int))∨(l.any p=false∧bXw l m (-1)):=by
 rcases aE.find (P:=Tp) (k:=1) (b:=(sub (cd Tryz.f129) [1,0,1,0,0])) (fun i=>jC l m i) (fun i _=>bS (jC l m i) [(4,.p (aA (i:Int)))]) (jC l m l.length) .ret (.exit 0) (by simp) (by simp) p l
  (fun i x hx hq=>aWy (by have:=aO hx;omega) hx (by rw [← hp x (Bi hx)];exact hq) (aH (by have:=aO hx;omega)) rfl)
  (fun i x hx hq=>aWx (by have:=aO hx;omega) hx (by rw [← hp x (Bi hx)];exact hq))
  (aWz (by omega)) with ⟨i,x,h1,h2,h3,h4⟩ | ⟨h1,h2,h3⟩
 ·exact .inl ⟨i,x,h1,h2,h3,bXv h4⟩
 ·exact .inr ⟨h2,bXu h3⟩
theorem bRn{l:List Int}{m:Int}(hl:l.length≤1000){p:Int→Bool}(hp:∀ n∈l,p n=(n == m)) :
  FMM Tp 54 [.own 0,.fn 133 [] [.rp [aA m] 0]] [some (.row 3 l.length (l.map aA))] (.p (aG (l.filter fun n => !p n))) [some .dead]:=by
 rcases bXq hl hp with ⟨i,n,h1,h2,h3,h4⟩ | ⟨h1,h2⟩
 ·have hi:=aO h1
  obtain ⟨d,hm⟩:∃ d,i+1+d=l.length:=⟨l.length-(i+1),by omega⟩
  obtain ⟨⟨c,k⟩,hI,hL⟩:=aE.ex (P:=Tp) (k:=1) (b:=(sub (cd Tryz.f54) [1,1,1,0,1,0,0])) (e := .exit 0) (fun j (x:List Int × Nat)=>pP m x.1.length (x.1.map aA) x.2 (i+1+j)) (fun x=>pP m x.1.length (x.1.map aA) x.2 l.length) (fun j x=>aCd p l (i+1+j) x∧∀ n∈x.1,n∈l) (by simp) d
   (fun j x hj hx=>by
    obtain ⟨hI,hs⟩:=hx;have hlt:i+1+j<x.1.length:=by rw [hI.len];omega
    have hle:=hI.le;have hlen:=hI.len;obtain ⟨y,hy⟩:∃ y,x.1[i+1+j]? = some y:=⟨_,Av hlt⟩;have hyl:=hs y (Bi hy);cases hq:p y with
    | true=>exact ⟨x,⟨hI.skip (by omega) hy hq,hs⟩,bKw (by omega) hy (by rw [← hp y hyl];exact hq) (aH (by omega)) rfl⟩
    | false =>
     obtain ⟨z,hz⟩:∃ z,x.1[x.2]? = some z:=⟨_,Av (by omega)⟩
     refine ⟨_,⟨hI.keep (by omega) hy hq,fun n hn => ?_⟩,bKv (c:=x.1) (c':=x.1.set x.2 y) (by omega) hy (by rw [← hp y hyl];exact hq) hz (by rw [Cb];omega) (aH (by omega)) (aH (by omega)) (by simp) (by rw [List.map_set,Nat.mul_one]) rfl rfl⟩
     rcases List.mem_or_eq_of_mem_set hn with h | rfl
     ·exact hs n h
     ·exact hyl)
   (fun x hx=>by
    have:=bKx (m:=m) (c:=x.1) (i:=x.2) (j:=l.length) (by rw [hx.1.len];omega)
    rw [show i+1+d=l.length from hm];exact this)
   (acc:=(l,i)) ⟨aCd.start h1 h3 (aBo h2),fun n h=>h⟩
  obtain ⟨hI,_⟩:=hI;have hlen:=hI.len;have hle:=hI.le;have hk:=hI.kept;simp only [hm,List.take_length] at hlen hle hk
  have fin:=cIb (l:=l) (Cg:=c) (B5:=k) (Np:=l.length) (Ei:=(c.take k).map aA) h4 (by omega) (aH (by omega)) hL ⟨by omega,by omega,by omega⟩ (by rw [Cb];omega) ⟨by omega,by omega,by omega⟩ (by
   rw [List.drop_zero,Nat.mul_one,List.length_replicate];have Gl:(((c.map aA).take k)++List.replicate (c.length-k) (PV.v (.int .i64 0))++(c.map aA).drop (k+(c.length-k))).length=c.length:=by
    simp only [iF,mJ,Cb,List.length_replicate,bOl];omega
   rw [Gl,Nat.div_self (by omega),Nat.mul_one,List.append_assoc,List.take_append_of_le_length (by rw [mJ,Cb];omega),List.take_take,Nat.min_self,List.map_take])
  rw [← hk];have e:aG (c.take k) = .sl k ((c.take k).map aA):=by
   show PV.sl (c.take k).length _=_;rw [mJ,Nat.min_eq_left (by omega)]
  rw [e];exact fin
 ·have:(l.filter fun n => !p n)=l:=List.filter_eq_self.2 fun n hn=>by
   have:=List.any_eq_false.1 h1 n hn;simpa using this
  rw [this];exact cIc h2
end
section
open Go.RowKit Go.Lib Go.Shelf
theorem cHu{n:Nat}{x:PV}{r:List PV}{N5:Nat}{Ei:List PV}(h0:(x::r).length=n*1∧0+n≤1000000)(Nn:N5=(0+n))(D2:Ei=(x::r)){base:Nat}:FV Tp 55 [(.p (.sl n (x::r)))] base (.own base) [(base,(.row 3 N5 Ei))]:=by
 subst Nn D2;exact FV.fi func55 [] (gc h0 gn)
set_option maxHeartbeats 1000000 in
theorem bXo(n c:Nat)(w:World):Calls Tp 55 #[.slice none n c] w fun e w'=>e = .returned (.slice none 0 0)∧w'=w:=by
 have Xs:∀ (w:World) (a:Option Addr) (n c n' c':Nat),(binOp .eql 33 (.slice a n c) (.slice none n' c')).run Tp w = .ok (.bool a.isNone) w:=fun w a n c n' c'=>Lib.run_eql_slice_nil w _ _ a n c n' c' Tryz.underlying33
 go_enter func55,Tryz.ntmps55
 go_wp2
 go_ret
 exact ⟨rfl,rfl⟩
theorem Tt:(Tryz.prog.info? 3).map (fun i=>(i.zero,i.size,i.bytes))=some (some (.int .i64 0),1,8):=by kernel_rfl
set_option maxHeartbeats 2000000 in
theorem bRm(a:Addr)(c:Nat)(w:World):Calls Tp 55 #[.slice (some a) 0 c] w fun e w'=>∃ v',e = .returned v'∧w'.ownsRow w.heap.size 3 1 v' 0 []∧Below w.heap.size w w':=by
 obtain ⟨i0,hi,Od,Fz,Ny⟩:=info_parts Tt;have Xs:∀ (w:World) (a:Option Addr) (n c n' c':Nat),(binOp .eql 33 (.slice a n c) (.slice none n' c')).run Tp w = .ok (.bool a.isNone) w:=fun w a n c n' c'=>Lib.run_eql_slice_nil w _ _ a n c n' c' Tryz.underlying33
 go_enter func55,Tryz.ntmps55
 go_wp2_with (at_builtin;refine wpList_append_own _ rfl _ _ 33 rfl w.heap.size 3 i0 (.int .i64 0) 1 8 Tryz.underlying33 hi Od Fz Ny rfl (by decide) _ _ _ rfl (World.ownsRow_made w #[] 0 (dG _) (Nat.zero_le _) rfl) a 0 c [] rfl rfl (by intro j u hj;simp at hj) (by intro u hu;cases hu) (by unfold maxLen;omega) (by omega) (by simp) ?_)
 intro v' w1 hown hgrow hnil
 go_wp2
 go_ret
 refine ⟨v',rfl,by simpa using hown,?_⟩
 exact ((Below.refl _ w).alloc (dG _) _).grown hgrow (by simp) (by intro k hk;simp [Value.ownBlock] at hk;omega)
theorem bKr{base:Nat}:FV Tp 55 [.p (.sl 0 [])] base (.own base) [(base,.row 3 0 [])]:=bHg (uW (show (Tryz.prog.info? 3).map (fun i=>i.size)=some 1 by kernel_rfl)) fun p c w=>by
 cases p with
 | none =>
  refine (bXo 0 c w).mono ?_;rintro e w' ⟨rfl,rfl⟩;exact ⟨_,rfl,World.ownsRow_nil _ _ _ _,Below.refl _ _⟩
 | some a=>exact bRm a c w
theorem cHv(l:List Int)(hl:l.length≤1000){base:Nat}:FV Tp 55 [.p (aG l)] base (.own base) [(base,.row 3 l.length (l.map aA))]:=by
 cases l with
 | nil=>exact bKr
 | cons x l=>exact cHu (n:=(x::l).length) (x:=aA x) (r:=l.map aA) ⟨by simp,by simp at hl ⊢;omega⟩ (by simp) rfl
end
section
variable {Gd:Bool}{mn mx Ri Rj n200 Aa Ab:Int}{T202:Lqb}{x Cr:List Int}{i aln chn base Lo:Nat}
variable {dl:Int}{sk dc:Lqq}

theorem aMm:0≤(1:Int)∧(1:Int)<2:=by first | decide | simp
theorem aMn:0≤(0:Int)∧(0:Int)<2:=by first | decide | simp
abbrev cLp(l:List Int)(dl:Int)(sk dc:Lqq)(bib tm:Int)(o:List Int):Prop:=FMM Tp 54 [.own 0,.fn 189 [] [.rp [bRq dl sk dc] 0,.rp [aA bib,aA tm] 0]] [some (.row 3 l.length (l.map aA))] (.p (aG o)) [some .dead]
def chE(x:Int × Bool × List Int):List PV:=[aA x.1,blP x.2.1,aG x.2.2]
def pM(dl:Int)(sk:Lqq)(dc:Lqq)(aln:Nat)(alc:List PV)(i:Nat):St:=⟨fr 77 [(1,(.rp [(PV.rp (aY dl sk dc) 0)] 0)),(2,(.p bX)),(3,(pI 0)),(4,(.p (aG (aP dl dc)))),(5,(.own 0)),(22,(.p (fS sk))),(23,(pI (sk.length:Int))),(24,(pI (i:Int)))],[some (.row 195 aln alc)]⟩
theorem cHs(h0:bN dc)(h1:(8:Int)<(((aP dl dc).length:Nat):Int)):FV Tp 161 [(.rp (aY dl sk dc) 0)] base (.tup [(.p bX),(pI 10)]) []:=have k1:=fk 0 (rR (dl:=dl) (sk:=sk) (dc:=dc) h0) rfl;FV.fi func161 [.g 3 ⟨[],[],[0],[]⟩,.x (PV.rp (aY dl sk dc) 0),k1.o,.g 2 ⟨[],[],[0],[]⟩,bT] (gc (aI h1) (gc k1 (gr (PV.rp (aY dl sk dc) 0) gn)))
theorem cHt{Mm:Nat}{Mo:List PV}{Ev:Nat}(h0:bN dc)(h1:(((aP dl dc).length:Nat):Int)≤8)(Dc:aE Tp 0 (sub (cd Tryz.f161) [1,1,1,1,0,1,0,0]) (pM dl sk dc 0 [] 0) (.exit 0) (pM dl sk dc Mm Mo Ev)):FV Tp 161 [(.rp (aY dl sk dc) 0)] base (.tup [(.own base),(pI 0)]) [(base,(.row 195 Mm Mo))]:=have k1:=fk 0 (rR (dl:=dl) (sk:=sk) (dc:=dc) h0) rfl;FV.fi func161 [.g 3 ⟨[],[],[0],[]⟩,.x (PV.rp (aY dl sk dc) 0),k1.o,.g 2 ⟨[],[],[0],[]⟩,bF,.x (PV.rp (aY dl sk dc) 0),.x (fS sk),Dc.k 1 (gN [0,1,6,16,25,51] [0] [(5,195)])] (gc Dc.code (gr (fS sk) (gr (PV.rp (aY dl sk dc) 0) (gc (aN h1) (gc k1 (gr (PV.rp (aY dl sk dc) 0) gn))))))
def aMo(dl:Int)(sk:Lqq)(dc:Lqq)(aln:Nat)(alc:List PV)(i:Nat)(Aa:Int)(Ab:Int)(Cr:List Int)(chn:Nat)(chc:List PV)(mn:Int)(mx:Int):St:=⟨fr 77 [(1,(.rp [(PV.rp (aY dl sk dc) 0)] 0)),(2,(.p bX)),(3,(pI 0)),(4,(.p (aG (aP dl dc)))),(5,(.own 0)),(7,(.rp [(aA Aa),(aA Ab)] 0)),(8,(.p (aG Cr))),(9,(.ptr 2 0)),(22,(.p (fS sk))),(23,(pI (sk.length:Int))),(24,(pI (i:Int))),(25,(pB (decide ((i:Int)<(sk.length:Int))))),(26,(.rp (sk.flatten.map aA) (i*2))),(27,(.p (.agg [(aA Aa),(aA Ab)]))),(28,(.p (aG (aP dl dc)))),(29,(.own 1)),(30,(.fn 189 [] [(.rp [(PV.rp (aY dl sk dc) 0)] 0),(.rp [(aA Aa),(aA Ab)] 0)])),(31,(.p (aG Cr))),(32,(.p (.agg [(aA 1099511627776),(aA 0)]))),(33,(.p (.agg [bX,(aA 1099511627776),(aA 0)]))),(34,(.p (aG Cr))),(35,(.fn 182 [] [(.rp [(aG Cr)] 0)]))],[some (.row 195 aln alc),some .dead,some (.box 195 [(.own 3),(pI mn),(pI mx)]),some (.row 197 chn chc)]⟩
def aWq(dl:Int)(sk:Lqq)(dc:Lqq)(aln:Nat)(alc:List PV)(i:Nat)(Aa:Int)(Ab:Int)(Cr:List Int):St:=⟨fr 77 [(1,(.rp [(PV.rp (aY dl sk dc) 0)] 0)),(2,(.p bX)),(3,(pI 0)),(4,(.p (aG (aP dl dc)))),(5,(.own 0)),(7,(.rp [(aA Aa),(aA Ab)] 0)),(8,(.p (aG Cr))),(9,(.ptr 2 0)),(22,(.p (fS sk))),(23,(pI (sk.length:Int))),(24,(pI (i:Int))),(25,(pB (decide ((i:Int)<(sk.length:Int))))),(26,(.rp (sk.flatten.map aA) (i*2))),(27,(.p (.agg [(aA Aa),(aA Ab)]))),(28,(.p (aG (aP dl dc)))),(29,(.own 1)),(30,(.fn 189 [] [(.rp [(PV.rp (aY dl sk dc) 0)] 0),(.rp [(aA Aa),(aA Ab)] 0)])),(31,(.p (aG Cr))),(32,(.p (.agg [(aA 1099511627776),(aA 0)]))),(33,(.p (.agg [bX,(aA 1099511627776),(aA 0)]))),(34,(.p (aG Cr))),(35,(.fn 182 [] [(.rp [(aG Cr)] 0)]))],[some (.row 195 aln alc),some .dead,some (.box 195 [(.p bX),(pI 1099511627776),(pI 0)])]⟩
theorem bKn{alc:List PV}{E9:Nat}{Fa:List PV}{Gv Gw:Int}{Qh:Nat}{Qi:List PV}{i':Nat}(h0:(i:Int)<(sk.length:Int))(h1:sk[i]? = some [Aa,Ab])(h2:uni 2 sk)(h3:(aP dl dc).length≤1000)(h4:cLp (aP dl dc) dl sk dc Aa Ab Cr)(Ea:aC Tp 0 (sub (cd Tryz.f161) [1,1,1,1,0,1,0,0,1,1,0,0,1,1,1,0,1,0]) (aWq dl sk dc aln alc i Aa Ab Cr) .normal (aMo dl sk dc aln alc i Aa Ab Cr E9 Fa Gv Gw))(h6:[(.sl E9 Fa),(aA Gv),(aA Gw)].length=1*3∧aln+1≤1000000)(h7:inR (((i+1):Nat):Int))(Qj:Qh=(aln+1))(Qk:Qi=(alc++[(.sl E9 Fa),(aA Gv),(aA Gw)]))(Ai:i'=(i+1)):aC Tp 0 (sub (cd Tryz.f161) [1,1,1,1,0,1,0,0]) (pM dl sk dc aln alc i) .normal (pM dl sk dc Qh Qi i'):=by
 subst Qj Qk Ai;have k1:=fk 1 (cHv (aP dl dc) h3) rfl;have k2:=mq [1] 2 h4;have k3:=fk 3 (aWs (q:=Cr)) rfl;exact aC.fi (gI [0,1,6,16,25,51] [3]) [bT,.x (.agg [(aA Aa),(aA Ab)]),.g 1 ⟨[],[0],[1],[]⟩,k1.o,k2.o,k3.o,Ea.k 1 (gI [0,1,6,1,10,12,36,35] [0,1,2]),.g 0 ⟨[29],[0,2],[3],[]⟩] (gc h7 (gc h6 (gt ([(.sl E9 Fa),(aA Gv),(aA Gw)].length=3) (by first | decide | simp) (gc Ea (gc k3 (gc k2 (gc k1 (gfl h2 h1 (gc (aI h0) gn)))))))))
theorem bKo{alc:List PV}(h0:(sk.length:Int)≤(i:Int)):aC Tp 0 (sub (cd Tryz.f161) [1,1,1,1,0,1,0,0]) (pM dl sk dc aln alc i) (.exit 0) (pM dl sk dc aln alc i):=aC.fi (gI [0,1,6,16,25,51] [0]) [bF] (gc (aN h0) gn)
def aWr(dl:Int)(sk:Lqq)(dc:Lqq)(aln:Nat)(alc:List PV)(i:Nat)(Aa:Int)(Ab:Int)(Cr:List Int)(chn:Nat)(chc:List PV)(mn:Int)(mx:Int):St:=⟨fr 77 [(1,(.rp [(PV.rp (aY dl sk dc) 0)] 0)),(2,(.p bX)),(3,(pI 0)),(4,(.p (aG (aP dl dc)))),(5,(.own 0)),(7,(.rp [(aA Aa),(aA Ab)] 0)),(8,(.p (aG Cr))),(9,(.ptr 2 0)),(22,(.p (fS sk))),(23,(pI (sk.length:Int))),(24,(pI (i:Int))),(25,(pB (decide ((i:Int)<(sk.length:Int))))),(26,(.rp (sk.flatten.map aA) (i*2))),(27,(.p (.agg [(aA Aa),(aA Ab)]))),(28,(.p (aG (aP dl dc)))),(30,(.fn 189 [] [(.rp [(PV.rp (aY dl sk dc) 0)] 0),(.rp [(aA Aa),(aA Ab)] 0)])),(31,(.p (aG Cr))),(32,(.p (.agg [(aA 1099511627776),(aA 0)]))),(33,(.p (.agg [bX,(aA 1099511627776),(aA 0)]))),(34,(.p (aG Cr))),(35,(.fn 182 [] [(.rp [(aG Cr)] 0)]))],[some (.row 195 aln alc),some .dead,some (.box 195 [(.own 5),(pI mn),(pI mx)]),some .dead,some .dead,some (.row 197 chn chc)]⟩
theorem bKp{alc:List PV}{chc:List PV}{Ka:List PV}(h0:aGz dl sk dc (aG x) [Aa,Ab] n200 Gd ([]:Lqb) T202)(h1:Gd=true)(h2:[(aA 1099511627776),(blP Gd),(aG x)].length=1*3∧chn+1≤1000000)(h3:([(1099511627776:Int)]:List Int).length≤1000)(Kb:Lo=(chn+1))(Kc:Ka=(chc++[(aA 1099511627776),(blP Gd),(aG x)]))(Nl:Ri=(if (1099511627776:Int)<mn then 1099511627776 else mn))(Nm:Rj=(aCb mx ([(1099511627776:Int)]:List Int))):aC Tp 5 (sub (cd Tryz.f161) [1,1,1,1,0,1,0,0,1,1,0,0,1,1,1,0,1,0,1]) (rfO (aMo dl sk dc aln alc i Aa Ab Cr chn chc mn mx) 36 10 x) .normal (aWr dl sk dc aln alc i Aa Ab Cr Lo Ka Ri Rj):=by
 subst Kb Kc Nl Nm;have k1:=mN [] 5 (rU (dl:=dl) (sk:=sk) (dc:=dc) (on:=x.length) (ol:=(x.map aA)));have k2:=mq [5,6,7,8,9,10,11] 13 h0;exact aC.fi (gI [0,1,6,1,10,12,36,35] [13]) [.g 2 ⟨[29],[],[4],[]⟩,.x (PV.rp (aY dl sk dc) 0),.x (.agg [(aA Aa),(aA Ab)]),.x (PV.rp (aY dl sk dc) 0),k1.o,k2.o,bT,.c (pI (aCb mx ([(1099511627776:Int)]:List Int))) []] (gc aMm (gc aMn (gt (FC Tp 184 [(pI mx),(.own 15)] [(15,(.row 3 1 [(aA 1099511627776)]))] 16 (pI (aCb mx ([(1099511627776:Int)]:List Int))) []) (fv (aVq mx ([(1099511627776:Int)]:List Int) h3)) (gc aMm (gc aMn (gc h2 (gt ([(aA 1099511627776),(blP Gd),(aG x)].length=3) (by first | decide | simp) (gc h1 (gc k2 (gc k1 (gr (PV.rp (aY dl sk dc) 0) (gr (.agg [(aA Aa),(aA Ab)]) (gt (0+2≤[(aA Aa),(aA Ab)].length) (by first | decide | simp) (gr (PV.rp (aY dl sk dc) 0) gn))))))))))))))
theorem bKq{alc:List PV}{chc:List PV}{Ka:List PV}(h0:aGz dl sk dc (aG x) [Aa,Ab] n200 Gd ([]:Lqb) T202)(h1:Gd=false)(h2:[(aA n200),(blP Gd),(aG x)].length=1*3∧chn+1≤1000000)(h3:([n200]:List Int).length≤1000)(Kb:Lo=(chn+1))(Kc:Ka=(chc++[(aA n200),(blP Gd),(aG x)]))(Nl:Ri=(if n200<mn then n200 else mn))(Nm:Rj=(aCb mx ([n200]:List Int))):aC Tp 5 (sub (cd Tryz.f161) [1,1,1,1,0,1,0,0,1,1,0,0,1,1,1,0,1,0,1]) (rfO (aMo dl sk dc aln alc i Aa Ab Cr chn chc mn mx) 36 10 x) .normal (aWr dl sk dc aln alc i Aa Ab Cr Lo Ka Ri Rj):=by
 subst Kb Kc Nl Nm;have k1:=mN [] 5 (rU (dl:=dl) (sk:=sk) (dc:=dc) (on:=x.length) (ol:=(x.map aA)));have k2:=mq [5,6,7,8,9,10,11] 13 h0;exact aC.fi (gI [0,1,6,1,10,12,36,35] [13]) [.g 2 ⟨[29],[],[4],[]⟩,.x (PV.rp (aY dl sk dc) 0),.x (.agg [(aA Aa),(aA Ab)]),.x (PV.rp (aY dl sk dc) 0),k1.o,k2.o,bF,.c (pI (aCb mx ([n200]:List Int))) []] (gc aMm (gc aMn (gt (FC Tp 184 [(pI mx),(.own 15)] [(15,(.row 3 1 [(aA n200)]))] 16 (pI (aCb mx ([n200]:List Int))) []) (fv (aVq mx ([n200]:List Int) h3)) (gc aMm (gc aMn (gc h2 (gt ([(aA n200),(blP Gd),(aG x)].length=3) (by first | decide | simp) (gc h1 (gc k2 (gc k1 (gr (PV.rp (aY dl sk dc) 0) (gr (.agg [(aA Aa),(aA Ab)]) (gt (0+2≤[(aA Aa),(aA Ab)].length) (by first | decide | simp) (gr (PV.rp (aY dl sk dc) 0) gn))))))))))))))
end
section
abbrev bD:=Int × Bool × List Int
abbrev eR:=List bD × Int × Int
def hpE(h:eR):List PV:=[.sl h.1.length (h.1.map chE).flatten,aA h.2.1,aA h.2.2]
abbrev far:Int:=1099511627776
def chM(dl:Int)(dc:Lqq)(s0 s1:Int)(q:List Int):bD:=(if (cI dl q dc s0 s1).2 then far else (cI dl q dc s0 s1).1,(cI dl q dc s0 s1).2,q)
def mnM(l:List bD):Int:=l.foldl (fun m x=>if x.1<m then x.1 else m) far
def mxM(l:List bD):Int:=l.foldl (fun m x=>if x.1 > m then x.1 else m) 0
def iD(dl:Int)(dc:Lqq)(s0 s1:Int)(o:List Int):eR:=((iE o).map (chM dl dc s0 s1),mnM ((iE o).map (chM dl dc s0 s1)),mxM ((iE o).map (chM dl dc s0 s1)))
def vK(dc:Lqq)(n:Int):Int:=match ofN dc n with
 | some x=>mC dc x
 | none=>0
def kB(dl:Int)(dc:Lqq)(bib:Int):List Int:=(aP dl dc).filter fun n => !(vK dc n != bib)
def aJ(dl:Int)(sk dc:Lqq):List eR:=sk.map fun s=>iD dl dc (s.getD 0 0) (s.getD 1 0) (kB dl dc (s.getD 0 0))
theorem bAj(x:bD):kW (chE x)=true:=by
 obtain ⟨a,b,l⟩:=x;show (nmP (aA a) && (nmP (blP b) && (nmP (aG l) && true)))=true;have h:nmP (aG l)=true:=by
  show kW (l.map aA)=true;exact aEz aA (fun _=>rfl) l
 rw [h];rfl
theorem aBn:∀ (a b:List PV),kW (a++b)=(kW a && kW b)
 | [],b=>rfl
 | x::a,b=>by
  show (nmP x && kW (a++b))=((nmP x && kW a) && kW b);rw [aBn a b,Bool.and_assoc]
theorem uZ{α:Type}{E:α→List PV}(h:∀ a,kW (E a)=true):∀ l:List α,kW (l.map E).flatten=true
 | []=>rfl
 | a::l=>by rw [fZ,vC,aBn,h a,uZ h l];rfl
theorem bXm(x:eR):kW (hpE x)=true:=by
 obtain ⟨l,a,b⟩:=x;show (kW (l.map chE).flatten && (nmP (aA a) && (nmP (aA b) && true)))=true;rw [uZ bAj];rfl
def cHr(dl:Int)(sk dc:Lqq)(al:List eR)(i:Nat)(y0 y1:Int)(o:List Int)(l:List bD):St:=aMo dl sk dc al.length (al.map hpE).flatten i y0 y1 o l.length (l.map chE).flatten (mnM l) (mxM l)
def cKz(dl:Int)(sk dc:Lqq)(al:List eR)(i:Nat)(y0 y1:Int)(o:List Int)(l:List bD):St:=aWr dl sk dc al.length (al.map hpE).flatten i y0 y1 o l.length (l.map chE).flatten (mnM l) (mxM l)
theorem bXn(l:List bD)(c:bD):(l++[c]).length=l.length+1∧((l++[c]).map chE).flatten=(l.map chE).flatten++chE c∧mnM (l++[c])=(if c.1<mnM l then c.1 else mnM l)∧mxM (l++[c])=aCb (mxM l) [c.1]:=by
 refine ⟨by simp,by simp,?_,?_⟩
 ·unfold mnM;rw [aBy];rfl
 ·unfold mxM;rw [aBy];rfl
theorem bKl{dl:Int}{sk dc:Lqq}(hd:bN dc){al:List eR}{i:Nat}{y0 y1:Int}(hs : -1≤y1∧y1≤360000){o:List Int}{l:List bD}(hl:l.length+1≤1000000){x:List Int}(hx:x.length≤1000) :
  aC Tp 5 (sub (cd Tryz.f161) [1,1,1,1,0,1,0,0,1,1,0,0,1,1,1,0,1,0,1]) (rfO (cHr dl sk dc al i y0 y1 o l) 36 10 x) .normal (cKz dl sk dc al i y0 y1 o (l++[chM dl dc y0 y1 x])):=by
 obtain ⟨T',_,hT⟩:=bQa (sk:=sk) hd (fun n=>aFj hx n) y0 y1 hs (T:=[]) cS.nil
 obtain ⟨e1,e2,e3,e4⟩:=bXn l (chM dl dc y0 y1 x);cases hb:(cI dl x dc y0 y1).2 with
 | true =>
  have ec:chM dl dc y0 y1 x=(far,true,x):=by unfold chM;rw [hb];rfl
  rw [hb] at hT
  rw [ec] at e1 e2 e3 e4 ⊢
  exact bKp hT rfl ⟨rfl,hl⟩ (by simp) e1 e2 e3 e4
 | false =>
  have ec:chM dl dc y0 y1 x=((cI dl x dc y0 y1).1,false,x):=by unfold chM;rw [hb];rfl
  rw [hb] at hT
  rw [ec] at e1 e2 e3 e4 ⊢
  exact bKq hT rfl ⟨rfl,hl⟩ (by simp) e1 e2 e3 e4
theorem bKm{dl:Int}{sk dc:Lqq}(hd:bN dc){al:List eR}{i:Nat}{y0 y1:Int}(hs : -1≤y1∧y1≤360000){o:List Int}(ho:o.length≤8) :
  aC Tp 0 (sub (cd Tryz.f161) [1,1,1,1,0,1,0,0,1,1,0,0,1,1,1,0,1,0]) (aWq dl sk dc al.length (al.map hpE).flatten i y0 y1 o) .normal (cHr dl sk dc al i y0 y1 o ((iE o).map (chM dl dc y0 y1))):=by
 have hp:(2:Nat) ^ o.length≤256:=fB (Nat.pow_le_pow_right (by omega) ho) (by decide)
 refine (aJk (P:=Tp) (k:=0) (kb:=5) (kk:=3) (g0:=⟨[],[3],[],[(102000,197)]⟩) (g1:=⟨[],[5],[],[]⟩) (aWq dl sk dc al.length (al.map hpE).flatten i y0 y1 o)
  (fun pre=>cHr dl sk dc al i y0 y1 o (pre.map (chM dl dc y0 y1))) (fun pre l=>cKz dl sk dc al i y0 y1 o ((pre++[l]).map (chM dl dc y0 y1))) (fun _ _=>⟨[],[]⟩) _ [] (fun _ _=>false)
  (cc := sub (cd Tryz.f161) [1, 1, 1, 1, 0, 1, 0, 0, 1, 1, 0, 0, 1, 1, 1, 0, 1, 0]) (gi := 35) (p1 := 36) (d := 10) (id := 11) (ty := 33) (pos := "outcome.go:71") (body := sub (cd Tryz.f161) [1, 1, 1, 1, 0, 1, 0, 0, 1, 1, 0, 0, 1, 1, 1, 0, 1, 0, 1]) (by kernel_rfl)
  rfl (fun _=>rfl) (g := .fn 182 [] [.rp [aG o] 0]) (by rfl) (aJi o (by omega)) (fun args w=>rfl) (fun _=>rfl) (fun pre => ?_) (fun _ _=>rfl) (fun _ _=>rfl) rfl rfl (fun _=>by show 4<5;omega) (by kernel_rfl) (fun x=>rfl) (by show 3≤3;omega) rfl (by kernel_rfl) (fun pre l=>by kernel_rfl) (fun _ _ h=>by cases h) (gR:=⟨[],[],[],[]⟩) (fun pre l hpl hx=>⟨fun _ => ?_,fun h=>by cases h⟩)).1 (fun _ _ _=>rfl)
 ·show (kW (al.map hpE).flatten && (kW [] && (kW ((pre.map (chM dl dc y0 y1)).map chE).flatten && true)))=true
  rw [uZ bXm,uZ bAj];rfl
 ·have:=bKl (dl:=dl) (y0:=y0) (sk:=sk) hd (al:=al) (i:=i) hs (o:=o) (l:=pre.map (chM dl dc y0 y1)) (by rw [Cb];omega) hx
  rw [fM];exact this
end
section
theorem cHp{dl:Int}{sk dc:Lqq}(hd:bN dc){bib tm n:Int}(hn:n∈aP dl dc):aWt dl sk dc bib tm n (vK dc n != bib):=fun base=>by
 unfold aP at hn
 obtain ⟨x,hx,rfl⟩:=Bs.1 hn;have hx:=(kK.1 hx).1;have hr:=eQ hd hx;have hs:vK dc (dN x)=mC dc x:=by unfold vK;rw [aCn hd hx]
 rw [hs];obtain ⟨h1,h2⟩:=aVp hd hx;have hk:=yH hd (n:=dN x) (by unfold inR;omega)
 have hab:=nJ hd x hx;obtain ⟨a,b,c,d,e,f,rfl⟩:=A6 (hd.ud x hx);have hf:inR f:=by
  have:=(iB.1 (hd.rng _ hx));unfold inR;simp [dAb] at this hab ⊢;omega
 exact cHx hk h1 h2 (fun base=>bPy hd hf (.inl hx) hr.2) rfl
theorem bRk(dl:Int)(dc:Lqq)(b:Int):(kB dl dc b).length≤(aP dl dc).length:=mI _ _
theorem bXl{dl:Int}{sk dc:Lqq}(hd:bN dc)(hu:uni 2 sk)(hl:sk.length≤1000)(hs:∀ s∈sk,-1≤s.getD 1 0∧s.getD 1 0≤360000)(ho:(aP dl dc).length≤8) :
  aE Tp 0 (sub (cd Tryz.f161) [1,1,1,1,0,1,0,0]) (pM dl sk dc 0 [] 0) (.exit 0) (pM dl sk dc (aJ dl sk dc).length ((aJ dl sk dc).map hpE).flatten sk.length):=by
 obtain ⟨acc,hI,hL⟩:=aE.ex (P:=Tp) (k:=0) (b:=sub (cd Tryz.f161) [1,1,1,1,0,1,0,0]) (e := .exit 0) (fun i (al:List eR)=>pM dl sk dc al.length (al.map hpE).flatten i) (fun al=>pM dl sk dc al.length (al.map hpE).flatten sk.length) (fun i al=>al=aJ dl (sk.take i) dc) (by simp) sk.length
  (fun i al hi hal=>by
   obtain ⟨x,hx⟩:∃ x,sk[i]? = some x:=⟨_,Av hi⟩;have hm:=Bi hx;have hsx:=hs x hm;obtain ⟨y0,y1,rfl⟩:=len2 (hu x hm);have hlen:al.length=i:=by rw [hal];unfold aJ;rw [Cb,mJ];omega
   refine ⟨al++[iD dl dc y0 y1 (kB dl dc y0)],?_,bKn (Cr:=kB dl dc y0) (by omega) hx hu (by omega) (cHw (by omega) fun n hn=>cHp hd hn) (bKm hd hsx (fB (bRk dl dc y0) ho)) ⟨rfl,by omega⟩ (aH (by omega)) (by simp) (by simp only [fM,fZ,List.map_nil,aPn,vC,List.flatten_nil,List.append_nil];rfl) rfl⟩
   rw [hal];unfold aJ;rw [List.take_add_one,hx];simp)
  (fun al _=>bKo (by omega)) (acc:=[]) (by simp [aJ])
 rw [List.take_length] at hI
 rw [← hI];exact hL
theorem cHq{dl:Int}{sk dc:Lqq}(hd:bN dc)(hu:uni 2 sk)(hl:sk.length≤1000)(hs:∀ s∈sk,-1≤s.getD 1 0∧s.getD 1 0≤360000)(ho:(aP dl dc).length≤8){base:Nat} :
  FV Tp 161 [qL dl sk dc] base (.tup [.own base,.p (aA 0)]) [(base,.row 195 (aJ dl sk dc).length ((aJ dl sk dc).map hpE).flatten)]:=cHt hd (by omega) (bXl hd hu hl hs ho)
theorem bRl{dl:Int}{sk dc:Lqq}(hd:bN dc)(ho:8<(aP dl dc).length){base:Nat} :
  FV Tp 161 [qL dl sk dc] base (.tup [.p bX,.p (aA 10)]) []:=cHs hd (by omega)
end
end KV
end Go.Proofs
section
namespace Go.Proofs
open Go.Shelf
def Tryz.lays189_ren:Go.Shelf.Ren:=⟨fun | 189=>57 | 125=>131 | 257=>130 | 128=>180 | 129=>181 | 294=>171 | 295=>172 | 296=>173 | 297=>174 | 298=>175 | 299=>176 | 216=>177 | 300=>178 | 301=>179 | 328=>207 | 329=>208 | 330=>209 | 331=>210 | 332=>211 | 215=>168 | 343=>224 | n=>n,fun | 28=>33 | 3=>3 | 46=>172 | 0=>0 | 51=>127 | 53=>225 | 4=>4 | 183=>218 | 182=>217 | 131=>106 | 5=>5 | 9=>9 | 218=>245 | 222=>249 | 228=>257 | 229=>198 | n=>n,fun | n=>n⟩
theorem Tryz.lays189:Go.Proofs.Lays.n189 Tryz.prog Tryz.lays189_ren:={
 mixed:=by kernel_rfl
 f125:=func131.trans (congrArg some (by kernel_rfl))
 f128:=func180.trans (congrArg some (by kernel_rfl))
 f129:=func181.trans (congrArg some (by kernel_rfl))
 f189:=func57.trans (congrArg some (by kernel_rfl))
 f215:=func168.trans (congrArg some (by kernel_rfl))
 f216:=func177.trans (congrArg some (by kernel_rfl))
 f257:=func130.trans (congrArg some (by kernel_rfl))
 f294:=func171.trans (congrArg some (by kernel_rfl))
 f295:=func172.trans (congrArg some (by kernel_rfl))
 f296:=func173.trans (congrArg some (by kernel_rfl))
 f297:=func174.trans (congrArg some (by kernel_rfl))
 f298:=func175.trans (congrArg some (by kernel_rfl))
 f299:=func176.trans (congrArg some (by kernel_rfl))
 f300:=func178.trans (congrArg some (by kernel_rfl))
 f301:=func179.trans (congrArg some (by kernel_rfl))
 f328:=func207.trans (congrArg some (by kernel_rfl))
 f329:=func208.trans (congrArg some (by kernel_rfl))
 f330:=func209.trans (congrArg some (by kernel_rfl))
 f331:=func210.trans (congrArg some (by kernel_rfl))
 f332:=func211.trans (congrArg some (by kernel_rfl))
 f343:=func224.trans (congrArg some (by kernel_rfl))
 t0:=Tryz.underlying0
 a0:=Tryz.isAgg0
 z0:=Tryz.sizeOf0
 v0:=Tryz.zeroValue0
 t3:=Tryz.underlying3
 a3:=Tryz.isAgg3
 z3:=Tryz.sizeOf3
 v3:=Tryz.zeroValue3
 t4:=Tryz.underlying4
 a4:=Tryz.isAgg4
 z4:=Tryz.sizeOf4
 v4:=Tryz.zeroValue4
 t5:=Tryz.underlying5
 a5:=Tryz.isAgg5
 z5:=Tryz.sizeOf5
 v5:=Tryz.zeroValue5
 t9:=Tryz.underlying9
 a9:=Tryz.isAgg9
 z9:=Tryz.sizeOf9
 v9:=Tryz.zeroValue9
 t28:=Tryz.underlying33
 a28:=Tryz.isAgg33
 z28:=Tryz.sizeOf33
 v28:=Tryz.zeroValue33
 t46:=Tryz.underlying172
 a46:=Tryz.isAgg172
 z46:=Tryz.sizeOf172
 v46:=Tryz.zeroValue172
 t51:=Tryz.underlying127
 a51:=Tryz.isAgg127
 z51:=Tryz.sizeOf127
 v51:=Tryz.zeroValue127
 t53:=Tryz.underlying225
 a53:=Tryz.isAgg225
 z53:=Tryz.sizeOf225
 v53:=Tryz.zeroValue225
 t131:=Tryz.underlying106
 a131:=Tryz.isAgg106
 z131:=Tryz.sizeOf106
 v131:=Tryz.zeroValue106
 t182:=Tryz.underlying217
 a182:=Tryz.isAgg217
 z182:=Tryz.sizeOf217
 v182:=Tryz.zeroValue217
 t183:=Tryz.underlying218
 a183:=Tryz.isAgg218
 z183:=Tryz.sizeOf218
 v183:=Tryz.zeroValue218
 t218:=Tryz.underlying245
 a218:=Tryz.isAgg245
 z218:=Tryz.sizeOf245
 v218:=Tryz.zeroValue245
 t222:=Tryz.underlying249
 a222:=Tryz.isAgg249
 z222:=Tryz.sizeOf249
 v222:=Tryz.zeroValue249
 t228:=Tryz.underlying257
 a228:=Tryz.isAgg257
 z228:=Tryz.sizeOf257
 v228:=Tryz.zeroValue257
 t229:=Tryz.underlying198
 a229:=Tryz.isAgg198
 z229:=Tryz.sizeOf198
 v229:=Tryz.zeroValue198 }
open Go.Sort Go.RowKit in
theorem Tryz.slices_Sort_int(blk off cap:Nat)(zs:List Int)(w:World)(hH:Holds (Value.int .i64) w blk off zs.toArray)(hblk:blk<w.heap.size)(hsz:zs.length<4611686018427387904) :
  Calls Tryz.prog 57 #[.slice (some ⟨blk,off,none⟩) zs.length cap] w fun e w' =>
   e = .returned (.tuple #[])∧∃ n os,w'=grow (putRow (Value.int .i64) (Sort.ahead w n) blk off (zs.mergeSort fun x y=>decide (x≤y)).toArray) os:=Any.slices_Sort_int Tryz.lays189 blk off cap zs w hH hblk hsz
def Tryz.laysNm220_ren:Go.Shelf.Ren:=⟨fun | 20=>186 | n=>n,fun | 22=>33 | 3=>3 | 4=>4 | 0=>0 | n=>n,fun | n=>n⟩
theorem Tryz.laysNm220:Go.Proofs.Lays2.n20 Tryz.prog Tryz.laysNm220_ren:={
 mixed:=by kernel_rfl
 f20:=func186.trans (congrArg some (by kernel_rfl))
 t0:=Tryz.underlying0
 a0:=Tryz.isAgg0
 z0:=Tryz.sizeOf0
 v0:=Tryz.zeroValue0
 t3:=Tryz.underlying3
 a3:=Tryz.isAgg3
 z3:=Tryz.sizeOf3
 v3:=Tryz.zeroValue3
 t4:=Tryz.underlying4
 a4:=Tryz.isAgg4
 z4:=Tryz.sizeOf4
 v4:=Tryz.zeroValue4
 t22:=Tryz.underlying33
 a22:=Tryz.isAgg33
 z22:=Tryz.sizeOf33
 v22:=Tryz.zeroValue33
 i3:=by kernel_rfl }
open Go.RowKit Go.Lib Go.Sort in
theorem Tryz.slices_Compact_int(blk off cap:Nat)(zs:List Int)(w:World)(hH:Holds (Value.int .i64) w blk off zs.toArray)(hsz:zs.length≤9223372036854775807)(hcap:zs.length≤cap) :
  Calls Tryz.prog 186 #[.slice (some ⟨blk,off,none⟩) zs.length cap] w fun e w'=>e = .returned (.slice (some ⟨blk,off,none⟩) (Lib.compact zs).length cap)∧∃ q,w'=putRow (Value.int .i64) (Sort.ahead w q) blk off (Lib.compact zs++List.replicate (zs.length-(Lib.compact zs).length) 0).toArray:=Any.slices_Compact_int Tryz.laysNm220 blk off cap zs w hH hsz hcap
open Go.RowKit Go.Lib Go.Sort in
theorem Tryz.slices_Compact_int_empty(a:Option Addr)(cap:Nat)(w:World) :
  Calls Tryz.prog 186 #[.slice a 0 cap] w fun e w'=>e = .returned (.slice a 0 cap)∧w'=w:=Any.slices_Compact_int_empty Tryz.laysNm220 a cap w
theorem Tryz.slices_Sort_int_none(p:Option Addr)(cap:Nat)(w:World) :
  Calls Tryz.prog 57 #[.slice p 0 cap] w fun e w'=>e = .returned (.tuple #[])∧w'=w:=Any.slices_Sort_int_none Tryz.lays189 p cap w
end Go.Proofs
end
section
namespace Go.Proofs
open Go.RowKit Go.Lib Go.Sort
namespace KL
def OwnI(w:World)(base:Nat)(v:Value)(l:List Int):Prop:=w.ownsRow base 3 1 v l.length (l.map (Value.int .i64))

def leB:Int→Int→Bool:=fun x y=>decide (x≤y)

theorem bSa(base:Nat)(v:Value)(l:List Int)(w:World)(hv:OwnI w base v l)(hlen:l.length≤1000000) :
  Calls Tryz.prog 57 #[v] w fun e w'=>e = .returned (.tuple #[])∧OwnI w' base v (l.mergeSort leB)∧w.grownBy w' v.ownBlock:=by
 have hown:=hv
 rcases hv.2 with ⟨rfl,h0⟩ | ⟨g,cap,cur,rfl,hb,hg,hn,hm,hs,ht⟩
 ·have:l=[]:=List.eq_nil_of_length_eq_zero h0
  subst this;refine (Tryz.slices_Sort_int_none none 0 w).mono ?_;rintro e w' ⟨rfl,rfl⟩;exact ⟨rfl,by simpa using hown,World.grownBy.refl _ _⟩
 ·have hlt:=lt_of_block hg
  refine (Tryz.slices_Sort_int g 0 cap l w (holds_of_blockI hg (by simpa using ht)) hlt (by omega)).mono ?_
  rintro e w' ⟨rfl,n,os,rfl⟩;refine ⟨rfl,?_,grownBy_sortedI _⟩;have hl:(l.mergeSort leB).length=l.length:=List.length_mergeSort l;unfold OwnI;rw [hl];exact ownsRow_sortedI hl hb hg hn hm hs

end KL
open KL
namespace KV
open Tryz
open Go.Shelf
variable {P:Program} {C:Cx} {M:Mem} {w w':World}
abbrev rZ(l:List Int):AO := .row 3 l.length (l.map aA)
theorem bSb{F:Nat→Prop}{cur:Array Value}{l:List Int}(hle:l.length≤cur.size)(h:∀ j (hj:j<(l.map aA).length),cM F w (l.map aA)[j] (cur.getD j undef)):cur.toList.take l.length=l.map (Value.int .i64):=by
 apply List.ext_getElem
 ·simp;omega
 ·intro i h1 h2
  have hi:i<l.length:=by simpa using h2
  have:=h i (by simpa using hi)
  rw [List.getElem_map] at this
  rw [List.getElem_map,List.getElem_take];cases hx:cur.getD i undef with
  | int k z =>
   rw [hx] at this
   cases this;rw [Array.getD_eq_getD_getElem?,Array.getElem?_eq_getElem (by omega)] at hx
   simpa using hx
  | _=>rw [hx] at this;cases this
theorem aRd(F:Nat→Prop){cur:Array Value}{l:List Int}(h:cur.toList.take l.length=l.map (Value.int .i64)):(∀ j (hj:j<(l.map aA).length),cM F w (l.map aA)[j] (cur.getD j undef))∧∀ j,j<(l.map aA).length→(cur.getD j undef).oneCell'=true:=by
 have key:∀ j (hj:j<l.length),cur.getD j undef = .int .i64 l[j]:=fun j hj=>by
  have h1:=congrArg (fun x=>x[j]?) h
  simp only [List.getElem?_take,hj,if_true,List.getElem?_map,List.getElem?_eq_getElem hj,Option.map_some,Array.getElem?_toList] at h1
  rw [Array.getD_eq_getD_getElem?,h1];rfl
 refine ⟨fun j hj => ?_,fun j hj => ?_⟩
 ·have Ct:j<l.length:=by simpa using hj
  rw [List.getElem_map,key j Ct];exact .v _
 ·rw [key j (by simpa using hj)];rfl

theorem Kg:∃ i,Tryz.prog.info? 3=some i∧i.size=1:=uW (show (Tryz.prog.info? 3).map (fun i=>i.size)=some 1 by kernel_rfl)
theorem bSc{id:Nat}{l:List Int}{u:Value}(hM:aT Tryz.prog C M w)(ho:M[id]? = some (some (rZ l)))(h:Rep C M w (.own id) u):OwnI w 0 u l:=by
 refine ⟨by simp,?_⟩
 cases h with
 | own _ _ h0 ha hr =>
  rcases hr _ _ _ ho with ⟨rfl,_,hn⟩ | ⟨b,rfl,hb⟩
  ·exact .inl ⟨rfl,hn⟩
  ·rcases hM.row _ _ _ _ ho with ⟨Fe,_⟩ | ⟨b',arr,inf,A1,q1,q2,q3,q4,q5,q6,q7,q8⟩
   ·rw [hb] at Fe;cases Fe
   ·rw [hb] at A1;cases A1
    obtain ⟨i,hi,hs⟩:=Kg;rw [hi] at q2;cases q2
    exact .inr ⟨b,_,arr,rfl,Nat.zero_le _,q1,q5,q6,by rw [q3,hs],by rw [Nat.mul_one];exact bSb (by rw [q3,hs];omega) q7⟩

theorem aJo{l l':List Int}{u u':Value}{d:Bool}(hM:aT Tryz.prog C [some (rZ l)] w)(h:Rep C [some (rZ l)] w (.own 0) u)(hown:OwnI w' 0 u' l')(hg:w.grownBy w' u.ownBlock)
  (hb:u'.ownBlock=u.ownBlock) (hd:d=false→u'=u∧l'.length=l.length) :
  ∃ C',Fr C [some (rZ l)] w C' (if d then [some .dead,some (rZ l')] else [some (rZ l')]) w'∧aT Tryz.prog C' (if d then [some .dead,some (rZ l')] else [some (rZ l')]) w'∧Rep C' (if d then [some .dead,some (rZ l')] else [some (rZ l')]) w' (.own (if d then 1 else 0)) u':=by
 have Kq:∀ (id:Nat) (o:AO),([some (rZ l)]:Mem)[id]? = some (some o)→id=0∧o=rZ l:=fun id o h=>by
  cases id with
  | zero=>simp at h;exact ⟨rfl,h.symm⟩
  | succ i=>simp at h
 have hblk:∀ b,C.ι 0=some b→u.ownBlock=some b∧∃ cap,u = .slice (some ⟨b,0,none⟩) l.length cap∧cap=C.κ 0:=fun b Qr=>by
  cases h with
  | own _ _ h0 ha hr =>
   rcases hr _ _ _ rfl with ⟨_,hn,_⟩ | ⟨b',rfl,A1⟩
   ·rw [Qr] at hn;cases hn
   ·rw [Qr] at A1;cases A1;exact ⟨rfl,_,rfl,rfl⟩
 have hnb:C.ι 0=none→u = .slice none 0 0:=fun hn=>by
  cases h with
  | own _ _ h0 ha hr =>
   rcases hr _ _ _ rfl with ⟨hu,_,_⟩ | ⟨b',rfl,A1⟩
   ·exact hu
   ·rw [hn] at A1;cases A1
 have hkeep:∀ b,b<w.heap.size→(∀ (id:Nat) (o:AO),([some (rZ l)]:Mem)[id]? = some (some o)→o.live=true→C.ι id≠some b)→w'.heap[b]? = w.heap[b]? := fun b Dd hn=>by
  refine hg.block b Dd fun he => ?_
  cases hι:C.ι 0 with
  | none=>rw [hnb hι] at he;cases he
  | some b' =>
   rw [(hblk b' hι).1] at he;cases he
   exact hn 0 _ rfl rfl hι
 have hFz:∀ b,C.F b→w'.heap[b]? = w.heap[b]? := fun b hf=>hkeep b (hM.Fs b hf) fun id o hm hl he=>hM.nF id o b hm hl he hf
 cases d with
 | false =>
  obtain ⟨rfl,hlen⟩:=hd rfl;simp only [Bool.false_eq_true,if_false];have Dq:∀ (id:Nat) (o:AO),([some (rZ l')]:Mem)[id]? = some (some o)→id=0∧o=rZ l':=fun id o h=>by
   cases id with
   | zero=>simp at h;exact ⟨rfl,h.symm⟩
   | succ i=>simp at h
  have Qt:∀ b,C.ι 0=some b→∃ cur,w'.heap[b]? = some (.cells cur 3 (0,0))∧l'.length≤C.κ 0∧C.κ 0≤maxLen∧cur.size=C.κ 0∧cur.toList.take l'.length=l'.map (Value.int .i64):=fun b hι=>by
   obtain ⟨_,cap,hu,hc⟩:=hblk b hι
   rcases hown.2 with ⟨he,_⟩ | ⟨g,Hs,cur,hv,_,hh,r1,r2,r3,r4⟩
   ·rw [hu] at he;cases he
   ·rw [hu] at hv
    obtain ⟨e1,_,e3⟩:=Value.slice.inj hv;cases e1;subst e3;subst hc;exact ⟨cur,hh,r1,r2,by omega,by simpa using r4⟩
  refine ⟨C,⟨hg.os,hg.tape,hg.output,hg.size,hkeep,fun id o hm => ?_,fun id o hm ty n cs hx => ?_,fun id o hm o' hx hl => ?_,fun id o b hm hl hb => ?_,fun _ h=>h,fun _ h => .inl h⟩,
   ⟨fun id ty n cs hm => ?_,fun id ty cs hm => ?_,fun id es cl hm => ?_,fun id Gk o o' b h1 _ h2 _ _ _ => ?_,fun id o b hm hl hb => ?_,fun b hb=>Nat.lt_of_lt_of_le (hM.Fs b hb) hg.size,fun id o b hm hl hb => ?_⟩,?_⟩
  ·obtain ⟨rfl,rfl⟩:=Kq id o hm
   exact ⟨⟨_,rfl⟩,rfl,rfl⟩
  ·obtain ⟨rfl,rfl⟩:=Kq id o hm
   obtain ⟨_,he⟩:=Dq _ _ hx;cases he;exact ⟨l.map aA,by rw [hlen];rfl⟩
  ·obtain ⟨rfl,rfl⟩:=Kq id o hm
   rfl
  ·obtain ⟨rfl,rfl⟩:=Dq id o hm
   exact .inr ⟨0,_,rfl,rfl,hb⟩
  ·obtain ⟨rfl,he⟩:=Dq id _ hm
   cases he;cases hι:C.ι 0 with
   | none =>
    have:=hnb hι
    rcases hown.2 with ⟨_,h0⟩ | ⟨g,Hs,cur,hv,_⟩
    ·have:l'=[]:=List.eq_nil_of_length_eq_zero h0
     subst this;exact .inl ⟨rfl,rfl,rfl⟩
    ·rw [this] at hv;cases hv
   | some b =>
    obtain ⟨cur,q1,q2,q3,q4,q5⟩:=Qt b hι;obtain ⟨i,hi,hs⟩:=Kg;obtain ⟨r1,r2⟩:=aRd (w:=w') C.F q5;exact .inr ⟨b,cur,i,rfl,q1,hi,by rw [hs,q4,Nat.mul_one],by simp [hs],q2,q3,r1,r2⟩
  ·obtain ⟨_,he⟩:=Dq id _ hm;cases he
  ·obtain ⟨_,he⟩:=Dq id _ hm;cases he
  ·obtain ⟨rfl,_⟩:=Dq id _ h1
   obtain ⟨rfl,_⟩:=Dq Gk _ h2;rfl
  ·obtain ⟨rfl,_⟩:=Dq id _ hm
   exact hM.nF 0 _ b rfl rfl hb
  ·obtain ⟨rfl,_⟩:=Dq id _ hm
   exact Nat.lt_of_lt_of_le (hM.lt 0 _ b rfl rfl hb) hg.size
  ·cases h with
   | own _ _ h0 ha hr =>
    refine .own 0 _ h0 ⟨_,rfl⟩ fun ty n cs hx => ?_
    obtain ⟨_,he⟩:=Dq 0 _ hx;cases he
    rcases hr _ _ _ rfl with ⟨q1,q2,q3⟩ | ⟨b,q1,q2⟩
    ·exact .inl ⟨q1,q2,by omega⟩
    ·exact .inr ⟨b,by rw [q1,hlen],q2⟩
 | true =>
  simp only [if_true]
  let Hs:Nat:=match u' with | .slice _ _ c=>c | _=>0
  have Dq:∀ (id:Nat) (o:AO),([some .dead,some (rZ l')]:Mem)[id]? = some (some o)→(id=0∧o = .dead)∨(id=1∧o=rZ l'):=fun id o h=>by
   match id,h with
   | 0,h=>simp at h;exact .inl ⟨rfl,h.symm⟩
   | 1,h=>simp at h;exact .inr ⟨rfl,h.symm⟩
   | i+2,h=>simp at h
  refine ⟨{ ι:=fun i=>if i=1 then u'.ownBlock else C.ι i,κ:=fun i=>if i=1 then Hs else C.κ i,F:=C.F },⟨hg.os,hg.tape,hg.output,hg.size,hkeep,fun id o hm => ?_,fun id o hm ty n cs hx => ?_,fun id o hm o' hx hl => ?_,fun id o b hm hl hbb => ?_,fun _ h=>h,fun _ h => .inl h⟩,
   ⟨fun id ty n cs hm => ?_,fun id ty cs hm => ?_,fun id es cl hm => ?_,fun id Gk o o' b h1 l1 h2 l2 _ _ => ?_,fun id o b hm hl hbb => ?_,fun b hb=>Nat.lt_of_lt_of_le (hM.Fs b hb) hg.size,fun id o b hm hl hbb => ?_⟩,?_⟩
  ·obtain ⟨rfl,rfl⟩:=Kq id o hm
   exact ⟨⟨_,rfl⟩,rfl,rfl⟩
  ·obtain ⟨rfl,rfl⟩:=Kq id o hm
   rcases Dq _ _ hx with ⟨_,he⟩ | ⟨he,_⟩
   ·cases he
   ·cases he
  ·obtain ⟨rfl,rfl⟩:=Kq id o hm
   rfl
  ·rcases Dq id o hm with ⟨rfl,rfl⟩ | ⟨rfl,rfl⟩
   ·cases hl
   ·simp only [if_true] at hbb
    rw [hb] at hbb
    cases hι:C.ι 0 with
    | none=>rw [hnb hι] at hbb;cases hbb
    | some b' =>
     rw [(hblk b' hι).1] at hbb;cases hbb
     exact .inr ⟨0,_,rfl,rfl,hι⟩
  ·rcases Dq id _ hm with ⟨_,he⟩ | ⟨rfl,he⟩
   ·cases he
   ·cases he
    simp only [if_true]
    rcases hown.2 with ⟨rfl,h0⟩ | ⟨g,cp,cur,rfl,_,hh,r1,r2,r3,r4⟩
    ·have:l'=[]:=List.eq_nil_of_length_eq_zero h0
     subst this;exact .inl ⟨rfl,rfl,rfl⟩
    ·obtain ⟨i,hi,hs⟩:=Kg
     obtain ⟨q1,q2⟩:=aRd (w:=w') C.F (by simpa using r4)
     exact .inr ⟨g,cur,i,rfl,hh,hi,by rw [hs];exact r3,by simp [hs],r1,r2,q1,q2⟩
  ·rcases Dq id _ hm with ⟨_,he⟩ | ⟨_,he⟩ <;> cases he
  ·rcases Dq id _ hm with ⟨_,he⟩ | ⟨_,he⟩ <;> cases he
  ·rcases Dq id _ h1 with ⟨_,rfl⟩ | ⟨rfl,_⟩
   ·cases l1
   ·rcases Dq Gk _ h2 with ⟨_,rfl⟩ | ⟨rfl,_⟩
    ·cases l2
    ·rfl
  ·rcases Dq id _ hm with ⟨_,rfl⟩ | ⟨rfl,_⟩
   ·cases hl
   ·simp only [if_true] at hbb
    rw [hb] at hbb
    cases hι:C.ι 0 with
    | none=>rw [hnb hι] at hbb;cases hbb
    | some b' =>
     rw [(hblk b' hι).1] at hbb;cases hbb
     exact hM.nF 0 _ _ rfl rfl hι
  ·rcases Dq id _ hm with ⟨_,rfl⟩ | ⟨rfl,_⟩
   ·cases hl
   ·simp only [if_true] at hbb
    rw [hb] at hbb
    cases hι:C.ι 0 with
    | none=>rw [hnb hι] at hbb;cases hbb
    | some b' =>
     rw [(hblk b' hι).1] at hbb;cases hbb
     exact Nat.lt_of_lt_of_le (hM.lt 0 _ _ rfl rfl hι) hg.size
  ·have h0:u'.oneCell'=true:=by
    rcases hown.2 with ⟨rfl,_⟩ | ⟨g,cp,cur,rfl,_⟩ <;> rfl
   refine .own 1 _ h0 ⟨_,rfl⟩ fun ty n cs hx => ?_
   rcases Dq _ _ hx with ⟨he,_⟩ | ⟨_,he⟩
   ·cases he
   ·cases he
    simp only [if_true]
    rcases hown.2 with ⟨rfl,h9⟩ | ⟨g,cp,cur,rfl,_⟩
    ·exact .inl ⟨rfl,rfl,h9⟩
    ·exact .inr ⟨g,rfl,rfl⟩

theorem bSd(l:List Int)(hl:l.length≤1000000):FMM Tryz.prog 57 [.own 0] [some (rZ l)] (.tup []) [some (rZ (l.mergeSort leB))]:=fun C w us hus hM n=>by
 obtain ⟨u,rfl,hu⟩:=yE hus;refine (callsIn_wide.2 (bSa 0 u l w (bSc hM rfl hu) hl)).mono ?_;rintro e w' ⟨rfl,h1,h2⟩;obtain ⟨C',f,m,_⟩:=aJo (d:=false) hM hu h1 h2 rfl (fun _=>⟨rfl,List.length_mergeSort l⟩)
 exact ⟨_,rfl,C',f,m,.tup [] #[] rfl (fun i h=>by simp at h)⟩
theorem aFz(l:List Int):(Lib.compact l).length≤l.length:=by
 unfold Lib.compact Lib.compactUpTo;rw [List.length_map];exact Nat.le_trans (List.length_filter_le _ _) (by simp)
theorem aRe(base:Nat)(v:Value)(l:List Int)(w:World)(hv:KL.OwnI w base v l)(hlen:l.length≤1000000) :
  Calls Tryz.prog 186 #[v] w fun e w'=>∃ p' n' Hs,e = .returned (.slice p' n' Hs)∧n'=(Lib.compact l).length∧KL.OwnI w' base (.slice p' n' Hs) (Lib.compact l)∧w.grownBy w' v.ownBlock∧((Value.slice p' n' Hs).ownBlock=v.ownBlock):=by
 have hown:=hv
 rcases hv.2 with ⟨rfl,h0⟩ | ⟨b,cap,cur,rfl,hb,hg,hn,hm,hs,ht⟩
 ·have:l=[]:=List.eq_nil_of_length_eq_zero h0
  subst this;refine (Tryz.slices_Compact_int_empty none 0 w).mono ?_;rintro e w' ⟨rfl,rfl⟩;exact ⟨_,_,_,rfl,rfl,hown,World.grownBy.refl _ _,rfl⟩
 ·refine (Tryz.slices_Compact_int b 0 cap l w (holds_of_blockI hg (by simpa using ht)) (by omega) (by simpa using hn)).mono ?_
  rintro e w' ⟨rfl,q,rfl⟩;have hfl:=aFz l;refine ⟨_,_,_,rfl,rfl,?_,?_,rfl⟩
  ·have:=ownsRow_putRow (enc:=Value.int .i64) (q:=q) (k:=(Lib.compact l).length) (ys:=Lib.compact l++List.replicate (l.length-(Lib.compact l).length) 0) hown (by simp;omega) hfl
   unfold KL.OwnI;simpa using this
  ·exact grownBy_sortedI (os := #[]) (n:=q) (g:=b) (w:=w) ((Lib.compact l++List.replicate (l.length-(Lib.compact l).length) 0).toArray)
theorem aRf(l:List Int)(hl:l.length≤1000000):FMM Tryz.prog 186 [.own 0] [some (.row 3 l.length (l.map aA))] (.own 1) [some .dead,some (.row 3 (Lib.compact l).length ((Lib.compact l).map aA))]:=fun C w us hus hM n=>by
 obtain ⟨u,rfl,hu⟩:=yE hus;refine (callsIn_wide.2 (aRe 0 u l w (bSc hM rfl hu) hl)).mono ?_;rintro e w' ⟨p',n',Hs,rfl,h0,h1,h2,h3⟩;obtain ⟨C',f,m,r⟩:=aJo (d:=true) hM hu h1 h2 h3 (fun h=>by cases h)
 exact ⟨_,rfl,C',f,m,r⟩
end KV
end Go.Proofs
end
namespace Go.Proofs
namespace KV
open Tryz
section
variable {ou inn Ca:Bool}{t B6 C8 C9:Int}{o o' Et:List Int}{i n s i' few base Lm many Io:Nat}

noncomputable abbrev uB:Code:=sub (cd Tryz.f142) [1,1,0,1,0,0]
noncomputable abbrev aFu:Code:=sub (cd Tryz.f141) [1,0,1,0,0]
noncomputable abbrev aFv:Code:=sub (cd Tryz.f141) [1,0,1,0,0,1,1,0,0,1,1,1,1,1,0,0]
theorem aMj:0≤(0:Int)∧(0:Int)<2:=by first | decide | simp
theorem aMk:0≤(1:Int)∧(1:Int)<2:=by first | decide | simp
def jJ(al:List eR)(s:Nat)(t:Int)(few:Nat)(many:Nat)(i:Nat):St:=⟨fr 39 [(1,(pI (s:Int))),(2,(pI t)),(6,(pI 0)),(7,(pI 0)),(8,(pI (few:Int))),(9,(pI (many:Int))),(12,(.p (.sl al.length ((al.map hpE).flatten)))),(13,(pI (al.length:Int))),(14,(pI (i:Int)))],[]⟩
theorem cHl{al:List eR}{Mk J8 B5:Nat}(hl0:aE Tp 0 uB (jJ al s t 0 0 0) (.exit 0) (jJ al s t Mk J8 B5)):FV Tp 142 [(.p (.sl al.length ((al.map hpE).flatten))),(pI (s:Int)),(pI t)] base (.tup [(pI (Mk:Int)),(pI (J8:Int))]) []:=FV.fi func142 [hl0.k 8 (gZ [0,1,3,3,10,2,15,22])] (gc hl0.code gn)
theorem bKa{al:List eR}{Cc:List bD}(h0:(i:Int)<(al.length:Int))(h1:al[i]? = some (Cc,C8,C9))(h2:(i:Int)=(s:Int))(h3:inR (((i+1):Nat):Int))(Ai:i'=(i+1)):aC Tp 0 uB (jJ al s t few many i) .normal (jJ al s t few many i'):=by
 subst Ai;exact aC.fi (gZ [0,1,3,3,10,2,15,22]) [bT,.x (.agg [(.sl Cc.length ((Cc.map chE).flatten)),(aA C8),(aA C9)]),bT] (gc h3 (gc (cH h2) (gc (nS (E:=hpE) (i:=i) (k:=3) (fun _=>rfl) h1 rfl) (gc (wX (E:=hpE) (i:=i) (k:=3) (fun _=>rfl) h1) (gc (lP (E:=hpE) (k:=3) (i:=(i:Int)) (fun _=>rfl) (by decide) (Br _) h1) (gc (aI h0) gn))))))
theorem bKb{al:List eR}{Cc:List bD}(h0:(i:Int)<(al.length:Int))(h1:al[i]? = some (Cc,C8,C9))(h2:(i:Int)≠(s:Int))(h3:C9<t)(h4:inR (((few+1):Nat):Int))(h5:C8<t)(h6:inR (((many+1):Nat):Int))(h7:inR (((i+1):Nat):Int))(J9:Lm=(few+1))(Ib:Io=(many+1))(Ai:i'=(i+1)):aC Tp 0 uB (jJ al s t few many i) .normal (jJ al s t Lm Io i'):=by
 subst J9 Ib Ai;exact aC.fi (gZ [0,1,3,3,10,2,15,22]) [bT,.x (.agg [(.sl Cc.length ((Cc.map chE).flatten)),(aA C8),(aA C9)]),bF,bT,bT] (gc h7 (gc h6 (gc (aI h5) (gc aMj (gc h4 (gc (aI h3) (gc aMk (gc (aU h2) (gc (nS (E:=hpE) (i:=i) (k:=3) (fun _=>rfl) h1 rfl) (gc (wX (E:=hpE) (i:=i) (k:=3) (fun _=>rfl) h1) (gc (lP (E:=hpE) (k:=3) (i:=(i:Int)) (fun _=>rfl) (by decide) (Br _) h1) (gc (aI h0) gn))))))))))))
theorem bKc{al:List eR}{Cc:List bD}(h0:(i:Int)<(al.length:Int))(h1:al[i]? = some (Cc,C8,C9))(h2:(i:Int)≠(s:Int))(h3:C9<t)(h4:inR (((few+1):Nat):Int))(h5:t≤C8)(h6:inR (((i+1):Nat):Int))(J9:Lm=(few+1))(Ai:i'=(i+1)):aC Tp 0 uB (jJ al s t few many i) .normal (jJ al s t Lm many i'):=by
 subst J9 Ai;exact aC.fi (gZ [0,1,3,3,10,2,15,22]) [bT,.x (.agg [(.sl Cc.length ((Cc.map chE).flatten)),(aA C8),(aA C9)]),bF,bT,bF] (gc h6 (gc (aN h5) (gc aMj (gc h4 (gc (aI h3) (gc aMk (gc (aU h2) (gc (nS (E:=hpE) (i:=i) (k:=3) (fun _=>rfl) h1 rfl) (gc (wX (E:=hpE) (i:=i) (k:=3) (fun _=>rfl) h1) (gc (lP (E:=hpE) (k:=3) (i:=(i:Int)) (fun _=>rfl) (by decide) (Br _) h1) (gc (aI h0) gn)))))))))))
theorem bKd{al:List eR}{Cc:List bD}(h0:(i:Int)<(al.length:Int))(h1:al[i]? = some (Cc,C8,C9))(h2:(i:Int)≠(s:Int))(h3:t≤C9)(h4:C8<t)(h5:inR (((many+1):Nat):Int))(h6:inR (((i+1):Nat):Int))(Ib:Io=(many+1))(Ai:i'=(i+1)):aC Tp 0 uB (jJ al s t few many i) .normal (jJ al s t few Io i'):=by
 subst Ib Ai;exact aC.fi (gZ [0,1,3,3,10,2,15,22]) [bT,.x (.agg [(.sl Cc.length ((Cc.map chE).flatten)),(aA C8),(aA C9)]),bF,bF,bT] (gc h6 (gc h5 (gc (aI h4) (gc aMj (gc (aN h3) (gc aMk (gc (aU h2) (gc (nS (E:=hpE) (i:=i) (k:=3) (fun _=>rfl) h1 rfl) (gc (wX (E:=hpE) (i:=i) (k:=3) (fun _=>rfl) h1) (gc (lP (E:=hpE) (k:=3) (i:=(i:Int)) (fun _=>rfl) (by decide) (Br _) h1) (gc (aI h0) gn)))))))))))
theorem bKe{al:List eR}{Cc:List bD}(h0:(i:Int)<(al.length:Int))(h1:al[i]? = some (Cc,C8,C9))(h2:(i:Int)≠(s:Int))(h3:t≤C9)(h4:t≤C8)(h5:inR (((i+1):Nat):Int))(Ai:i'=(i+1)):aC Tp 0 uB (jJ al s t few many i) .normal (jJ al s t few many i'):=by
 subst Ai;exact aC.fi (gZ [0,1,3,3,10,2,15,22]) [bT,.x (.agg [(.sl Cc.length ((Cc.map chE).flatten)),(aA C8),(aA C9)]),bF,bF,bF] (gc h5 (gc (aN h4) (gc aMj (gc (aN h3) (gc aMk (gc (aU h2) (gc (nS (E:=hpE) (i:=i) (k:=3) (fun _=>rfl) h1 rfl) (gc (wX (E:=hpE) (i:=i) (k:=3) (fun _=>rfl) h1) (gc (lP (E:=hpE) (k:=3) (i:=(i:Int)) (fun _=>rfl) (by decide) (Br _) h1) (gc (aI h0) gn))))))))))
theorem bKf{al:List eR}(h0:(al.length:Int)≤(i:Int)):aC Tp 0 uB (jJ al s t few many i) (.exit 0) (jJ al s t few many i):=aC.fi (gZ [0,1,3,3,10,2,15,22]) [bF] (gc (aN h0) gn)
def dA(al:List eR)(s:Nat)(t:Int):Nat→Nat × Nat
 | 0=>(0,0)
 | i+1=>match al[i]? with
  | some h=>if i=s then dA al s t i else ((if h.2.2<t then (dA al s t i).1+1 else (dA al s t i).1),(if h.2.1<t then (dA al s t i).2+1 else (dA al s t i).2))
  | none=>dA al s t i
abbrev cK(al:List eR)(s:Nat)(t:Int):Nat × Nat:=dA al s t al.length
theorem qQ(al:List eR)(s:Nat)(t:Int):∀ i,(dA al s t i).1≤i∧(dA al s t i).2≤i
 | 0=>⟨dG _,dG _⟩
 | i+1=>by
  have:=qQ al s t i;unfold dA
  split
  ·split
   ·omega
   ·dsimp only
    split <;> split <;> omega
  ·omega
theorem cHm(al:List eR)(s:Nat)(t:Int)(hl:al.length≤1000){base:Nat}:FV Tp 142 [.p (.sl al.length (al.map hpE).flatten),.p (aA s),.p (aA t)] base (.tup [.p (aA ((cK al s t).1:Nat)),.p (aA ((cK al s t).2:Nat))]) []:=by
 obtain ⟨a,hI,hL⟩:=aE.ex (P:=Tp) (k:=0) (b:=uB) (e := .exit 0) (fun i (a:Nat × Nat)=>jJ al s t a.1 a.2 i) (fun a=>jJ al s t a.1 a.2 al.length) (fun i a=>a=dA al s t i) (by simp) al.length
  (fun i a hi ha=>by
   obtain ⟨⟨c,mn,mx⟩,hx⟩:∃ x,al[i]? = some x:=⟨_,Av hi⟩;have hle:=qQ al s t i;refine ⟨_,rfl,?_⟩;subst ha;have e:dA al s t (i+1)=if i=s then dA al s t i else ((if mx<t then (dA al s t i).1+1 else (dA al s t i).1),(if mn<t then (dA al s t i).2+1 else (dA al s t i).2)):=by
    conv=>lhs;unfold dA
    rw [hx]
   rw [e]
   by_cases his:i=s
   ·rw [if_pos his];exact bKa (by omega) hx (by omega) (aH (by omega)) rfl
   ·rw [if_neg his]
    by_cases h1:mx<t <;> by_cases h2:mn<t
    ·rw [if_pos h1,if_pos h2];exact bKb (by omega) hx (by omega) h1 (aH (by omega)) h2 (aH (by omega)) (aH (by omega)) rfl rfl rfl
    ·rw [if_pos h1,if_neg h2];exact bKc (by omega) hx (by omega) h1 (aH (by omega)) (by omega) (aH (by omega)) rfl rfl
    ·rw [if_neg h1,if_pos h2];exact bKd (by omega) hx (by omega) (by omega) h2 (aH (by omega)) (aH (by omega)) rfl rfl
    ·rw [if_neg h1,if_neg h2];exact bKe (by omega) hx (by omega) (by omega) (by omega) (aH (by omega)) rfl)
  (fun a _=>bKf (by omega)) (acc:=(0,0)) rfl
 subst hI;exact cHl hL
def pK(al:List eR)(s:Nat)(c0:List bD)(on:Nat)(oc:List PV)(ou:Bool)(inn:Bool)(i:Nat):St:=⟨fr 51 [(0,(.p (.sl al.length ((al.map hpE).flatten)))),(1,(pI (s:Int))),(4,(.own 0)),(5,(pB ou)),(6,(pB inn)),(16,(.p (.sl c0.length ((c0.map chE).flatten)))),(17,(pI (c0.length:Int))),(18,(pI (i:Int)))],[some (.row 3 on oc)]⟩
theorem cHn{al:List eR}{c0:List bD}{Xo Xp:Int}{Nk:List Int}{Qe Ml:Bool}{Q8:Nat}(h0:al[s]? = some (c0,Xo,Xp))(A2:aE Tp 0 aFu (pK al s c0 0 [] false false 0) (.exit 0) (pK al s c0 Nk.length (Nk.map aA) Qe Ml Q8))(h2:Nk.length≤1000000)(h3:(Nk.mergeSort KL.leB).length≤1000000):FV Tp 141 [(.p (.sl al.length ((al.map hpE).flatten))),(pI (s:Int))] base (.tup [(.p (aG (Lib.compact (Nk.mergeSort KL.leB)))),(pB Qe),(pB Ml)]) []:=have k1:=mq [0] 1 (bSd Nk h2);have k2:=mq [0] 1 (aRf (Nk.mergeSort KL.leB) h3);FV.frz (FMM.fi 0 ⟨[],[],[1],[]⟩ func141 [.x (.sl c0.length ((c0.map chE).flatten)),A2.k 1 (gN [2,2,7,9,19,26,46,1] [0] [(4,3),(5,0),(6,0)]),k1.o,k2.o] (gc k2 (gc k1 (gc A2.code (gt (((al.map hpE).flatten)[(s*3)]? = some (.sl c0.length ((c0.map chE).flatten))) (bI (E:=hpE) (i:=s) (f:=0) (k:=3) (fun _=>rfl) h0 rfl) (gc (lP (E:=hpE) (k:=3) (i:=(s:Int)) (fun _=>rfl) (by decide) (Br _) h0) gn)))))) (by kernel_rfl)
def pL(al:List eR)(s:Nat)(c0:List bD)(ou:Bool)(i:Nat)(B6:Int)(Ca:Bool)(Et:List Int)(on:Nat)(oc:List PV)(n:Nat):St:=⟨fr 51 [(0,(.p (.sl al.length ((al.map hpE).flatten)))),(1,(pI (s:Int))),(4,(.own 0)),(5,(pB ou)),(6,(.kb true)),(8,(.ptr 1 0)),(9,(pI (((cK al s B6).1:Nat):Int))),(10,(pI (((cK al s B6).2:Nat):Int))),(11,(pI (n:Int))),(16,(.p (.sl c0.length ((c0.map chE).flatten)))),(17,(pI (c0.length:Int))),(18,(pI (i:Int))),(19,(pB (decide ((i:Int)<(c0.length:Int))))),(20,(.rp ((c0.map chE).flatten) (i*3))),(21,(.p (.agg [(aA B6),(blP Ca),(aG Et)]))),(22,(.ptr 1 1)),(23,(pB Ca)),(24,(.tup [(pI (((cK al s B6).1:Nat):Int)),(pI (((cK al s B6).2:Nat):Int))])),(25,(.p (.sl al.length ((al.map hpE).flatten)))),(26,(pI (s:Int))),(27,(.ptr 1 0)),(28,(pI B6)),(29,(.tup [(pI (((cK al s B6).1:Nat):Int)),(pI (((cK al s B6).2:Nat):Int))])),(30,(pI (((cK al s B6).1:Nat):Int))),(31,(pI (((cK al s B6).2:Nat):Int))),(32,(pI (((cK al s B6).1:Nat):Int))),(33,(pI ((((cK al s B6).1+1):Nat):Int)))],[some (.row 3 on oc),some (.box 197 [(pI B6),(pB Ca),(.p (aG Et))])]⟩
theorem bKg{al:List eR}{c0:List bD}(h0:(i:Int)<(c0.length:Int))(h1:c0[i]? = some (B6,Ca,Et))(h2:Ca=true)(h3:inR (((i+1):Nat):Int))(Ai:i'=(i+1)):aC Tp 0 aFu (pK al s c0 o.length (o.map aA) ou inn i) .normal (pK al s c0 o.length (o.map aA) true inn i'):=by
 subst Ai;exact aC.fi (gN [2,2,7,9,19,26,46,1] [0] [(5,0)]) [bT,.x (.agg [(aA B6),(blP Ca),(aG Et)]),bT] (gc h3 (gc h2 (gc (nS (E:=chE) (i:=i) (k:=3) (fun _=>rfl) h1 rfl) (gc (wX (E:=chE) (i:=i) (k:=3) (fun _=>rfl) h1) (gc (lP (E:=chE) (k:=3) (i:=(i:Int)) (fun _=>rfl) (by decide) (Br _) h1) (gc (aI h0) gn))))))
theorem bKh{al:List eR}{c0:List bD}{Ip:List Int}{Qg:Nat}(h0:(i:Int)<(c0.length:Int))(h1:c0[i]? = some (B6,Ca,Et))(h2:Ca=false)(h3:al.length≤1000)(h4:inR ((((cK al s B6).1+1):Nat):Int))(Ea:aE Tp 0 aFv (pL al s c0 ou i B6 Ca Et o.length (o.map aA) ((cK al s B6).1+1)) (.exit 2) (pL al s c0 ou i B6 Ca Et Ip.length (Ip.map aA) Qg))(h6:inR (((i+1):Nat):Int))(B1:o'.length=Ip.length)(B2:o'.map aA=(Ip.map aA))(Ai:i'=(i+1)):aC Tp 0 aFu (pK al s c0 o.length (o.map aA) ou inn i) .normal (pK al s c0 o'.length (o'.map aA) ou true i'):=by
 subst Ai;have k1:=fk 2 (cHm al s B6 h3) rfl;rw [B1,B2];exact aC.fi (gN [2,2,7,9,19,26,46,1] [0] [(6,0)]) [bT,.x (.agg [(aA B6),(blP Ca),(aG Et)]),bF,k1.o,Ea.k 3 (gI [2,2,7,1,12,4,34,10,46,1] [0,1])] (gc h6 (gc Ea.code (gc h4 (gc k1 (gc h2 (gc (nS (E:=chE) (i:=i) (k:=3) (fun _=>rfl) h1 rfl) (gc (wX (E:=chE) (i:=i) (k:=3) (fun _=>rfl) h1) (gc (lP (E:=chE) (k:=3) (i:=(i:Int)) (fun _=>rfl) (by decide) (Br _) h1) (gc (aI h0) gn)))))))))
theorem bKi{al:List eR}{c0:List bD}(h0:(c0.length:Int)≤(i:Int)):aC Tp 0 aFu (pK al s c0 o.length (o.map aA) ou inn i) (.exit 0) (pK al s c0 o.length (o.map aA) ou inn i):=aC.fi (gI [2,2,7,9,19,26,46,1] [0]) [bF] (gc (aN h0) gn)
theorem bKj{al:List eR}{c0:List bD}{n':Nat}(h0:inR ((((cK al s B6).2+1):Nat):Int))(h1:(n:Int)≤((((cK al s B6).2+1):Nat):Int))(h2:[(aA (n:Int))].length=1*1∧o.length+1≤1000000)(h3:inR (((n+1):Nat):Int))(B1:o'.length=(o.length+1))(B2:o'.map aA=((o.map aA)++[(aA (n:Int))]))(Jw:n'=(n+1)):aC Tp 0 aFv (pL al s c0 ou i B6 Ca Et o.length (o.map aA) n) .normal (pL al s c0 ou i B6 Ca Et o'.length (o'.map aA) n'):=by
 subst Jw;rw [B1,B2];exact aC.fi (gI [2,2,7,1,12,4,34,10,46,1] [3,1]) [bT] (gc h3 (gc h2 (gc (mA h1) (gc h0 gn))))
theorem bKk{al:List eR}{c0:List bD}(h0:inR ((((cK al s B6).2+1):Nat):Int))(h1:((((cK al s B6).2+1):Nat):Int)<(n:Int)):aC Tp 0 aFv (pL al s c0 ou i B6 Ca Et o.length (o.map aA) n) (.exit 2) (pL al s c0 ou i B6 Ca Et o.length (o.map aA) n):=aC.fi (gI [2,2,7,1,12,4,34,10,46,1] [0,1]) [bF] (gc (jG h1) (gc h0 gn))
def aHb(few many:Nat):List Int:=(List.range (many+1-few)).map fun j=>((few+1+j:Nat):Int)
def chL(al:List eR)(s:Nat)(c:bD):List Int:=if c.2.1 then [] else aHb (cK al s c.1).1 (cK al s c.1).2
def eJ(al:List eR)(s:Nat)(c:List bD):List Int:=Lib.compact ((c.flatMap (chL al s)).mergeSort KL.leB)
theorem bRj{a b:Nat}(h:b≤1000):(aHb a b).length≤1001:=by unfold aHb;simp;omega
theorem bXk(al:List eR)(hal:al.length≤1000)(s:Nat)(c:bD):(chL al s c).length≤1001:=by
 unfold chL
 split
 ·simp
 ·exact bRj (by have:(cK al s c.1).2≤al.length:=(qQ al s c.1 al.length).2;omega)
theorem aMl{al:List eR}(hal:al.length≤1000)(s:Nat):∀ c:List bD,(c.flatMap (chL al s)).length≤c.length*1001
 | []=>by simp
 | x::c=>by
  rw [List.flatMap_cons,iF,nX];have:=bXk al hal s x;have:=aMl hal s c;omega
theorem cHo{al:List eR}(hal:al.length≤1000)(s:Nat)(c0:List bD)(ou:Bool)(i:Nat)(t:Int)(b:Bool)(q o:List Int)(ho:o.length≤900000) :
  ∃ n',aE Tp 0 aFv (pL al s c0 ou i t b q o.length (o.map aA) ((cK al s t).1+1)) (.exit 2) (pL al s c0 ou i t b q (o++aHb (cK al s t).1 (cK al s t).2).length ((o++aHb (cK al s t).1 (cK al s t).2).map aA) n'):=by
 have h1:(cK al s t).1≤al.length:=(qQ al s t al.length).1;have h2:(cK al s t).2≤al.length:=(qQ al s t al.length).2;obtain ⟨x,hI,hL⟩:=aE.ex (P:=Tp) (k:=0) (b:=aFv) (e := .exit 2) (fun j (x:List Int)=>pL al s c0 ou i t b q x.length (x.map aA) ((cK al s t).1+1+j)) (fun x=>pL al s c0 ou i t b q x.length (x.map aA) ((cK al s t).1+1+((cK al s t).2+1-(cK al s t).1)))
  (fun j x=>x=o++(List.range j).map fun j=>(((cK al s t).1+1+j:Nat):Int)) (by simp) ((cK al s t).2+1-(cK al s t).1)
  (fun j x hj hx=>by
   have hlen:x.length=o.length+j:=by rw [hx];simp
   refine ⟨x++[(((cK al s t).1+1+j:Nat):Int)],?_,bKj (aH (by omega)) (by omega) ⟨rfl,by omega⟩ (aH (by omega)) (by simp) (by simp) rfl⟩
   rw [hx,List.range_succ];simp)
  (fun x _=>bKk (aH (by omega)) (by omega)) (acc:=o) (by simp)
 rw [show o++aHb (cK al s t).1 (cK al s t).2=x from hI.symm]
 exact ⟨_,hL⟩
theorem xB{al:List eR}(hal:al.length≤1000){s:Nat}{c:List bD}{mn mx:Int}(hx:al[s]? = some (c,mn,mx))(hc:c.length≤256){base:Nat} :
  FV Tp 141 [.p (.sl al.length (al.map hpE).flatten),.p (aA s)] base (.tup [.p (aG (eJ al s c)),.p (blP (c.any fun x=>x.2.1)),.p (blP (c.any fun x => !x.2.1))]) []:=by
 obtain ⟨a,⟨hI,hJ,hK⟩,hL⟩:=aE.ex (P:=Tp) (k:=0) (b:=aFu) (e := .exit 0) (fun i (a:List Int × Bool × Bool)=>pK al s c a.1.length (a.1.map aA) a.2.1 a.2.2 i) (fun a=>pK al s c a.1.length (a.1.map aA) a.2.1 a.2.2 c.length)
  (fun i a=>a.1=(c.take i).flatMap (chL al s)∧a.2.1=((c.take i).any fun x=>x.2.1)∧a.2.2=((c.take i).any fun x => !x.2.1)) (by simp) c.length
  (fun i a hi ha=>by
   obtain ⟨N4,Xq,Xr⟩:=ha;obtain ⟨⟨t,b,q⟩,hx⟩:∃ x,c[i]? = some x:=⟨_,Av hi⟩;have hlen:a.1.length≤256*1001:=by
    rw [N4];have:=aMl hal s (c.take i);rw [mJ] at this
    have:min i c.length≤256:=by omega
    omega
   have e1:c.take (i+1)=c.take i++[(t,b,q)]:=by rw [List.take_add_one,hx];rfl
   cases b with
   | true=>exact ⟨(a.1,true,a.2.2),⟨by rw [N4,e1];simp [chL],by rw [e1];simp,by rw [Xr,e1];simp⟩,bKg (by omega) hx rfl (aH (by omega)) rfl⟩
   | false =>
    have h1:(cK al s t).1≤al.length:=(qQ al s t al.length).1;obtain ⟨n',hl⟩:=cHo hal s c a.2.1 i t false q a.1 (by omega)
    exact ⟨(a.1++aHb (cK al s t).1 (cK al s t).2,a.2.1,true),⟨by rw [N4,e1];simp [chL],by rw [Xq,e1];simp,by rw [e1];simp⟩,bKh (by omega) hx rfl hal (aH (by omega)) hl (aH (by omega)) rfl rfl rfl⟩)
  (fun a _=>bKi (by omega)) (acc:=([],false,false)) (by simp)
 rw [List.take_length] at hI hJ hK
 have hb:=aMl hal s c;have:=cHn (s:=s) hx hL (by rw [hI];omega) (by rw [bUf,hI];omega) (base:=base)
 rw [hI,hJ,hK] at this
 exact this
end
end KV
end Go.Proofs
