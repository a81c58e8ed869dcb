/- Parts of the proof of JMattered: laws of walks, contracts of functions, plain models. No condition. -/
import Derived.Lib.OwnBridge
import Derived.Shelf.Slices.Clone
import Derived.Shelf.Small.Bits
import Derived.Shelf.Small.Wraps
import Derived.Shelf.Strconv.Itoa0
import Derived.Shelf.Sort.Plain
import Derived.Shelf.Slices.Turned
import Derived.Ground.Names2Prog
import Derived.Shelf.Slices.CompactI
import Derived.Shelf.Slices.SearchI
import Derived.Shelf.Slices.Cells
import Derived.Shelf.Slices.In.SortNone
import Derived.Ground.SlgnProg
import Derived.Shelf.SlicesE.Clone
import Derived.Test.YtgejpbmanhlkcaaGreatProg
import Derived.Sort.OwnSortedInts
import Derived.OneCell
import Derived.Test.YtgejpbmanhlkcaaGreatPJMatteredD
set_option linter.unusedVariables false
set_option linter.unusedSimpArgs false
set_option maxRecDepth 100000
namespace Go.Proofs
namespace KV
section

noncomputable abbrev kQ:Code:=sub (cd Tryz.f16) [1,1,1,1,0,1,0,0,1,1,0,0,1,1,1,1,0]
noncomputable abbrev nQ:Code:=sub (cd Tryz.f16) [1,1,1,1,0,1,0,0]
noncomputable abbrev nR:Code:=sub (cd Tryz.f16) [1,1,1,1,0,1,0,0,1,1,0,0,1,1,1,0]
noncomputable abbrev xE:Code:=sub (cd Tryz.f16) [1,1,0,1,0,0]
def gU(nd:Int)(l:List Int)(r0:Int)(i:Nat)(skn:Nat)(skc:List PV)(mx:Int)(tt:Int):St:=⟨fr 121 [(0,(.ptr 0 0)),(2,(pI nd)),(6,(.ptr 1 0)),(7,(.ptr 2 0)),(15,(pI r0)),(16,(pI (i:Int)))],[some (.box 129 [(.p (.sl l.length (l.map aO))),(pI mx),(.p (.v (.int .u32 tt)))]),some (.box 26 [(pI 0),(.p cC),(.p cC)]),some (.box 26 [(pI 30),(.own 3),(.p cC)]),some (.row 31 skn skc)]⟩
def dR(l:List Int)(sk'4:Lqq)(r7:Int)(j:Nat)(dcn:Nat)(dcc:List PV)(nu:Int)(mx:Int)(tt:Int):St:=⟨fr 121 [(0,(.ptr 0 0)),(6,(.ptr 1 0)),(7,(.ptr 2 0)),(10,(pI nu)),(40,(pI r7)),(41,(pI (j:Int)))],[some (.box 129 [(.p (.sl l.length (l.map aO))),(pI mx),(.p (.v (.int .u32 tt)))]),some (.box 26 [(pI 0),(.p cC),(.p cC)]),some (.box 26 [(pI 30),(.own 3),(.own 4)]),some (.row 31 sk'4.length (sk'4.flatten.map aA)),some (.row 44 dcn dcc)]⟩
theorem bVg{ns nd:Int}{l:List Int}{nx st r0 m1 t2:Int}{i'3:Nat}{sk'4:Lqq}{mx'5 tt'6 r7 m8 t9:Int}{j'10:Nat}{dc'11:Lqq}{nu'12 mx'13 tt'14:Int}(h0:0≤nx∧nx≤1000000000)(h1:(-1000000≤1∧(1:Int)≤1000000) ∧ -1000000≤ns∧ns≤1000000)(h2:nP (1:Int) ns l nx st=(r0,m1,t2))(hl3:aJ Tp 1 xE (gU nd l r0 0 0 [] m1 t2) (.exit 0) (gU nd l r0 i'3 sk'4.length (sk'4.flatten.map aA) mx'5 tt'6))(h4:inR (nd+1))(h5:0≤mx'5∧mx'5≤1000000000)(h6:bO (nd+1) l mx'5 tt'6=(r7,m8,t9))(hl7:aJ Tp 1 nQ (dR l sk'4 r7 0 0 [] (0:Int) m8 t9) (.exit 2) (dR l sk'4 r7 j'10 dc'11.length (dc'11.flatten.map aA) nu'12 mx'13 tt'14)):FMM Tp 16 [(.ptr 0 0),(pI ns),(pI nd)] [some (.box 129 [(.p (.sl l.length (l.map aO))),(pI nx),(.p (.v (.int .u32 st)))])] (.p (.agg (cF 30 sk'4 dc'11))) [some (.box 129 [(.p (.sl l.length (l.map aO))),(pI mx'13),(.p (.v (.int .u32 tt'14)))])]:=by
 exact FMM.fin (k:=1) (g:=⟨[],[],[3,4],[]⟩) rfl Tryz.func16 rfl (o:=[.c (pI r0) [(0,(.box 129 [(.p (.sl l.length (l.map aO))),(pI m1),(.p (.v (.int .u32 t2)))]))],.k 1 ⟨(rng [(1,1),(3,3),(8,2),(12,3),(17,20)]),[1,2,3],[],[(102001,31)]⟩ (.exit 0) (gU nd l r0 i'3 sk'4.length (sk'4.flatten.map aA) mx'5 tt'6),.c (pI r7) [(0,(.box 129 [(.p (.sl l.length (l.map aO))),(pI m8),(.p (.v (.int .u32 t9)))]))],.k 1 ⟨(rng [(1,5),(8,2),(11,29),(42,78)]),[1,2,3,4],[],[(102002,44)]⟩ (.exit 2) (dR l sk'4 r7 j'10 dc'11.length (dc'11.flatten.map aA) nu'12 mx'13 tt'14)]) (l:=[_,FC Tp 80 [(.ptr 0 0),(pI (nd+1))] [(0,(.box 129 [(.p (.sl l.length (l.map aO))),(pI mx'5),(.p (.v (.int .u32 tt'6)))]))] 4 (pI r7) [(0,(.box 129 [(.p (.sl l.length (l.map aO))),(pI m8),(.p (.v (.int .u32 t9)))]))],_,_,FC Tp 79 [(.ptr 0 0),(pI 1),(pI ns)] [(0,(.box 129 [(.p (.sl l.length (l.map aO))),(pI nx),(.p (.v (.int .u32 st)))]))] 3 (pI r0) [(0,(.box 129 [(.p (.sl l.length (l.map aO))),(pI m1),(.p (.v (.int .u32 t2)))]))]]) (by kernel_rfl) (gc hl7.code (gc (FMM.fc (ids:=[0]) (dW (nd+1) l mx'5 tt'6 h5 h6) (by kernel_rfl)) (gc h4 (gc hl3.code (gc (FMM.fc (ids:=[0]) (tU (1:Int) ns l nx st h0 h1 h2) (by kernel_rfl)) gn)))))
theorem bAe{nd:Int}{l:List Int}{r0:Int}{i:Nat}{sk:Lqq}{mx tt r100 m101 t102:Int}{r103:Bool}{m104 t105:Int}{i':Nat}{sk':Lqq}(h0:(i:Int)<r0)(h1:inR ((3:Int)*(i:Int)))(h2:inR (((3:Int)*(i:Int))+1))(h3:0≤mx∧mx≤1000000000)(h4:bO (20:Int) l mx tt=(r100,m101,t102))(h5:inR ((50:Int)*r100))(h6:inR ((15000:Int)+((50:Int)*r100)))(h7:0≤m101∧m101≤1000000000)(h8:iF (12:Int) l m101 t102=(r103,m104,t105))(h9:r103=true)(h10:[(aA (((3:Int)*(i:Int))+1)),(aA (-1:Int))].length=1*2∧sk.length+1≤1000000)(h11:inR (((i+1):Nat):Int))(ei':i'=(i+1))(esk'n:sk'.length=(sk.length+1))(esk'c:sk'.flatten.map aA=((sk.flatten.map aA)++[(aA (((3:Int)*(i:Int))+1)),(aA (-1:Int))])):aC Tp 1 xE (gU nd l r0 i sk.length (sk.flatten.map aA) mx tt) .normal (gU nd l r0 i' sk'.length (sk'.flatten.map aA) m104 t105):=by
 subst ei';have raw:aC Tp 1 xE (gU nd l r0 i sk.length (sk.flatten.map aA) mx tt) .normal (gU nd l r0 (i+1) (sk.length+1) ((sk.flatten.map aA)++[(aA (((3:Int)*(i:Int))+1)),(aA (-1:Int))]) m104 t105):=aC.fin (g:=⟨(rng [(1,1),(3,3),(8,2),(12,3),(17,20)]),[1,2,6],[],[]⟩) (o:=[bT,.c (pI r100) [(0,(.box 129 [(.p (.sl l.length (l.map aO))),(pI m101),(.p (.v (.int .u32 t102)))]))],.c (pB r103) [(0,(.box 129 [(.p (.sl l.length (l.map aO))),(pI m104),(.p (.v (.int .u32 t105)))]))],bT]) (l:=[_,_,[(aA (((3:Int)*(i:Int))+1)),(aA (-1:Int))].length=2,_,FC Tp 81 [(.ptr 0 0),(pI 12)] [(0,(.box 129 [(.p (.sl l.length (l.map aO))),(pI m101),(.p (.v (.int .u32 t102)))]))] 5 (pB r103) [(0,(.box 129 [(.p (.sl l.length (l.map aO))),(pI m104),(.p (.v (.int .u32 t105)))]))],_,_,FC Tp 80 [(.ptr 0 0),(pI 20)] [(0,(.box 129 [(.p (.sl l.length (l.map aO))),(pI mx),(.p (.v (.int .u32 tt)))]))] 4 (pI r100) [(0,(.box 129 [(.p (.sl l.length (l.map aO))),(pI m101),(.p (.v (.int .u32 t102)))]))],_,_,_]) (by kernel_rfl) (gc h11 (gc h10 (gc (by first | decide | simp) (gc h9 (gc (FMM.fc (ids:=[0]) (sA (12:Int) l m101 t102 h7 h8) (by kernel_rfl)) (gc h6 (gc h5 (gc (FMM.fc (ids:=[0]) (dW (20:Int) l mx tt h3 h4) (by kernel_rfl)) (gc h2 (gc h1 (gc (aZ h0) gn)))))))))))
 exact raw.cast (by rw [esk'n,esk'c])
theorem bAf{nd:Int}{l:List Int}{r0:Int}{i:Nat}{sk:Lqq}{mx tt r100 m101 t102:Int}{r103:Bool}{m104 t105:Int}{i':Nat}{sk':Lqq}(h0:(i:Int)<r0)(h1:inR ((3:Int)*(i:Int)))(h2:inR (((3:Int)*(i:Int))+1))(h3:0≤mx∧mx≤1000000000)(h4:bO (20:Int) l mx tt=(r100,m101,t102))(h5:inR ((50:Int)*r100))(h6:inR ((15000:Int)+((50:Int)*r100)))(h7:0≤m101∧m101≤1000000000)(h8:iF (12:Int) l m101 t102=(r103,m104,t105))(h9:r103=false)(h10:[(aA (((3:Int)*(i:Int))+1)),(aA ((15000:Int)+((50:Int)*r100)))].length=1*2∧sk.length+1≤1000000)(h11:inR (((i+1):Nat):Int))(ei':i'=(i+1))(esk'n:sk'.length=(sk.length+1))(esk'c:sk'.flatten.map aA=((sk.flatten.map aA)++[(aA (((3:Int)*(i:Int))+1)),(aA ((15000:Int)+((50:Int)*r100)))])):aC Tp 1 xE (gU nd l r0 i sk.length (sk.flatten.map aA) mx tt) .normal (gU nd l r0 i' sk'.length (sk'.flatten.map aA) m104 t105):=by
 subst ei';have raw:aC Tp 1 xE (gU nd l r0 i sk.length (sk.flatten.map aA) mx tt) .normal (gU nd l r0 (i+1) (sk.length+1) ((sk.flatten.map aA)++[(aA (((3:Int)*(i:Int))+1)),(aA ((15000:Int)+((50:Int)*r100)))]) m104 t105):=aC.fin (g:=⟨(rng [(1,1),(3,3),(8,2),(12,3),(17,20)]),[1,2,6],[],[]⟩) (o:=[bT,.c (pI r100) [(0,(.box 129 [(.p (.sl l.length (l.map aO))),(pI m101),(.p (.v (.int .u32 t102)))]))],.c (pB r103) [(0,(.box 129 [(.p (.sl l.length (l.map aO))),(pI m104),(.p (.v (.int .u32 t105)))]))],bF]) (l:=[_,_,[(aA (((3:Int)*(i:Int))+1)),(aA ((15000:Int)+((50:Int)*r100)))].length=2,_,FC Tp 81 [(.ptr 0 0),(pI 12)] [(0,(.box 129 [(.p (.sl l.length (l.map aO))),(pI m101),(.p (.v (.int .u32 t102)))]))] 5 (pB r103) [(0,(.box 129 [(.p (.sl l.length (l.map aO))),(pI m104),(.p (.v (.int .u32 t105)))]))],_,_,FC Tp 80 [(.ptr 0 0),(pI 20)] [(0,(.box 129 [(.p (.sl l.length (l.map aO))),(pI mx),(.p (.v (.int .u32 tt)))]))] 4 (pI r100) [(0,(.box 129 [(.p (.sl l.length (l.map aO))),(pI m101),(.p (.v (.int .u32 t102)))]))],_,_,_]) (by kernel_rfl) (gc h11 (gc h10 (gc (by first | decide | simp) (gc h9 (gc (FMM.fc (ids:=[0]) (sA (12:Int) l m101 t102 h7 h8) (by kernel_rfl)) (gc h6 (gc h5 (gc (FMM.fc (ids:=[0]) (dW (20:Int) l mx tt h3 h4) (by kernel_rfl)) (gc h2 (gc h1 (gc (aZ h0) gn)))))))))))
 exact raw.cast (by rw [esk'n,esk'c])
theorem bAg{nd:Int}{l:List Int}{r0:Int}{i:Nat}{sk:Lqq}{mx tt:Int}(h0:r0≤(i:Int)):aC Tp 1 xE (gU nd l r0 i sk.length (sk.flatten.map aA) mx tt) (.exit 0) (gU nd l r0 i sk.length (sk.flatten.map aA) mx tt):=by
 exact aC.fin (g:=⟨(rng [(1,1),(3,3),(8,2),(12,3),(17,20)]),[1,2,3],[],[]⟩) (o:=[bF]) (l:=[_]) (by kernel_rfl) (gc (bJ h0) gn)
def dL(l:List Int)(sk'4:Lqq)(r7:Int)(j:Nat)(dc:Lqq)(na:Int)(ma:Int)(ta:Int)(c0:Int)(c1:Int)(c2:Int)(c3:Int)(c4:Int)(c5:Int):St:=⟨fr 121 [(0,(.ptr 0 0)),(6,(.ptr 1 0)),(7,(.ptr 2 0)),(10,(pI na)),(11,(.ptr 5 0)),(40,(pI r7)),(41,(pI (j:Int))),(42,(pB (decide ((j:Int)<r7))))],[some (.box 129 [(.p (.sl l.length (l.map aO))),(pI ma),(.p (.v (.int .u32 ta)))]),some (.box 26 [(pI 0),(.p cC),(.p cC)]),some (.box 26 [(pI 30),(.own 3),(.own 4)]),some (.row 31 sk'4.length (sk'4.flatten.map aA)),some (.row 44 dc.length (dc.flatten.map aA)),some (.box 44 [(pI c0),(pI c1),(pI c2),(pI c3),(pI c4),(pI c5)])]⟩
def cU(l:List Int)(sk'4:Lqq)(r7:Int)(j:Nat)(dc:Lqq)(nb:Int)(mb:Int)(tb:Int)(d0:Int)(d1:Int)(d2:Int)(d3:Int)(d4:Int)(d5:Int):St:=⟨fr 121 [(0,(.ptr 0 0)),(6,(.ptr 1 0)),(7,(.ptr 2 0)),(10,(pI nb)),(11,(.ptr 5 0)),(40,(pI r7)),(41,(pI (j:Int))),(42,(pB (decide ((j:Int)<r7))))],[some (.box 129 [(.p (.sl l.length (l.map aO))),(pI mb),(.p (.v (.int .u32 tb)))]),some (.box 26 [(pI 0),(.p cC),(.p cC)]),some (.box 26 [(pI 30),(.own 3),(.own 4)]),some (.row 31 sk'4.length (sk'4.flatten.map aA)),some (.row 44 dc.length (dc.flatten.map aA)),some (.box 44 [(pI d0),(pI d1),(pI d2),(pI d3),(pI d4),(pI d5)])]⟩
theorem bAh{l:List Int}{sk'4:Lqq}{r7:Int}{j:Nat}{dc:Lqq}{nu mx tt r200 m201 t202 r203 m204 t205 r206 m207 t208:Int}{r209:Bool}{m210 t211 na'212 ma'213 ta'214 c0'215 c1'216 c2'217 c3'218 c4'219 c5'220 nb'221 mb'222 tb'223 d0'224 d1'225 d2'226 d3'227 d4'228 d5'229:Int}{j':Nat}{dc':Lqq}(h0:(j:Int)<r7)(h1:0≤mx∧mx≤1000000000)(h2:(-1000000≤1∧(1:Int)≤1000000) ∧ -1000000≤2∧(2:Int)≤1000000)(h3:nP (1:Int) (2:Int) l mx tt=(r200,m201,t202))(h4:inR (nu+r200))(h5:0≤m201∧m201≤1000000000)(h6:bO (10:Int) l m201 t202=(r203,m204,t205))(h7:0≤m204∧m204≤1000000000)(h8:bO (36:Int) l m204 t205=(r206,m207,t208))(h9:(1:Int)<(nu+r200))(h10:r203<5)(h11:0≤m207∧m207≤1000000000)(h12:iF (3:Int) l m207 t208=(r209,m210,t211))(h13:r209=true)(hl14:aC Tp 1 nR (dL l sk'4 r7 j dc (nu+r200) m210 t211 (nu+r200) (7:Int) r206 (0:Int) (0:Int) (0:Int)) .normal (dL l sk'4 r7 j dc na'212 ma'213 ta'214 c0'215 c1'216 c2'217 c3'218 c4'219 c5'220))(hl15:aC Tp 1 kQ (cU l sk'4 r7 j dc na'212 ma'213 ta'214 c0'215 c1'216 c2'217 c3'218 c4'219 c5'220) .normal (cU l sk'4 r7 j dc nb'221 mb'222 tb'223 d0'224 d1'225 d2'226 d3'227 d4'228 d5'229))(h16:[(aA d0'224),(aA d1'225),(aA d2'226),(aA d3'227),(aA d4'228),(aA d5'229)].length=1*6∧dc.length+1≤1000000)(h17:inR (((j+1):Nat):Int))(ej':j'=(j+1))(edc'n:dc'.length=(dc.length+1))(edc'c:dc'.flatten.map aA=((dc.flatten.map aA)++[(aA d0'224),(aA d1'225),(aA d2'226),(aA d3'227),(aA d4'228),(aA d5'229)])):aC Tp 1 nQ (dR l sk'4 r7 j dc.length (dc.flatten.map aA) nu mx tt) .normal (dR l sk'4 r7 j' dc'.length (dc'.flatten.map aA) nb'221 mb'222 tb'223):=by
 subst ej'
 have raw:aC Tp 1 nQ (dR l sk'4 r7 j dc.length (dc.flatten.map aA) nu mx tt) .normal (dR l sk'4 r7 (j+1) (dc.length+1) ((dc.flatten.map aA)++[(aA d0'224),(aA d1'225),(aA d2'226),(aA d3'227),(aA d4'228),(aA d5'229)]) nb'221 mb'222 tb'223):=aC.fin (g:=⟨(rng [(1,5),(8,2),(11,29),(42,78)]),[1,2,3,7],[],[]⟩) (o:=[bT,.c (pI r200) [(0,(.box 129 [(.p (.sl l.length (l.map aO))),(pI m201),(.p (.v (.int .u32 t202)))]))],.c (pI r203) [(0,(.box 129 [(.p (.sl l.length (l.map aO))),(pI m204),(.p (.v (.int .u32 t205)))]))],.c (pI r206) [(0,(.box 129 [(.p (.sl l.length (l.map aO))),(pI m207),(.p (.v (.int .u32 t208)))]))],bT,bT,bT,bT,bT,bT,.c (pB r209) [(0,(.box 129 [(.p (.sl l.length (l.map aO))),(pI m210),(.p (.v (.int .u32 t211)))]))],bT,bT,.k 2 ⟨(rng [(1,5),(8,2),(12,28),(43,77)]),[1,2,3,4,5],[],[]⟩ .normal (dL l sk'4 r7 j dc na'212 ma'213 ta'214 c0'215 c1'216 c2'217 c3'218 c4'219 c5'220),.k 1 ⟨(rng [(1,5),(8,2),(12,28),(43,77)]),[1,2,3,4,5],[],[]⟩ .normal (cU l sk'4 r7 j dc nb'221 mb'222 tb'223 d0'224 d1'225 d2'226 d3'227 d4'228 d5'229)]) (l:=[_,_,[(aA d0'224),(aA d1'225),(aA d2'226),(aA d3'227),(aA d4'228),(aA d5'229)].length=6,aC Tp 1 kQ (cU l sk'4 r7 j dc na'212 ma'213 ta'214 c0'215 c1'216 c2'217 c3'218 c4'219 c5'220) .normal (cU l sk'4 r7 j dc nb'221 mb'222 tb'223 d0'224 d1'225 d2'226 d3'227 d4'228 d5'229),aC Tp 1 nR (dL l sk'4 r7 j dc (nu+r200) m210 t211 (nu+r200) (7:Int) r206 (0:Int) (0:Int) (0:Int)) .normal (dL l sk'4 r7 j dc na'212 ma'213 ta'214 c0'215 c1'216 c2'217 c3'218 c4'219 c5'220),_,_,FC Tp 81 [(.ptr 0 0),(pI 3)] [(0,(.box 129 [(.p (.sl l.length (l.map aO))),(pI m207),(.p (.v (.int .u32 t208)))]))] 6 (pB r209) [(0,(.box 129 [(.p (.sl l.length (l.map aO))),(pI m210),(.p (.v (.int .u32 t211)))]))],_,_,_,_,_,_,FC Tp 80 [(.ptr 0 0),(pI 36)] [(0,(.box 129 [(.p (.sl l.length (l.map aO))),(pI m204),(.p (.v (.int .u32 t205)))]))] 5 (pI r206) [(0,(.box 129 [(.p (.sl l.length (l.map aO))),(pI m207),(.p (.v (.int .u32 t208)))]))],FC Tp 80 [(.ptr 0 0),(pI 10)] [(0,(.box 129 [(.p (.sl l.length (l.map aO))),(pI m201),(.p (.v (.int .u32 t202)))]))] 5 (pI r203) [(0,(.box 129 [(.p (.sl l.length (l.map aO))),(pI m204),(.p (.v (.int .u32 t205)))]))],_,FC Tp 79 [(.ptr 0 0),(pI 1),(pI 2)] [(0,(.box 129 [(.p (.sl l.length (l.map aO))),(pI mx),(.p (.v (.int .u32 tt)))]))] 5 (pI r200) [(0,(.box 129 [(.p (.sl l.length (l.map aO))),(pI m201),(.p (.v (.int .u32 t202)))]))],_]) (by kernel_rfl) (gc h17 (gc h16 (gc (by first | decide | simp) (gc hl15 (gc hl14 (gc h13 (gc (aZ h10) (gc (FMM.fc (ids:=[0]) (sA (3:Int) l m207 t208 h11 h12) (by kernel_rfl)) (g2c (aZ h10) (g4c (aZ h9) (gc (FMM.fc (ids:=[0]) (dW (36:Int) l m204 t205 h7 h8) (by kernel_rfl)) (gc (FMM.fc (ids:=[0]) (dW (10:Int) l m201 t202 h5 h6) (by kernel_rfl)) (gc h4 (gc (FMM.fc (ids:=[0]) (tU (1:Int) (2:Int) l mx tt h1 h2 h3) (by kernel_rfl)) (gc (aZ h0) gn)))))))))))))))
 exact raw.cast (by rw [edc'n,edc'c])
theorem bAi{l:List Int}{sk'4:Lqq}{r7:Int}{j:Nat}{dc:Lqq}{nu mx tt r200 m201 t202 r203 m204 t205 r206 m207 t208:Int}{r209:Bool}{m210 t211 na'212 ma'213 ta'214 c0'215 c1'216 c2'217 c3'218 c4'219 c5'220 nb'221 mb'222 tb'223 d0'224 d1'225 d2'226 d3'227 d4'228 d5'229:Int}{j':Nat}{dc':Lqq}(h0:(j:Int)<r7)(h1:0≤mx∧mx≤1000000000)(h2:(-1000000≤1∧(1:Int)≤1000000) ∧ -1000000≤2∧(2:Int)≤1000000)(h3:nP (1:Int) (2:Int) l mx tt=(r200,m201,t202))(h4:inR (nu+r200))(h5:0≤m201∧m201≤1000000000)(h6:bO (10:Int) l m201 t202=(r203,m204,t205))(h7:0≤m204∧m204≤1000000000)(h8:bO (36:Int) l m204 t205=(r206,m207,t208))(h9:(1:Int)<(nu+r200))(h10:r203<5)(h11:0≤m207∧m207≤1000000000)(h12:iF (3:Int) l m207 t208=(r209,m210,t211))(h13:r209=false)(hl14:aC Tp 1 nR (dL l sk'4 r7 j dc (nu+r200) m210 t211 (nu+r200) r203 r206 (0:Int) (0:Int) (0:Int)) .normal (dL l sk'4 r7 j dc na'212 ma'213 ta'214 c0'215 c1'216 c2'217 c3'218 c4'219 c5'220))(hl15:aC Tp 1 kQ (cU l sk'4 r7 j dc na'212 ma'213 ta'214 c0'215 c1'216 c2'217 c3'218 c4'219 c5'220) .normal (cU l sk'4 r7 j dc nb'221 mb'222 tb'223 d0'224 d1'225 d2'226 d3'227 d4'228 d5'229))(h16:[(aA d0'224),(aA d1'225),(aA d2'226),(aA d3'227),(aA d4'228),(aA d5'229)].length=1*6∧dc.length+1≤1000000)(h17:inR (((j+1):Nat):Int))(ej':j'=(j+1))(edc'n:dc'.length=(dc.length+1))(edc'c:dc'.flatten.map aA=((dc.flatten.map aA)++[(aA d0'224),(aA d1'225),(aA d2'226),(aA d3'227),(aA d4'228),(aA d5'229)])):aC Tp 1 nQ (dR l sk'4 r7 j dc.length (dc.flatten.map aA) nu mx tt) .normal (dR l sk'4 r7 j' dc'.length (dc'.flatten.map aA) nb'221 mb'222 tb'223):=by
 subst ej'
 have raw:aC Tp 1 nQ (dR l sk'4 r7 j dc.length (dc.flatten.map aA) nu mx tt) .normal (dR l sk'4 r7 (j+1) (dc.length+1) ((dc.flatten.map aA)++[(aA d0'224),(aA d1'225),(aA d2'226),(aA d3'227),(aA d4'228),(aA d5'229)]) nb'221 mb'222 tb'223):=aC.fin (g:=⟨(rng [(1,5),(8,2),(11,29),(42,78)]),[1,2,3,7],[],[]⟩) (o:=[bT,.c (pI r200) [(0,(.box 129 [(.p (.sl l.length (l.map aO))),(pI m201),(.p (.v (.int .u32 t202)))]))],.c (pI r203) [(0,(.box 129 [(.p (.sl l.length (l.map aO))),(pI m204),(.p (.v (.int .u32 t205)))]))],.c (pI r206) [(0,(.box 129 [(.p (.sl l.length (l.map aO))),(pI m207),(.p (.v (.int .u32 t208)))]))],bT,bT,bT,bT,bT,bT,.c (pB r209) [(0,(.box 129 [(.p (.sl l.length (l.map aO))),(pI m210),(.p (.v (.int .u32 t211)))]))],bT,bF,.k 1 ⟨(rng [(1,5),(8,2),(12,28),(43,77)]),[1,2,3,4,5],[],[]⟩ .normal (dL l sk'4 r7 j dc na'212 ma'213 ta'214 c0'215 c1'216 c2'217 c3'218 c4'219 c5'220),.k 1 ⟨(rng [(1,5),(8,2),(12,28),(43,77)]),[1,2,3,4,5],[],[]⟩ .normal (cU l sk'4 r7 j dc nb'221 mb'222 tb'223 d0'224 d1'225 d2'226 d3'227 d4'228 d5'229)]) (l:=[_,_,[(aA d0'224),(aA d1'225),(aA d2'226),(aA d3'227),(aA d4'228),(aA d5'229)].length=6,aC Tp 1 kQ (cU l sk'4 r7 j dc na'212 ma'213 ta'214 c0'215 c1'216 c2'217 c3'218 c4'219 c5'220) .normal (cU l sk'4 r7 j dc nb'221 mb'222 tb'223 d0'224 d1'225 d2'226 d3'227 d4'228 d5'229),aC Tp 1 nR (dL l sk'4 r7 j dc (nu+r200) m210 t211 (nu+r200) r203 r206 (0:Int) (0:Int) (0:Int)) .normal (dL l sk'4 r7 j dc na'212 ma'213 ta'214 c0'215 c1'216 c2'217 c3'218 c4'219 c5'220),_,_,FC Tp 81 [(.ptr 0 0),(pI 3)] [(0,(.box 129 [(.p (.sl l.length (l.map aO))),(pI m207),(.p (.v (.int .u32 t208)))]))] 6 (pB r209) [(0,(.box 129 [(.p (.sl l.length (l.map aO))),(pI m210),(.p (.v (.int .u32 t211)))]))],_,_,_,_,_,_,FC Tp 80 [(.ptr 0 0),(pI 36)] [(0,(.box 129 [(.p (.sl l.length (l.map aO))),(pI m204),(.p (.v (.int .u32 t205)))]))] 5 (pI r206) [(0,(.box 129 [(.p (.sl l.length (l.map aO))),(pI m207),(.p (.v (.int .u32 t208)))]))],FC Tp 80 [(.ptr 0 0),(pI 10)] [(0,(.box 129 [(.p (.sl l.length (l.map aO))),(pI m201),(.p (.v (.int .u32 t202)))]))] 5 (pI r203) [(0,(.box 129 [(.p (.sl l.length (l.map aO))),(pI m204),(.p (.v (.int .u32 t205)))]))],_,FC Tp 79 [(.ptr 0 0),(pI 1),(pI 2)] [(0,(.box 129 [(.p (.sl l.length (l.map aO))),(pI mx),(.p (.v (.int .u32 tt)))]))] 5 (pI r200) [(0,(.box 129 [(.p (.sl l.length (l.map aO))),(pI m201),(.p (.v (.int .u32 t202)))]))],_]) (by kernel_rfl) (gc h17 (gc h16 (gc (by first | decide | simp) (gc hl15 (gc hl14 (gc h13 (gc (aZ h10) (gc (FMM.fc (ids:=[0]) (sA (3:Int) l m207 t208 h11 h12) (by kernel_rfl)) (g2c (aZ h10) (g4c (aZ h9) (gc (FMM.fc (ids:=[0]) (dW (36:Int) l m204 t205 h7 h8) (by kernel_rfl)) (gc (FMM.fc (ids:=[0]) (dW (10:Int) l m201 t202 h5 h6) (by kernel_rfl)) (gc h4 (gc (FMM.fc (ids:=[0]) (tU (1:Int) (2:Int) l mx tt h1 h2 h3) (by kernel_rfl)) (gc (aZ h0) gn)))))))))))))))
 exact raw.cast (by rw [edc'n,edc'c])
theorem bAj{l:List Int}{sk'4:Lqq}{r7:Int}{j:Nat}{dc:Lqq}{nu mx tt r200 m201 t202 r203 m204 t205 r206 m207 t208 na'209 ma'210 ta'211 c0'212 c1'213 c2'214 c3'215 c4'216 c5'217 nb'218 mb'219 tb'220 d0'221 d1'222 d2'223 d3'224 d4'225 d5'226:Int}{j':Nat}{dc':Lqq}(h0:(j:Int)<r7)(h1:0≤mx∧mx≤1000000000)(h2:(-1000000≤1∧(1:Int)≤1000000) ∧ -1000000≤2∧(2:Int)≤1000000)(h3:nP (1:Int) (2:Int) l mx tt=(r200,m201,t202))(h4:inR (nu+r200))(h5:0≤m201∧m201≤1000000000)(h6:bO (10:Int) l m201 t202=(r203,m204,t205))(h7:0≤m204∧m204≤1000000000)(h8:bO (36:Int) l m204 t205=(r206,m207,t208))(h9:(1:Int)<(nu+r200))(h10:(5:Int)≤r203)(hl11:aC Tp 1 nR (dL l sk'4 r7 j dc (nu+r200) m207 t208 (nu+r200) r203 r206 (0:Int) (0:Int) (0:Int)) .normal (dL l sk'4 r7 j dc na'209 ma'210 ta'211 c0'212 c1'213 c2'214 c3'215 c4'216 c5'217))(hl12:aC Tp 1 kQ (cU l sk'4 r7 j dc na'209 ma'210 ta'211 c0'212 c1'213 c2'214 c3'215 c4'216 c5'217) .normal (cU l sk'4 r7 j dc nb'218 mb'219 tb'220 d0'221 d1'222 d2'223 d3'224 d4'225 d5'226))(h13:[(aA d0'221),(aA d1'222),(aA d2'223),(aA d3'224),(aA d4'225),(aA d5'226)].length=1*6∧dc.length+1≤1000000)(h14:inR (((j+1):Nat):Int))(ej':j'=(j+1))(edc'n:dc'.length=(dc.length+1))(edc'c:dc'.flatten.map aA=((dc.flatten.map aA)++[(aA d0'221),(aA d1'222),(aA d2'223),(aA d3'224),(aA d4'225),(aA d5'226)])):aC Tp 1 nQ (dR l sk'4 r7 j dc.length (dc.flatten.map aA) nu mx tt) .normal (dR l sk'4 r7 j' dc'.length (dc'.flatten.map aA) nb'218 mb'219 tb'220):=by
 subst ej'
 have raw:aC Tp 1 nQ (dR l sk'4 r7 j dc.length (dc.flatten.map aA) nu mx tt) .normal (dR l sk'4 r7 (j+1) (dc.length+1) ((dc.flatten.map aA)++[(aA d0'221),(aA d1'222),(aA d2'223),(aA d3'224),(aA d4'225),(aA d5'226)]) nb'218 mb'219 tb'220):=aC.fin (g:=⟨(rng [(1,5),(8,2),(11,29),(42,78)]),[1,2,3,7],[],[]⟩) (o:=[bT,.c (pI r200) [(0,(.box 129 [(.p (.sl l.length (l.map aO))),(pI m201),(.p (.v (.int .u32 t202)))]))],.c (pI r203) [(0,(.box 129 [(.p (.sl l.length (l.map aO))),(pI m204),(.p (.v (.int .u32 t205)))]))],.c (pI r206) [(0,(.box 129 [(.p (.sl l.length (l.map aO))),(pI m207),(.p (.v (.int .u32 t208)))]))],bT,bT,bT,bT,bF,bF,bF,.k 2 ⟨(rng [(1,5),(8,2),(12,28),(43,77)]),[1,2,3,4,5],[],[]⟩ .normal (dL l sk'4 r7 j dc na'209 ma'210 ta'211 c0'212 c1'213 c2'214 c3'215 c4'216 c5'217),.k 1 ⟨(rng [(1,5),(8,2),(12,28),(43,77)]),[1,2,3,4,5],[],[]⟩ .normal (cU l sk'4 r7 j dc nb'218 mb'219 tb'220 d0'221 d1'222 d2'223 d3'224 d4'225 d5'226)]) (l:=[_,_,[(aA d0'221),(aA d1'222),(aA d2'223),(aA d3'224),(aA d4'225),(aA d5'226)].length=6,aC Tp 1 kQ (cU l sk'4 r7 j dc na'209 ma'210 ta'211 c0'212 c1'213 c2'214 c3'215 c4'216 c5'217) .normal (cU l sk'4 r7 j dc nb'218 mb'219 tb'220 d0'221 d1'222 d2'223 d3'224 d4'225 d5'226),aC Tp 1 nR (dL l sk'4 r7 j dc (nu+r200) m207 t208 (nu+r200) r203 r206 (0:Int) (0:Int) (0:Int)) .normal (dL l sk'4 r7 j dc na'209 ma'210 ta'211 c0'212 c1'213 c2'214 c3'215 c4'216 c5'217),_,_,_,_,_,_,_,FC Tp 80 [(.ptr 0 0),(pI 36)] [(0,(.box 129 [(.p (.sl l.length (l.map aO))),(pI m204),(.p (.v (.int .u32 t205)))]))] 5 (pI r206) [(0,(.box 129 [(.p (.sl l.length (l.map aO))),(pI m207),(.p (.v (.int .u32 t208)))]))],FC Tp 80 [(.ptr 0 0),(pI 10)] [(0,(.box 129 [(.p (.sl l.length (l.map aO))),(pI m201),(.p (.v (.int .u32 t202)))]))] 5 (pI r203) [(0,(.box 129 [(.p (.sl l.length (l.map aO))),(pI m204),(.p (.v (.int .u32 t205)))]))],_,FC Tp 79 [(.ptr 0 0),(pI 1),(pI 2)] [(0,(.box 129 [(.p (.sl l.length (l.map aO))),(pI mx),(.p (.v (.int .u32 tt)))]))] 5 (pI r200) [(0,(.box 129 [(.p (.sl l.length (l.map aO))),(pI m201),(.p (.v (.int .u32 t202)))]))],_]) (by kernel_rfl) (gc h14 (gc h13 (gc (by first | decide | simp) (gc hl12 (gc hl11 (g3c (bJ h10) (g4c (aZ h9) (gc (FMM.fc (ids:=[0]) (dW (36:Int) l m204 t205 h7 h8) (by kernel_rfl)) (gc (FMM.fc (ids:=[0]) (dW (10:Int) l m201 t202 h5 h6) (by kernel_rfl)) (gc h4 (gc (FMM.fc (ids:=[0]) (tU (1:Int) (2:Int) l mx tt h1 h2 h3) (by kernel_rfl)) (gc (aZ h0) gn))))))))))))
 exact raw.cast (by rw [edc'n,edc'c])
theorem bAk{l:List Int}{sk'4:Lqq}{r7:Int}{j:Nat}{dc:Lqq}{nu mx tt r200 m201 t202 r203 m204 t205 r206 m207 t208 na'209 ma'210 ta'211 c0'212 c1'213 c2'214 c3'215 c4'216 c5'217 nb'218 mb'219 tb'220 d0'221 d1'222 d2'223 d3'224 d4'225 d5'226:Int}{j':Nat}{dc':Lqq}(h0:(j:Int)<r7)(h1:0≤mx∧mx≤1000000000)(h2:(-1000000≤1∧(1:Int)≤1000000) ∧ -1000000≤2∧(2:Int)≤1000000)(h3:nP (1:Int) (2:Int) l mx tt=(r200,m201,t202))(h4:inR (nu+r200))(h5:0≤m201∧m201≤1000000000)(h6:bO (10:Int) l m201 t202=(r203,m204,t205))(h7:0≤m204∧m204≤1000000000)(h8:bO (36:Int) l m204 t205=(r206,m207,t208))(h9:(nu+r200)≤1)(hl10:aC Tp 1 nR (dL l sk'4 r7 j dc (nu+r200) m207 t208 (nu+r200) r203 r206 (0:Int) (0:Int) (0:Int)) .normal (dL l sk'4 r7 j dc na'209 ma'210 ta'211 c0'212 c1'213 c2'214 c3'215 c4'216 c5'217))(hl11:aC Tp 1 kQ (cU l sk'4 r7 j dc na'209 ma'210 ta'211 c0'212 c1'213 c2'214 c3'215 c4'216 c5'217) .normal (cU l sk'4 r7 j dc nb'218 mb'219 tb'220 d0'221 d1'222 d2'223 d3'224 d4'225 d5'226))(h12:[(aA d0'221),(aA d1'222),(aA d2'223),(aA d3'224),(aA d4'225),(aA d5'226)].length=1*6∧dc.length+1≤1000000)(h13:inR (((j+1):Nat):Int))(ej':j'=(j+1))(edc'n:dc'.length=(dc.length+1))(edc'c:dc'.flatten.map aA=((dc.flatten.map aA)++[(aA d0'221),(aA d1'222),(aA d2'223),(aA d3'224),(aA d4'225),(aA d5'226)])):aC Tp 1 nQ (dR l sk'4 r7 j dc.length (dc.flatten.map aA) nu mx tt) .normal (dR l sk'4 r7 j' dc'.length (dc'.flatten.map aA) nb'218 mb'219 tb'220):=by
 subst ej'
 have raw:aC Tp 1 nQ (dR l sk'4 r7 j dc.length (dc.flatten.map aA) nu mx tt) .normal (dR l sk'4 r7 (j+1) (dc.length+1) ((dc.flatten.map aA)++[(aA d0'221),(aA d1'222),(aA d2'223),(aA d3'224),(aA d4'225),(aA d5'226)]) nb'218 mb'219 tb'220):=aC.fin (g:=⟨(rng [(1,5),(8,2),(11,29),(42,78)]),[1,2,3,7],[],[]⟩) (o:=[bT,.c (pI r200) [(0,(.box 129 [(.p (.sl l.length (l.map aO))),(pI m201),(.p (.v (.int .u32 t202)))]))],.c (pI r203) [(0,(.box 129 [(.p (.sl l.length (l.map aO))),(pI m204),(.p (.v (.int .u32 t205)))]))],.c (pI r206) [(0,(.box 129 [(.p (.sl l.length (l.map aO))),(pI m207),(.p (.v (.int .u32 t208)))]))],bF,bF,bF,bF,.k 2 ⟨(rng [(1,5),(8,2),(12,28),(43,77)]),[1,2,3,4,5],[],[]⟩ .normal (dL l sk'4 r7 j dc na'209 ma'210 ta'211 c0'212 c1'213 c2'214 c3'215 c4'216 c5'217),.k 1 ⟨(rng [(1,5),(8,2),(12,28),(43,77)]),[1,2,3,4,5],[],[]⟩ .normal (cU l sk'4 r7 j dc nb'218 mb'219 tb'220 d0'221 d1'222 d2'223 d3'224 d4'225 d5'226)]) (l:=[_,_,[(aA d0'221),(aA d1'222),(aA d2'223),(aA d3'224),(aA d4'225),(aA d5'226)].length=6,aC Tp 1 kQ (cU l sk'4 r7 j dc na'209 ma'210 ta'211 c0'212 c1'213 c2'214 c3'215 c4'216 c5'217) .normal (cU l sk'4 r7 j dc nb'218 mb'219 tb'220 d0'221 d1'222 d2'223 d3'224 d4'225 d5'226),aC Tp 1 nR (dL l sk'4 r7 j dc (nu+r200) m207 t208 (nu+r200) r203 r206 (0:Int) (0:Int) (0:Int)) .normal (dL l sk'4 r7 j dc na'209 ma'210 ta'211 c0'212 c1'213 c2'214 c3'215 c4'216 c5'217),_,_,_,_,FC Tp 80 [(.ptr 0 0),(pI 36)] [(0,(.box 129 [(.p (.sl l.length (l.map aO))),(pI m204),(.p (.v (.int .u32 t205)))]))] 5 (pI r206) [(0,(.box 129 [(.p (.sl l.length (l.map aO))),(pI m207),(.p (.v (.int .u32 t208)))]))],FC Tp 80 [(.ptr 0 0),(pI 10)] [(0,(.box 129 [(.p (.sl l.length (l.map aO))),(pI m201),(.p (.v (.int .u32 t202)))]))] 5 (pI r203) [(0,(.box 129 [(.p (.sl l.length (l.map aO))),(pI m204),(.p (.v (.int .u32 t205)))]))],_,FC Tp 79 [(.ptr 0 0),(pI 1),(pI 2)] [(0,(.box 129 [(.p (.sl l.length (l.map aO))),(pI mx),(.p (.v (.int .u32 tt)))]))] 5 (pI r200) [(0,(.box 129 [(.p (.sl l.length (l.map aO))),(pI m201),(.p (.v (.int .u32 t202)))]))],_]) (by kernel_rfl) (gc h13 (gc h12 (gc (by first | decide | simp) (gc hl11 (gc hl10 (g4c (bJ h9) (gc (FMM.fc (ids:=[0]) (dW (36:Int) l m204 t205 h7 h8) (by kernel_rfl)) (gc (FMM.fc (ids:=[0]) (dW (10:Int) l m201 t202 h5 h6) (by kernel_rfl)) (gc h4 (gc (FMM.fc (ids:=[0]) (tU (1:Int) (2:Int) l mx tt h1 h2 h3) (by kernel_rfl)) (gc (aZ h0) gn)))))))))))
 exact raw.cast (by rw [edc'n,edc'c])
theorem bAl{l:List Int}{sk'4:Lqq}{r7:Int}{j:Nat}{dc:Lqq}{nu mx tt:Int}(h0:r7≤(j:Int)):aC Tp 1 nQ (dR l sk'4 r7 j dc.length (dc.flatten.map aA) nu mx tt) (.exit 2) (dR l sk'4 r7 j dc.length (dc.flatten.map aA) nu mx tt):=by
 exact aC.fin (g:=⟨(rng [(1,5),(8,2),(11,29),(42,78)]),[1,2,3,4],[],[]⟩) (o:=[bF]) (l:=[_]) (by kernel_rfl) (gc (bJ h0) gn)
theorem bAm{l:List Int}{sk'4:Lqq}{r7:Int}{j:Nat}{dc:Lqq}{na ma ta c0 c1 c2 c3 c4 c5 r300 m301 t302:Int}(h0:na=1)(h1:0≤ma∧ma≤1000000000)(h2:bO (5:Int) l ma ta=(r300,m301,t302)):aC Tp 1 nR (dL l sk'4 r7 j dc na ma ta c0 c1 c2 c3 c4 c5) .normal (dL l sk'4 r7 j dc na m301 t302 c0 r300 c2 c3 c4 c5):=by
 exact aC.fin (g:=⟨(rng [(1,5),(8,2),(12,28),(43,77)]),[1,2,3,4,5],[],[]⟩) (o:=[bT,.c (pI r300) [(0,(.box 129 [(.p (.sl l.length (l.map aO))),(pI m301),(.p (.v (.int .u32 t302)))]))]]) (l:=[FC Tp 80 [(.ptr 0 0),(pI 5)] [(0,(.box 129 [(.p (.sl l.length (l.map aO))),(pI ma),(.p (.v (.int .u32 ta)))]))] 6 (pI r300) [(0,(.box 129 [(.p (.sl l.length (l.map aO))),(pI m301),(.p (.v (.int .u32 t302)))]))],_]) (by kernel_rfl) (gc (FMM.fc (ids:=[0]) (dW (5:Int) l ma ta h1 h2) (by kernel_rfl)) (gc (eW h0) gn))
theorem bAn{l:List Int}{sk'4:Lqq}{r7:Int}{j:Nat}{dc:Lqq}{na ma ta c0 c1 c2 c3 c4 c5:Int}(h0:na≠1):aC Tp 1 nR (dL l sk'4 r7 j dc na ma ta c0 c1 c2 c3 c4 c5) .normal (dL l sk'4 r7 j dc na ma ta c0 c1 c2 c3 c4 c5):=by
 exact aC.fin (g:=⟨(rng [(1,5),(8,2),(12,28),(43,77)]),[1,2,3,4,5],[],[]⟩) (o:=[bF]) (l:=[_]) (by kernel_rfl) (gc (bP h0) gn)
theorem bAo{l:List Int}{sk'4:Lqq}{r7:Int}{j:Nat}{dc:Lqq}{nb mb tb d0 d1 d2 d3 d4 d5 r400 m401 t402 y403 y404 r405 m406 t407 r408 m409 t410:Int}(h0:d1≤4)(h1:0≤mb∧mb≤1000000000)(h2:bO (sk'4.length:Int) l mb tb=(r400,m401,t402))(h3:sk'4[r400.toNat]? = some [y403,y404])(h4:0≤r400)(h5:uni 2 sk'4)(h6:0≤m401∧m401≤1000000000)(h7:bO (8:Int) l m401 t402=(r405,m406,t407))(h8:inR ((50:Int)*r405))(h9:d1=2)(h10:0≤m406∧m406≤1000000000)(h11:bO (3:Int) l m406 t407=(r408,m409,t410))(h12:d1≠3):aC Tp 1 kQ (cU l sk'4 r7 j dc nb mb tb d0 d1 d2 d3 d4 d5) .normal (cU l sk'4 r7 j dc nb m409 t410 d0 d1 d2 y403 r408 d5):=by
 exact aC.fin (g:=⟨(rng [(1,5),(8,2),(12,28),(43,77)]),[1,2,3,4,5],[],[]⟩) (o:=[bT,.c (pI r400) [(0,(.box 129 [(.p (.sl l.length (l.map aO))),(pI m401),(.p (.v (.int .u32 t402)))]))],.x (aA y403),.c (pI r405) [(0,(.box 129 [(.p (.sl l.length (l.map aO))),(pI m406),(.p (.v (.int .u32 t407)))]))],bT,.c (pI r408) [(0,(.box 129 [(.p (.sl l.length (l.map aO))),(pI m409),(.p (.v (.int .u32 t410)))]))],bF]) (l:=[_,FC Tp 80 [(.ptr 0 0),(pI 3)] [(0,(.box 129 [(.p (.sl l.length (l.map aO))),(pI m406),(.p (.v (.int .u32 t407)))]))] 6 (pI r408) [(0,(.box 129 [(.p (.sl l.length (l.map aO))),(pI m409),(.p (.v (.int .u32 t410)))]))],_,_,FC Tp 80 [(.ptr 0 0),(pI 8)] [(0,(.box 129 [(.p (.sl l.length (l.map aO))),(pI m401),(.p (.v (.int .u32 t402)))]))] 6 (pI r405) [(0,(.box 129 [(.p (.sl l.length (l.map aO))),(pI m406),(.p (.v (.int .u32 t407)))]))],(sk'4.flatten.map aA)[(r400.toNat*2)]? = some (aA y403),_,FC Tp 80 [(.ptr 0 0),(pI (sk'4.length:Int))] [(0,(.box 129 [(.p (.sl l.length (l.map aO))),(pI mb),(.p (.v (.int .u32 tb)))]))] 7 (pI r400) [(0,(.box 129 [(.p (.sl l.length (l.map aO))),(pI m401),(.p (.v (.int .u32 t402)))]))],_]) (by kernel_rfl) (gc (bP h12) (gc (FMM.fc (ids:=[0]) (dW (3:Int) l m406 t407 h10 h11) (by kernel_rfl)) (gc (eW h9) (gc h8 (gc (FMM.fc (ids:=[0]) (dW (8:Int) l m401 t402 h6 h7) (by kernel_rfl)) (gc (jT (i:=r400.toNat) (f:=0) h5 h3 rfl) (gc (cJ (i:=r400) h4 h3) (gc (FMM.fc (ids:=[0]) (dW (sk'4.length:Int) l mb tb h1 h2) (by kernel_rfl)) (gc (aLk h0) gn)))))))))
theorem bAp{l:List Int}{sk'4:Lqq}{r7:Int}{j:Nat}{dc:Lqq}{nb mb tb d0 d1 d2 d3 d4 d5 r400 m401 t402 y403 y404 r405 m406 t407 d4':Int}(h0:d1≤4)(h1:0≤mb∧mb≤1000000000)(h2:bO (sk'4.length:Int) l mb tb=(r400,m401,t402))(h3:sk'4[r400.toNat]? = some [y403,y404])(h4:0≤r400)(h5:uni 2 sk'4)(h6:0≤m401∧m401≤1000000000)(h7:bO (8:Int) l m401 t402=(r405,m406,t407))(h8:inR ((50:Int)*r405))(h9:d1≠2)(h10:d1=3)(ed4':d4'=(0:Int)):aC Tp 1 kQ (cU l sk'4 r7 j dc nb mb tb d0 d1 d2 d3 d4 d5) .normal (cU l sk'4 r7 j dc nb m406 t407 d0 d1 d2 y403 d4' d5):=by
 subst ed4';exact aC.fin (g:=⟨(rng [(1,5),(8,2),(12,28),(43,77)]),[1,2,3,4,5],[],[]⟩) (o:=[bT,.c (pI r400) [(0,(.box 129 [(.p (.sl l.length (l.map aO))),(pI m401),(.p (.v (.int .u32 t402)))]))],.x (aA y403),.c (pI r405) [(0,(.box 129 [(.p (.sl l.length (l.map aO))),(pI m406),(.p (.v (.int .u32 t407)))]))],bF,bT]) (l:=[_,_,_,FC Tp 80 [(.ptr 0 0),(pI 8)] [(0,(.box 129 [(.p (.sl l.length (l.map aO))),(pI m401),(.p (.v (.int .u32 t402)))]))] 6 (pI r405) [(0,(.box 129 [(.p (.sl l.length (l.map aO))),(pI m406),(.p (.v (.int .u32 t407)))]))],(sk'4.flatten.map aA)[(r400.toNat*2)]? = some (aA y403),_,FC Tp 80 [(.ptr 0 0),(pI (sk'4.length:Int))] [(0,(.box 129 [(.p (.sl l.length (l.map aO))),(pI mb),(.p (.v (.int .u32 tb)))]))] 7 (pI r400) [(0,(.box 129 [(.p (.sl l.length (l.map aO))),(pI m401),(.p (.v (.int .u32 t402)))]))],_]) (by kernel_rfl) (gc (eW h10) (gc (bP h9) (gc h8 (gc (FMM.fc (ids:=[0]) (dW (8:Int) l m401 t402 h6 h7) (by kernel_rfl)) (gc (jT (i:=r400.toNat) (f:=0) h5 h3 rfl) (gc (cJ (i:=r400) h4 h3) (gc (FMM.fc (ids:=[0]) (dW (sk'4.length:Int) l mb tb h1 h2) (by kernel_rfl)) (gc (aLk h0) gn))))))))
theorem bAq{l:List Int}{sk'4:Lqq}{r7:Int}{j:Nat}{dc:Lqq}{nb mb tb d0 d1 d2 d3 d4 d5 r400 m401 t402 y403 y404 r405 m406 t407 d4':Int}(h0:d1≤4)(h1:0≤mb∧mb≤1000000000)(h2:bO (sk'4.length:Int) l mb tb=(r400,m401,t402))(h3:sk'4[r400.toNat]? = some [y403,y404])(h4:0≤r400)(h5:uni 2 sk'4)(h6:0≤m401∧m401≤1000000000)(h7:bO (8:Int) l m401 t402=(r405,m406,t407))(h8:inR ((50:Int)*r405))(h9:d1≠2)(h10:d1≠3)(ed4':d4'=((50:Int)*r405)):aC Tp 1 kQ (cU l sk'4 r7 j dc nb mb tb d0 d1 d2 d3 d4 d5) .normal (cU l sk'4 r7 j dc nb m406 t407 d0 d1 d2 y403 d4' d5):=by
 subst ed4';exact aC.fin (g:=⟨(rng [(1,5),(8,2),(12,28),(43,77)]),[1,2,3,4,5],[],[]⟩) (o:=[bT,.c (pI r400) [(0,(.box 129 [(.p (.sl l.length (l.map aO))),(pI m401),(.p (.v (.int .u32 t402)))]))],.x (aA y403),.c (pI r405) [(0,(.box 129 [(.p (.sl l.length (l.map aO))),(pI m406),(.p (.v (.int .u32 t407)))]))],bF,bF]) (l:=[_,_,_,FC Tp 80 [(.ptr 0 0),(pI 8)] [(0,(.box 129 [(.p (.sl l.length (l.map aO))),(pI m401),(.p (.v (.int .u32 t402)))]))] 6 (pI r405) [(0,(.box 129 [(.p (.sl l.length (l.map aO))),(pI m406),(.p (.v (.int .u32 t407)))]))],(sk'4.flatten.map aA)[(r400.toNat*2)]? = some (aA y403),_,FC Tp 80 [(.ptr 0 0),(pI (sk'4.length:Int))] [(0,(.box 129 [(.p (.sl l.length (l.map aO))),(pI mb),(.p (.v (.int .u32 tb)))]))] 7 (pI r400) [(0,(.box 129 [(.p (.sl l.length (l.map aO))),(pI m401),(.p (.v (.int .u32 t402)))]))],_]) (by kernel_rfl) (gc (bP h10) (gc (bP h9) (gc h8 (gc (FMM.fc (ids:=[0]) (dW (8:Int) l m401 t402 h6 h7) (by kernel_rfl)) (gc (jT (i:=r400.toNat) (f:=0) h5 h3 rfl) (gc (cJ (i:=r400) h4 h3) (gc (FMM.fc (ids:=[0]) (dW (sk'4.length:Int) l mb tb h1 h2) (by kernel_rfl)) (gc (aLk h0) gn))))))))
theorem bAr{l:List Int}{sk'4:Lqq}{r7:Int}{j:Nat}{dc:Lqq}{nb mb tb d0 d1 d2 d3 d4 d5 r400 m401 t402 r403 m404 t405 d4':Int}(h0:(4:Int)<d1)(h1:inR (nb-6))(h2:inR (nb-1))(h3:0≤mb∧mb≤1000000000)(h4:(-1000000≤(if (nb-6) > (1:Int) then (nb-6) else (1:Int))∧(if (nb-6) > (1:Int) then (nb-6) else (1:Int))≤1000000) ∧ -1000000≤(nb-1)∧(nb-1)≤1000000)(h5:nP (if (nb-6) > (1:Int) then (nb-6) else (1:Int)) (nb-1) l mb tb=(r400,m401,t402))(h6:d1=6)(h7:0≤m401∧m401≤1000000000)(h8:bO (8:Int) l m401 t402=(r403,m404,t405))(h9:inR ((50:Int)*r403))(ed4':d4'=((50:Int)*r403)):aC Tp 1 kQ (cU l sk'4 r7 j dc nb mb tb d0 d1 d2 d3 d4 d5) .normal (cU l sk'4 r7 j dc nb m404 t405 d0 d1 d2 d3 d4' r400):=by
 subst ed4';exact aC.fin (g:=⟨(rng [(1,5),(8,2),(12,28),(43,77)]),[1,2,3,4,5],[],[]⟩) (o:=[bF,.c (pI r400) [(0,(.box 129 [(.p (.sl l.length (l.map aO))),(pI m401),(.p (.v (.int .u32 t402)))]))],bT,.c (pI r403) [(0,(.box 129 [(.p (.sl l.length (l.map aO))),(pI m404),(.p (.v (.int .u32 t405)))]))]]) (l:=[_,FC Tp 80 [(.ptr 0 0),(pI 8)] [(0,(.box 129 [(.p (.sl l.length (l.map aO))),(pI m401),(.p (.v (.int .u32 t402)))]))] 6 (pI r403) [(0,(.box 129 [(.p (.sl l.length (l.map aO))),(pI m404),(.p (.v (.int .u32 t405)))]))],_,FC Tp 79 [(.ptr 0 0),(pI (if (nb-6) > (1:Int) then (nb-6) else (1:Int))),(pI (nb-1))] [(0,(.box 129 [(.p (.sl l.length (l.map aO))),(pI mb),(.p (.v (.int .u32 tb)))]))] 6 (pI r400) [(0,(.box 129 [(.p (.sl l.length (l.map aO))),(pI m401),(.p (.v (.int .u32 t402)))]))],_,_,_]) (by kernel_rfl) (gc h9 (gc (FMM.fc (ids:=[0]) (dW (8:Int) l m401 t402 h7 h8) (by kernel_rfl)) (gc (eW h6) (gc (FMM.fc (ids:=[0]) (tU (if (nb-6) > (1:Int) then (nb-6) else (1:Int)) (nb-1) l mb tb h3 h4 h5) (by kernel_rfl)) (gc h2 (gc h1 (gc (qU h0) gn)))))))
theorem bAs{l:List Int}{sk'4:Lqq}{r7:Int}{j:Nat}{dc:Lqq}{nb mb tb d0 d1 d2 d3 d4 d5 r400 m401 t402:Int}(h0:(4:Int)<d1)(h1:inR (nb-6))(h2:inR (nb-1))(h3:0≤mb∧mb≤1000000000)(h4:(-1000000≤(if (nb-6) > (1:Int) then (nb-6) else (1:Int))∧(if (nb-6) > (1:Int) then (nb-6) else (1:Int))≤1000000) ∧ -1000000≤(nb-1)∧(nb-1)≤1000000)(h5:nP (if (nb-6) > (1:Int) then (nb-6) else (1:Int)) (nb-1) l mb tb=(r400,m401,t402))(h6:d1≠6):aC Tp 1 kQ (cU l sk'4 r7 j dc nb mb tb d0 d1 d2 d3 d4 d5) .normal (cU l sk'4 r7 j dc nb m401 t402 d0 d1 d2 d3 d4 r400):=by
 exact aC.fin (g:=⟨(rng [(1,5),(8,2),(12,28),(43,77)]),[1,2,3,4,5],[],[]⟩) (o:=[bF,.c (pI r400) [(0,(.box 129 [(.p (.sl l.length (l.map aO))),(pI m401),(.p (.v (.int .u32 t402)))]))],bF]) (l:=[_,FC Tp 79 [(.ptr 0 0),(pI (if (nb-6) > (1:Int) then (nb-6) else (1:Int))),(pI (nb-1))] [(0,(.box 129 [(.p (.sl l.length (l.map aO))),(pI mb),(.p (.v (.int .u32 tb)))]))] 6 (pI r400) [(0,(.box 129 [(.p (.sl l.length (l.map aO))),(pI m401),(.p (.v (.int .u32 t402)))]))],_,_,_]) (by kernel_rfl) (gc (bP h6) (gc (FMM.fc (ids:=[0]) (tU (if (nb-6) > (1:Int) then (nb-6) else (1:Int)) (nb-1) l mb tb h3 h4 h5) (by kernel_rfl)) (gc h2 (gc h1 (gc (qU h0) gn)))))
end
section
theorem bNq{sk:Lqq}{i:Nat}{a b:Int}(h:sk[i]? = some [a,b]):a∈aL sk 0:=by
 unfold aL;exact dF.2 ⟨_,kQ5 h,rfl⟩
theorem aCo{sk:Lqq}{a k mi b mu ab:Int}(ha:1≤a∧a≤9999)(hk:0≤k∧k≤9)(hmi:0≤mi∧mi≤10000)(hmu:0≤mu∧mu≤36000)(hz:mu=0∨(k≠3∧k≠5∧k≤6))(hp:k≤4→b∈aL sk 0∧ab=0)(hq:4<k→b=0∧1≤ab∧ab≤a-1) :
  dcB [a,k,mi,b,mu,ab]=true∧inB sk [a,k,mi,b,mu,ab]=true∧orB [a,k,mi,b,mu,ab]=true:=by
 have hm:mu≤mB k:=by
  unfold mB
  repeat' split
  all_goals first | omega | (simp_all;omega)
 refine ⟨iV.2 ⟨ha,hk,hmi,hmu.1,hm⟩,?_,?_⟩
 ·show (if k≤4 then (aL sk 0).contains b else b == 0)=true
  by_cases h:k≤4
  ·rw [if_pos h];simpa using (hp h).1
  ·rw [if_neg h];simpa using (hq (by omega)).1
 ·show (if k≤4 then ab == 0 else within ab 1 (a-1))=true
  by_cases h:k≤4
  ·rw [if_pos h];simpa using (hp h).2
  ·rw [if_neg h];exact cN.2 (hq (by omega)).2
structure aRr (sk:Lqq) (dc:Lqq) (nu mx:Int) (j:Nat):Prop where
 ud:uni 6 dc
 len:dc.length=j
 num:0≤nu∧nu≤2*(j:Int)
 deck:0≤mx∧mx≤1000+20*(j:Int)
 mem:∀ x∈dc,(dcB x=true∧inB sk x=true∧orB x=true)∧x.getD 0 0≤nu
 up:dc.Pairwise fun a b=>a.getD 0 0<b.getD 0 0
theorem aRr.snoc{sk dc:Lqq}{nu mx:Int}{j:Nat}(h:aRr sk dc nu mx j){a k mi b mu ab mx':Int}(hr:dcB [a,k,mi,b,mu,ab]=true∧inB sk [a,k,mi,b,mu,ab]=true∧orB [a,k,mi,b,mu,ab]=true)(ha:nu<a∧a≤nu+2)(hm:mx≤mx'∧mx'≤mx+20):aRr sk (dc++[[a,k,mi,b,mu,ab]]) a mx' (j+1):=by
 obtain ⟨h1,h2,h3,h4,h5,h6⟩:=h;refine ⟨aMh h1 rfl,by simp [h2],by omega,by omega,fun x hx => ?_,?_⟩
 ·rcases iI.1 hx with hx | hx
  ·exact ⟨(h5 x hx).1,by have:=(h5 x hx).2;omega⟩
  ·rw [List.mem_singleton.1 hx]
   exact ⟨hr,aDr _⟩
 ·rw [List.pairwise_append]
  refine ⟨h6,List.pairwise_singleton _ _,fun x hx y hy => ?_⟩
  rw [List.mem_singleton.1 hy];have:=(h5 x hx).2;show x.getD 0 0<a;omega
theorem bVe{l:List Int}{sk'4 dc:Lqq}{r7 na ma ta c0 c1 c2 c3 c4 c5:Int}{j:Nat}(hm:0≤ma∧ma≤1000000000)(hc:0≤c1∧c1≤9) :
  ∃ m t k,(ma≤m∧m≤ma+1)∧(0≤k∧k≤9)∧(na=1→k≤4)∧aC Tp 1 (sub (cd Tryz.f16) [1,1,1,1,0,1,0,0,1,1,0,0,1,1,1,0]) (dL l sk'4 r7 j dc na ma ta c0 c1 c2 c3 c4 c5) .normal (dL l sk'4 r7 j dc na m t c0 k c2 c3 c4 c5):=by
 by_cases h:na=1
 ·obtain ⟨r,m,t,e⟩:∃ r m t,bO (5:Int) l ma ta=(r,m,t):=⟨_,_,_,rfl⟩
  have b:=gS (5:Int) l ma ta;rw [e] at b
  dsimp only at b
  exact ⟨m,t,r,by omega,by omega,fun _=>by omega,bAm h hm e⟩
 ·exact ⟨ma,ta,c1,by omega,hc,fun q=>absurd q h,bAn h⟩
theorem bVf{l:List Int}{sk'4 dc:Lqq}{r7 nb mb tb d1 d2:Int}{j:Nat}(hm:0≤mb∧mb≤100000000)(hn:1≤nb∧nb≤1000)(hk:0≤d1∧d1≤9)(hk1:nb=1→d1≤4)(h2:0≤d2∧d2≤10000)(hu2:uni 2 sk'4)(hs:1≤sk'4.length∧sk'4.length≤100) :
  ∃ m t b mu ab,(mb≤m∧m≤mb+3)∧(dcB [nb,d1,d2,b,mu,ab]=true∧inB sk'4 [nb,d1,d2,b,mu,ab]=true∧orB [nb,d1,d2,b,mu,ab]=true) ∧
   aC Tp 1 (sub (cd Tryz.f16) [1,1,1,1,0,1,0,0,1,1,0,0,1,1,1,1,0]) (cU l sk'4 r7 j dc nb mb tb nb d1 d2 0 0 0) .normal (cU l sk'4 r7 j dc nb m t nb d1 d2 b mu ab):=by
 by_cases h4:d1≤4
 ·obtain ⟨r,m1,t1,e1⟩:∃ r m t,bO (sk'4.length:Int) l mb tb=(r,m,t):=⟨_,_,_,rfl⟩
  have b1:=gS (sk'4.length:Int) l mb tb;rw [e1] at b1
  dsimp only at b1
  have hr:0≤r∧r.toNat<sk'4.length:=by omega
  obtain ⟨a,t',ha⟩:=len2 (hu2 _ (iQ hr.2));have hx:sk'4[r.toNat]? = some [a,t']:=by rw [kQ0 hr.2,ha]
  obtain ⟨r8,m2,t2,e2⟩:∃ r m t,bO (8:Int) l m1 t1=(r,m,t):=⟨_,_,_,rfl⟩;have b2:=gS (8:Int) l m1 t1;rw [e2] at b2
  dsimp only at b2
  have hp:d1≤4→a∈aL sk'4 0∧(0:Int)=0:=fun _=>⟨bNq hx,rfl⟩
  by_cases k2:d1=2
  ·obtain ⟨r3,m3,t3,e3⟩:∃ r m t,bO (3:Int) l m2 t2=(r,m,t):=⟨_,_,_,rfl⟩
   have b3:=gS (3:Int) l m2 t2;rw [e3] at b3
   dsimp only at b3
   exact ⟨m3,t3,a,r3,0,by omega,aCo (by omega) hk h2 (by omega) (.inr (by omega)) hp (fun q=>by omega),bAo h4 (by omega) e1 hx hr.1 hu2 (by omega) e2 (by unfold inR;omega) k2 (by omega) e3 (by omega)⟩
  ·by_cases k3:d1=3
   ·exact ⟨m2,t2,a,0,0,by omega,aCo (by omega) hk h2 (by omega) (.inl rfl) hp (fun q=>by omega),bAp h4 (by omega) e1 hx hr.1 hu2 (by omega) e2 (by unfold inR;omega) k2 k3 rfl⟩
   ·exact ⟨m2,t2,a,50*r8,0,by omega,aCo (by omega) hk h2 (by omega) (.inr (by omega)) hp (fun q=>by omega),bAq h4 (by omega) e1 hx hr.1 hu2 (by omega) e2 (by unfold inR;omega) k2 k3 rfl⟩
 ·have hg:(if nb-6 > (1:Int) then nb-6 else 1)=max 1 (nb-6):=by split <;> omega
  obtain ⟨r,m1,t1,e1⟩:∃ r m t,nP (if nb-(6:Int) > (1:Int) then nb-(6:Int) else (1:Int)) (nb-(1:Int)) l mb tb=(r,m,t):=⟨_,_,_,rfl⟩
  have b1:=zM (if nb-(6:Int) > (1:Int) then nb-(6:Int) else (1:Int)) (nb-(1:Int)) l mb tb
  rw [e1] at b1
  dsimp only at b1
  have hn1:nb≠1:=fun q=>h4 (hk1 q)
  have hlo:1≤(if nb-(6:Int) > (1:Int) then nb-(6:Int) else (1:Int))∧(if nb-(6:Int) > (1:Int) then nb-(6:Int) else (1:Int))≤nb-1:=by rw [hg];omega
  have hq:4<d1→(0:Int)=0∧1≤r∧r≤nb-1:=fun _=>⟨rfl,by omega,by omega⟩
  by_cases k6:d1=6
  ·obtain ⟨r8,m2,t2,e2⟩:∃ r m t,bO (8:Int) l m1 t1=(r,m,t):=⟨_,_,_,rfl⟩
   have b2:=gS (8:Int) l m1 t1;rw [e2] at b2
   dsimp only at b2
   exact ⟨m2,t2,0,50*r8,r,by omega,aCo (by omega) hk h2 (by omega) (.inr (by omega)) (fun q=>absurd q h4) hq,bAr (by omega) (by unfold inR;omega) (by unfold inR;omega) (by omega) (by omega) e1 k6 (by omega) e2 (by unfold inR;omega) rfl⟩
  ·exact ⟨m1,t1,0,0,r,by omega,aCo (by omega) hk h2 (by omega) (.inl rfl) (fun q=>absurd q h4) hq,bAs (by omega) (by unfold inR;omega) (by unfold inR;omega) (by omega) (by omega) e1 k6⟩
theorem bNr{l:List Int}{sk'4 dc:Lqq}{r7 nu mx tt:Int}{j:Nat}(hI:aRr sk'4 dc nu mx j)(hj:(j:Int)<r7)(hr:r7≤100)(hu2:uni 2 sk'4)(hs:1≤sk'4.length∧sk'4.length≤100) :
  ∃ dc' nu' mx' tt',aRr sk'4 dc' nu' mx' (j+1)∧aC Tp 1 (sub (cd Tryz.f16) [1,1,1,1,0,1,0,0]) (dR l sk'4 r7 j dc.length (dc.flatten.map aA) nu mx tt) .normal (dR l sk'4 r7 (j+1) dc'.length (dc'.flatten.map aA) nu' mx' tt'):=by
 have hlen:=hI.len;have hnum:=hI.num;have hdeck:=hI.deck;obtain ⟨r200,m201,t202,e3⟩:∃ r m t,nP (1:Int) (2:Int) l mx tt=(r,m,t):=⟨_,_,_,rfl⟩;have b3:=zM (1:Int) (2:Int) l mx tt;rw [e3] at b3
 dsimp only at b3
 obtain ⟨r203,m204,t205,e6⟩:∃ r m t,bO (10:Int) l m201 t202=(r,m,t):=⟨_,_,_,rfl⟩;have b6:=gS (10:Int) l m201 t202;rw [e6] at b6
 dsimp only at b6
 obtain ⟨r206,m207,t208,e8⟩:∃ r m t,bO (36:Int) l m204 t205=(r,m,t):=⟨_,_,_,rfl⟩;have b8:=gS (36:Int) l m204 t205;rw [e8] at b8
 dsimp only at b8
 have hin:inR (((j+1):Nat):Int):=aP (by omega)
 have rest:∀ (m t k:Int),(m207≤m∧m≤m207+1)→(0≤k∧k≤9)→∃ m1 t1 k1 m2 t2 b mu ab,(mx≤m2∧m2≤mx+20)∧(dcB [nu+r200,k1,r206,b,mu,ab]=true∧inB sk'4 [nu+r200,k1,r206,b,mu,ab]=true∧orB [nu+r200,k1,r206,b,mu,ab]=true) ∧
   aC Tp 1 (sub (cd Tryz.f16) [1,1,1,1,0,1,0,0,1,1,0,0,1,1,1,0]) (dL l sk'4 r7 j dc (nu+r200) m t (nu+r200) k r206 0 0 0) .normal (dL l sk'4 r7 j dc (nu+r200) m1 t1 (nu+r200) k1 r206 0 0 0) ∧
   aC Tp 1 (sub (cd Tryz.f16) [1,1,1,1,0,1,0,0,1,1,0,0,1,1,1,1,0]) (cU l sk'4 r7 j dc (nu+r200) m1 t1 (nu+r200) k1 r206 0 0 0) .normal (cU l sk'4 r7 j dc (nu+r200) m2 t2 (nu+r200) k1 r206 b mu ab):=fun m t k hm hk=>by
  obtain ⟨m1,t1,k1,q1,q2,q3,q4⟩:=bVe (l:=l) (sk'4:=sk'4) (dc:=dc) (r7:=r7) (na:=nu+r200) (ma:=m) (ta:=t) (c0:=nu+r200) (c1:=k) (c2:=r206) (c3:=0) (c4:=0) (c5:=0) (j:=j) (by omega) hk
  obtain ⟨m2,t2,b,mu,ab,s1,s2,s3⟩:=bVf (l:=l) (sk'4:=sk'4) (dc:=dc) (r7:=r7) (nb:=nu+r200) (mb:=m1) (tb:=t1) (d1:=k1) (d2:=r206) (j:=j) (by omega) (by omega) q2 q3 (by omega) hu2 hs
  exact ⟨m1,t1,k1,m2,t2,b,mu,ab,by omega,s2,q4,s3⟩
 by_cases h1:1<nu+r200
 ·by_cases h5:r203<5
  ·obtain ⟨c,m210,t211,e12⟩:∃ r m t,iF (3:Int) l m207 t208=(r,m,t):=⟨_,_,_,rfl⟩
   have b12:=vL (3:Int) l m207 t208;rw [e12] at b12
   dsimp only at b12
   cases c with
   | true =>
    obtain ⟨m1,t1,k1,m2,t2,b,mu,ab,q1,q2,q3,q4⟩:=rest m210 t211 7 (by omega) (by omega)
    exact ⟨_,_,_,_,hI.snoc q2 (by omega) q1,bAh (dc':=dc++[[nu+r200,k1,r206,b,mu,ab]]) hj (by omega) (by omega) e3 (by unfold inR;omega) (by omega) e6 (by omega) e8 h1 h5 (by omega) e12 rfl q3 q4 ⟨rfl,by omega⟩ hin rfl (by simp) (by simp)⟩
   | false =>
    obtain ⟨m1,t1,k1,m2,t2,b,mu,ab,q1,q2,q3,q4⟩:=rest m210 t211 r203 (by omega) (by omega)
    exact ⟨_,_,_,_,hI.snoc q2 (by omega) q1,bAi (dc':=dc++[[nu+r200,k1,r206,b,mu,ab]]) hj (by omega) (by omega) e3 (by unfold inR;omega) (by omega) e6 (by omega) e8 h1 h5 (by omega) e12 rfl q3 q4 ⟨rfl,by omega⟩ hin rfl (by simp) (by simp)⟩
  ·obtain ⟨m1,t1,k1,m2,t2,b,mu,ab,q1,q2,q3,q4⟩:=rest m207 t208 r203 (by omega) (by omega)
   exact ⟨_,_,_,_,hI.snoc q2 (by omega) q1,bAj (dc':=dc++[[nu+r200,k1,r206,b,mu,ab]]) hj (by omega) (by omega) e3 (by unfold inR;omega) (by omega) e6 (by omega) e8 h1 (by omega) q3 q4 ⟨rfl,by omega⟩ hin rfl (by simp) (by simp)⟩
 ·obtain ⟨m1,t1,k1,m2,t2,b,mu,ab,q1,q2,q3,q4⟩:=rest m207 t208 r203 (by omega) (by omega)
  exact ⟨_,_,_,_,hI.snoc q2 (by omega) q1,bAk (dc':=dc++[[nu+r200,k1,r206,b,mu,ab]]) hj (by omega) (by omega) e3 (by unfold inR;omega) (by omega) e6 (by omega) e8 (by omega) q3 q4 ⟨rfl,by omega⟩ hin rfl (by simp) (by simp)⟩
end
section
structure bGw (sk:Lqq) (m0 mx:Int) (i:Nat):Prop where
 us:uni 2 sk
 len:sk.length=i
 deck:m0≤mx∧mx≤m0+2*(i:Int)
 mem:∀ x∈sk,skB x=true∧x.getD 0 0≤3*(i:Int)-2
 tim:∀ x∈sk,x.getD 1 0≤16000
 up:sk.Pairwise fun a b=>a.getD 0 0<b.getD 0 0
theorem bGw.snoc{sk:Lqq}{m0 mx:Int}{i:Nat}(h:bGw sk m0 mx i)(hi:i<100){t mx':Int}(ht : -1≤t∧t≤16000)(hm:mx≤mx'∧mx'≤mx+2):bGw (sk++[[3*(i:Int)+1,t]]) m0 mx' (i+1):=by
 obtain ⟨h1,h2,h3,h4,h6,h5⟩:=h;refine ⟨aMh h1 rfl,by simp [h2],by omega,fun x hx => ?_,fun x hx => ?_,?_⟩
 ·rcases iI.1 hx with hx | hx
  ·exact ⟨(h4 x hx).1,by have:=(h4 x hx).2;omega⟩
  ·rw [List.mem_singleton.1 hx]
   exact ⟨zL.2 ⟨⟨show 1≤3*(i:Int)+1 by omega,show 3*(i:Int)+1≤999 by omega⟩,ht.1,show t≤360000 by omega⟩,show 3*(i:Int)+1≤_ by omega⟩
 ·rcases iI.1 hx with hx | hx
  ·exact h6 x hx
  ·rw [List.mem_singleton.1 hx]
   exact ht.2
 ·rw [List.pairwise_append]
  refine ⟨h5,List.pairwise_singleton _ _,fun x hx y hy => ?_⟩
  rw [List.mem_singleton.1 hy];have:=(h4 x hx).2;show x.getD 0 0<3*(i:Int)+1;omega
theorem bVb{nd:Int}{l:List Int}{r0 m1 t2:Int}(hr:0≤r0∧r0≤30)(hm:0≤m1∧m1≤1000):∃ sk mx tt,bGw sk m1 mx r0.toNat∧aJ Tp 1 (sub (cd Tryz.f16) [1,1,0,1,0,0]) (gU nd l r0 0 0 [] m1 t2) (.exit 0) (gU nd l r0 r0.toNat sk.length (sk.flatten.map aA) mx tt):=by
 obtain ⟨A,hI,hL⟩:=aJ.ex (P:=Tp) (k:=1) (b:=sub (cd Tryz.f16) [1,1,0,1,0,0]) (e := .exit 0) (fun i (A:Lqq × Int × Int)=>gU nd l r0 i A.1.length (A.1.flatten.map aA) A.2.1 A.2.2) (fun A=>gU nd l r0 r0.toNat A.1.length (A.1.flatten.map aA) A.2.1 A.2.2)
  (fun i A=>bGw A.1 m1 A.2.1 i) (by simp) r0.toNat
  (fun i A hi hA=>by
   obtain ⟨sk,mx,tt⟩:=A;have hd:=hA.deck;have hl:=hA.len;dsimp only at hd hl
   obtain ⟨r,m,t,e⟩:∃ r m t,bO 20 l mx tt=(r,m,t):=⟨_,_,_,rfl⟩;have b:=gS 20 l mx tt;rw [e] at b
   dsimp only at b
   obtain ⟨c,m',t',e'⟩:∃ r m2 t2,iF 12 l m t=(r,m2,t2):=⟨_,_,_,rfl⟩;have b':=vL 12 l m t;rw [e'] at b'
   dsimp only at b'
   have hm2:mx≤m'∧m'≤mx+2:=by omega
   have hmx:0≤mx∧mx≤1000000000:=by omega
   have hm3:0≤m∧m≤1000000000:=by omega
   have hsl:sk.length+1≤1000000:=by omega
   cases c with
   | true =>
    refine ⟨(sk++[[3*(i:Int)+1,-1]],m',t'),hA.snoc (by omega) (by omega) hm2,?_⟩
    exact bAe (by omega) (by unfold inR;omega) (by unfold inR;omega) hmx e (by unfold inR;omega) (by unfold inR;omega) hm3 e' rfl ⟨rfl,hsl⟩ (aP (by omega)) rfl (by simp) (by simp)
   | false =>
    refine ⟨(sk++[[3*(i:Int)+1,15000+50*r]],m',t'),hA.snoc (by omega) (by omega) hm2,?_⟩
    exact bAf (by omega) (by unfold inR;omega) (by unfold inR;omega) hmx e (by unfold inR;omega) (by unfold inR;omega) hm3 e' rfl ⟨rfl,hsl⟩ (aP (by omega)) rfl (by simp) (by simp))
  (fun A _=>bAg (by omega)) (acc:=([],m1,t2)) ⟨fun x h=>by simp at h,rfl,⟨aDr _,by show m1≤_;omega⟩,fun x h=>by simp at h,fun x h=>by simp at h,.nil⟩
 exact ⟨_,_,_,hI,hL⟩
theorem bVc{l:List Int}{sk:Lqq}{r7 m8 t9:Int}(hr:0≤r7∧r7≤100)(hu:uni 2 sk)(hs:1≤sk.length∧sk.length≤100)(hm:0≤m8∧m8≤1000):∃ dc nu mx tt,aRr sk dc nu mx r7.toNat∧aJ Tp 1 (sub (cd Tryz.f16) [1,1,1,1,0,1,0,0]) (dR l sk r7 0 0 [] 0 m8 t9) (.exit 2) (dR l sk r7 r7.toNat dc.length (dc.flatten.map aA) nu mx tt):=by
 obtain ⟨A,hI,hL⟩:=aJ.ex (P:=Tp) (k:=1) (b:=sub (cd Tryz.f16) [1,1,1,1,0,1,0,0]) (e := .exit 2) (fun j (A:Lqq × Int × Int × Int)=>dR l sk r7 j A.1.length (A.1.flatten.map aA) A.2.1 A.2.2.1 A.2.2.2) (fun A=>dR l sk r7 r7.toNat A.1.length (A.1.flatten.map aA) A.2.1 A.2.2.1 A.2.2.2)
  (fun j A=>aRr sk A.1 A.2.1 A.2.2.1 j) (by simp) r7.toNat
  (fun j A hj hA=>by
   obtain ⟨dc',nu',mx',tt',h1,h2⟩:=bNr (l:=l) (tt:=A.2.2.2) hA (r7:=r7) (by omega) hr.2 hu hs
   exact ⟨(dc',nu',mx',tt'),h1,h2⟩)
  (fun A _=>bAl (by omega)) (acc:=([],0,m8,t9)) ⟨fun x h=>by simp at h,rfl,⟨aDr _,by show (0:Int)≤_;omega⟩,⟨hm.1,by show m8≤_;omega⟩,fun x h=>by simp at h,.nil⟩
 exact ⟨_,_,_,_,hI,hL⟩
theorem bVd{ns nd:Int}{l:List Int}{nx st:Int}(hns:1≤ns∧ns≤30)(hnd:0≤nd∧nd≤40)(hnx:0≤nx∧nx≤900):∃ sk dc mx tt,bQ 30 sk dc∧(sk.length:Int)≤ns∧(dc.length:Int)≤nd∧(0≤mx∧mx≤4000)∧(sk.Pairwise fun a b=>a.getD 0 0<b.getD 0 0)∧(dc.Pairwise fun a b=>a.getD 0 0<b.getD 0 0)∧(∀ x∈dc,x.getD 0 0≤80)∧(∀ x∈sk,x.getD 0 0≤88∧x.getD 1 0≤16000) ∧
  FMM Tp 16 [.ptr 0 0,.p (aA ns),.p (aA nd)] [some (iS l nx st)] (.p (.agg (cF 30 sk dc))) [some (iS l mx tt)]:=by
 obtain ⟨r0,m1,t2,e0⟩:∃ r m t,nP 1 ns l nx st=(r,m,t):=⟨_,_,_,rfl⟩;have b0:=zM 1 ns l nx st;rw [e0] at b0
 dsimp only at b0
 obtain ⟨sk,mx,tt,hS,hL0⟩:=bVb (nd:=nd) (l:=l) (r0:=r0) (m1:=m1) (t2:=t2) (by omega) (by omega)
 have hsl:=hS.len;have hsd:=hS.deck;obtain ⟨r7,m8,t9,e7⟩:∃ r m t,bO (nd+1) l mx tt=(r,m,t):=⟨_,_,_,rfl⟩;have b7:=gS (nd+1) l mx tt;rw [e7] at b7
 dsimp only at b7
 obtain ⟨dc,nu,mx',tt',hM,hL1⟩:=bVc (l:=l) (sk:=sk) (r7:=r7) (m8:=m8) (t9:=t9) (by omega) hS.us (by omega) (by omega)
 have hml:=hM.len;have hmd:=hM.deck;have hnod:∀ {f:Lqq},(f.Pairwise fun a b=>a.getD 0 0<b.getD 0 0)→(aL f 0).Nodup:=fun {f} h=>by
  unfold aL;rw [List.Nodup,List.pairwise_map];exact h.imp fun h=>by omega
 refine ⟨sk,dc,mx',tt',⟨hS.us,hM.ud,by omega,by omega,by omega,fun x hx=>(hS.mem x hx).1,fun x hx=>(hM.mem x hx).1.1,hnod hS.up,hnod hM.up,fun x hx=>(hM.mem x hx).1.2.1,fun x hx=>(hM.mem x hx).1.2.2⟩,by omega,by omega,by omega,hS.up,hM.up,fun x hx => ?_,fun x hx=>⟨?_,hS.tim x hx⟩,?_⟩
 ·have h1:=(hM.mem x hx).2
  have h2:=hM.num;omega
 ·have:=(hS.mem x hx).2
  omega
 exact bVg (by omega) (by omega) e0 hL0 (by unfold inR;omega) (by omega) e7 hL1
end
section
open Go.RowKit Go.Lib Go.Shelf
theorem bWi{n:Nat}{x:PV}{r:List PV}{r0n:Nat}{r0c:List PV}(h0:(x::r).length=n*1∧0+n≤1000000)(er0n:r0n=(0+n))(er0c:r0c=(x::r)){base:Nat}:FV Tp 55 [(.p (.sl n (x::r)))] base (.own base) [(base,(.row 3 r0n r0c))]:=by
 subst er0n er0c;exact FV.fin Tryz.func55 rfl (o:=[]) (l:=[_]) (by kernel_rfl) (gc h0 gn)
set_option maxHeartbeats 1000000 in
theorem bNz(n c:Nat)(w:World):Calls Tp 55 #[.slice none n c] w fun e w'=>e = .returned (.slice none 0 0)∧w'=w:=by
 have q33:∀ (w:World) (a:Option Addr) (n c n' c':Nat),(binOp .eql 33 (.slice a n c) (.slice none n' c')).run Tp w = .ok (.bool a.isNone) w:=fun w a n c n' c'=>Lib.run_eql_slice_nil w _ _ a n c n' c' Tryz.underlying33
 go_enter Tryz.func55,Tryz.ntmps55
 go_wp2
 go_ret
 exact ⟨rfl,rfl⟩
theorem inf3:(Tryz.prog.info? 3).map (fun i=>(i.zero,i.size,i.bytes))=some (some (.int .i64 0),1,8):=by kernel_rfl
set_option maxHeartbeats 2000000 in
theorem bHg(a:Addr)(c:Nat)(w:World):Calls Tp 55 #[.slice (some a) 0 c] w fun e w'=>∃ v',e = .returned v'∧w'.ownsRow w.heap.size 3 1 v' 0 []∧Below w.heap.size w w':=by
 obtain ⟨i0,hi,hz0,hz1,hz2⟩:=info_parts inf3;have q33:∀ (w:World) (a:Option Addr) (n c n' c':Nat),(binOp .eql 33 (.slice a n c) (.slice none n' c')).run Tp w = .ok (.bool a.isNone) w:=fun w a n c n' c'=>Lib.run_eql_slice_nil w _ _ a n c n' c' Tryz.underlying33
 go_enter Tryz.func55,Tryz.ntmps55
 go_wp2_with (at_builtin;refine wpList_append_own _ rfl _ _ 33 rfl w.heap.size 3 i0 (.int .i64 0) 1 8 Tryz.underlying33 hi hz0 hz1 hz2 rfl (by decide) _ _ _ rfl (World.ownsRow_made w #[] 0 (dO _) (Nat.zero_le _) rfl) a 0 c [] rfl rfl (by intro j u hj;simp at hj) (by intro u hu;cases hu) (by unfold maxLen;omega) (by omega) (by simp) ?_)
 intro v' w1 hown hgrow hnil
 go_wp2
 go_ret
 refine ⟨v',rfl,by simpa using hown,?_⟩
 exact ((Below.refl _ w).alloc (dO _) _).grown hgrow (by simp) (by intro k hk;simp [Value.ownBlock] at hk;omega)
theorem bBv{base:Nat}:FV Tp 55 [.p (.sl 0 [])] base (.own base) [(base,.row 3 0 [])]:=aZo (sC (show (Tryz.prog.info? 3).map (fun i=>i.size)=some 1 by kernel_rfl)) fun p c w=>by
 cases p with
 | none =>
  refine (bNz 0 c w).mono ?_;rintro e w' ⟨rfl,rfl⟩;exact ⟨_,rfl,World.ownsRow_nil _ _ _ _,Below.refl _ _⟩
 | some a=>exact bHg a c w
theorem bHh(l:List Int)(hl:l.length≤1000){base:Nat}:FV Tp 55 [.p (aE l)] base (.own base) [(base,.row 3 l.length (l.map aA))]:=by
 cases l with
 | nil=>exact bBv
 | cons x l=>exact bWi (n:=(x::l).length) (x:=aA x) (r:=l.map aA) ⟨by simp,by simp at hl ⊢;omega⟩ (by simp) rfl
end
section
variable {dl:Int}{sk dc:Lqq}

theorem aJa:0≤(1:Int)∧(1:Int)<2:=by first | decide | simp
theorem aJb:0≤(0:Int)∧(0:Int)<2:=by first | decide | simp
abbrev bYf(l:List Int)(dl:Int)(sk dc:Lqq)(bib tm:Int)(o:List Int):Prop:=FMM Tp 54 [.own 0,.fn 189 [] [.rp [bEl dl sk dc] 0,.rp [aA bib,aA tm] 0]] [some (.row 3 l.length (l.map aA))] (.p (aE o)) [some .dead]
def chE(x:Int × Bool × List Int):List PV:=[aA x.1,blP x.2.1,aE x.2.2]
def mF(dl:Int)(sk:Lqq)(dc:Lqq)(aln:Nat)(alc:List PV)(i:Nat):St:=⟨fr 77 [(1,(.rp [(PV.rp (aH dl sk dc) 0)] 0)),(2,(.p cC)),(3,(pI 0)),(4,(.p (aE (aI dl dc)))),(5,(.own 0)),(22,(.p (fS sk))),(23,(pI (sk.length:Int))),(24,(pI (i:Int)))],[some (.row 195 aln alc)]⟩
theorem bWh{al'0n:Nat}{al'0c:List PV}{i'1:Nat}(h0:bZ dc)(h1:(((aI dl dc).length:Nat):Int)≤8)(hl2:aJ Tp 0 (sub (cd Tryz.f161) [1,1,1,1,0,1,0,0]) (mF dl sk dc 0 [] 0) (.exit 0) (mF dl sk dc al'0n al'0c i'1)){base:Nat}:FV Tp 161 [(.rp (aH dl sk dc) 0)] base (.tup [(.own base),(pI 0)]) [(base,(.row 195 al'0n al'0c))]:=by
 exact FV.fin Tryz.func161 rfl (o:=[.g 3 ⟨[],[],[0],[]⟩,.x (PV.rp (aH dl sk dc) 0),.c (.own 0) [(0,(.row 3 ((aI dl dc).length) ((aI dl dc).map aA)))],.g 2 ⟨[],[],[0],[]⟩,bF,.x (PV.rp (aH dl sk dc) 0),.x (fS sk),.k 1 ⟨(rng [(0,1),(6,16),(25,51)]),[0],[],[(5,195)]⟩ (.exit 0) (mF dl sk dc al'0n al'0c i'1)]) (l:=[_,(aH dl sk dc)[1]? = some (fS sk),[(PV.rp (aH dl sk dc) 0)][0]? = some (PV.rp (aH dl sk dc) 0),_,_,[(PV.rp (aH dl sk dc) 0)][0]? = some (PV.rp (aH dl sk dc) 0)]) (by kernel_rfl) (gc hl2.code (gc rfl (gc rfl (gc (bJ h1) (gc (fk 0 (qY (dl:=dl) (sk:=sk) (dc:=dc) h0) rfl) (gc rfl gn))))))
def xK(dl:Int)(sk:Lqq)(dc:Lqq)(aln:Nat)(alc:List PV)(i:Nat)(y100:Int)(y101:Int)(o102:List Int)(chn:Nat)(chc:List PV)(mn:Int)(mx:Int):St:=⟨fr 77 [(1,(.rp [(PV.rp (aH dl sk dc) 0)] 0)),(2,(.p cC)),(3,(pI 0)),(4,(.p (aE (aI dl dc)))),(5,(.own 0)),(7,(.rp [(aA y100),(aA y101)] 0)),(8,(.p (aE o102))),(9,(.ptr 2 0)),(22,(.p (fS sk))),(23,(pI (sk.length:Int))),(24,(pI (i:Int))),(25,(pB (decide ((i:Int)<(sk.length:Int))))),(26,(.rp (sk.flatten.map aA) (i*2))),(27,(.p (.agg [(aA y100),(aA y101)]))),(28,(.p (aE (aI dl dc)))),(29,(.own 1)),(30,(.fn 189 [] [(.rp [(PV.rp (aH dl sk dc) 0)] 0),(.rp [(aA y100),(aA y101)] 0)])),(31,(.p (aE o102))),(32,(.p (.agg [(aA 1099511627776),(aA 0)]))),(33,(.p (.agg [cC,(aA 1099511627776),(aA 0)]))),(34,(.p (aE o102))),(35,(.fn 182 [] [(.rp [(aE o102)] 0)]))],[some (.row 195 aln alc),some .dead,some (.box 195 [(.own 3),(pI mn),(pI mx)]),some (.row 197 chn chc)]⟩
def aJc(dl:Int)(sk:Lqq)(dc:Lqq)(aln:Nat)(alc:List PV)(i:Nat)(y100:Int)(y101:Int)(o102:List Int):St:=⟨fr 77 [(1,(.rp [(PV.rp (aH dl sk dc) 0)] 0)),(2,(.p cC)),(3,(pI 0)),(4,(.p (aE (aI dl dc)))),(5,(.own 0)),(7,(.rp [(aA y100),(aA y101)] 0)),(8,(.p (aE o102))),(9,(.ptr 2 0)),(22,(.p (fS sk))),(23,(pI (sk.length:Int))),(24,(pI (i:Int))),(25,(pB (decide ((i:Int)<(sk.length:Int))))),(26,(.rp (sk.flatten.map aA) (i*2))),(27,(.p (.agg [(aA y100),(aA y101)]))),(28,(.p (aE (aI dl dc)))),(29,(.own 1)),(30,(.fn 189 [] [(.rp [(PV.rp (aH dl sk dc) 0)] 0),(.rp [(aA y100),(aA y101)] 0)])),(31,(.p (aE o102))),(32,(.p (.agg [(aA 1099511627776),(aA 0)]))),(33,(.p (.agg [cC,(aA 1099511627776),(aA 0)]))),(34,(.p (aE o102))),(35,(.fn 182 [] [(.rp [(aE o102)] 0)]))],[some (.row 195 aln alc),some .dead,some (.box 195 [(.p cC),(pI 1099511627776),(pI 0)])]⟩
theorem bBr{aln:Nat}{alc:List PV}{i:Nat}{y100 y101:Int}{o102:List Int}{ch'103n:Nat}{ch'103c:List PV}{mn'104 mx'105:Int}{al'n:Nat}{al'c:List PV}{i':Nat}(h0:(i:Int)<(sk.length:Int))(h1:sk[i]? = some [y100,y101])(h2:uni 2 sk)(h3:(aI dl dc).length≤1000)(h4:bYf (aI dl dc) dl sk dc y100 y101 o102)(hl5:aC Tp 0 (sub (cd Tryz.f161) [1,1,1,1,0,1,0,0,1,1,0,0,1,1,1,0,1,0]) (aJc dl sk dc aln alc i y100 y101 o102) .normal (xK dl sk dc aln alc i y100 y101 o102 ch'103n ch'103c mn'104 mx'105))(h6:[(.sl ch'103n ch'103c),(aA mn'104),(aA mx'105)].length=1*3∧aln+1≤1000000)(h7:inR (((i+1):Nat):Int))(eal'n:al'n=(aln+1))(eal'c:al'c=(alc++[(.sl ch'103n ch'103c),(aA mn'104),(aA mx'105)]))(ei':i'=(i+1)):aC Tp 0 (sub (cd Tryz.f161) [1,1,1,1,0,1,0,0]) (mF dl sk dc aln alc i) .normal (mF dl sk dc al'n al'c i'):=by
 subst eal'n eal'c ei';exact aC.fin (g:=⟨(rng [(0,1),(6,16),(25,51)]),[3],[],[]⟩) (o:=[bT,.x (.agg [(aA y100),(aA y101)]),.g 1 ⟨[],[0],[1],[]⟩,.c (.own 1) [(1,(.row 3 ((aI dl dc).length) ((aI dl dc).map aA)))],.c (.p (aE o102)) [(1,.dead)],.c (.fn 182 [] [(.rp [(aE o102)] 0)]) [],.k 1 ⟨(rng [(0,1),(6,1),(10,12),(36,35)]),[0,1,2],[],[]⟩ .normal (xK dl sk dc aln alc i y100 y101 o102 ch'103n ch'103c mn'104 mx'105),.g 0 ⟨[29],[0,2],[3],[]⟩]) (l:=[_,_,[(.sl ch'103n ch'103c),(aA mn'104),(aA mx'105)].length=3,aC Tp 0 (sub (cd Tryz.f161) [1,1,1,1,0,1,0,0,1,1,0,0,1,1,1,0,1,0]) (aJc dl sk dc aln alc i y100 y101 o102) .normal (xK dl sk dc aln alc i y100 y101 o102 ch'103n ch'103c mn'104 mx'105),FC Tp 132 [(.p (aE o102))] [] 3 (.fn 182 [] [(.rp [(aE o102)] 0)]) [],FC Tp 54 [(.own 1),(.fn 189 [] [(.rp [(PV.rp (aH dl sk dc) 0)] 0),(.rp [(aA y100),(aA y101)] 0)])] [(1,(.row 3 ((aI dl dc).length) ((aI dl dc).map aA)))] 2 (.p (aE o102)) [(1,.dead)],_,_,_,0≤(i:Int)∧(i:Int)<(sk.length:Int)∧(i*2)<(sk.flatten.map aA).length,_]) (by kernel_rfl) (gc h7 (gc h6 (gc (by first | decide | simp) (gc hl5 (gc (FV.fc (aPc (q:=o102)) rfl) (gc (FMM.fc (ids:=[1]) h4 (by kernel_rfl)) (gc (fk 1 (bHh (aI dl dc) h3) rfl) (gc (aV (i:=i) h2 h1) (gc (bI (i:=i) h2 h1) (gc (cB (k:=2) (i:=(i:Int)) (by decide) h2 (kQ2 _) h1) (gc (aZ h0) gn)))))))))))
theorem bBs{aln:Nat}{alc:List PV}{i:Nat}(h0:(sk.length:Int)≤(i:Int)):aC Tp 0 (sub (cd Tryz.f161) [1,1,1,1,0,1,0,0]) (mF dl sk dc aln alc i) (.exit 0) (mF dl sk dc aln alc i):=by
 exact aC.fin (g:=⟨(rng [(0,1),(6,16),(25,51)]),[0],[],[]⟩) (o:=[bF]) (l:=[_]) (by kernel_rfl) (gc (bJ h0) gn)
def aRu(dl:Int)(sk:Lqq)(dc:Lqq)(aln:Nat)(alc:List PV)(i:Nat)(y100:Int)(y101:Int)(o102:List Int)(chn:Nat)(chc:List PV)(mn:Int)(mx:Int):St:=⟨fr 77 [(1,(.rp [(PV.rp (aH dl sk dc) 0)] 0)),(2,(.p cC)),(3,(pI 0)),(4,(.p (aE (aI dl dc)))),(5,(.own 0)),(7,(.rp [(aA y100),(aA y101)] 0)),(8,(.p (aE o102))),(9,(.ptr 2 0)),(22,(.p (fS sk))),(23,(pI (sk.length:Int))),(24,(pI (i:Int))),(25,(pB (decide ((i:Int)<(sk.length:Int))))),(26,(.rp (sk.flatten.map aA) (i*2))),(27,(.p (.agg [(aA y100),(aA y101)]))),(28,(.p (aE (aI dl dc)))),(30,(.fn 189 [] [(.rp [(PV.rp (aH dl sk dc) 0)] 0),(.rp [(aA y100),(aA y101)] 0)])),(31,(.p (aE o102))),(32,(.p (.agg [(aA 1099511627776),(aA 0)]))),(33,(.p (.agg [cC,(aA 1099511627776),(aA 0)]))),(34,(.p (aE o102))),(35,(.fn 182 [] [(.rp [(aE o102)] 0)]))],[some (.row 195 aln alc),some .dead,some (.box 195 [(.own 5),(pI mn),(pI mx)]),some .dead,some .dead,some (.row 197 chn chc)]⟩
theorem bBt{aln:Nat}{alc:List PV}{i:Nat}{y100 y101:Int}{o102:List Int}{chn:Nat}{chc:List PV}{mn mx:Int}{x:List Int}{n200:Int}{b201:Bool}{T202:Lqb}{ch'n:Nat}{ch'c:List PV}{mn' mx':Int}(h0:aDt dl sk dc (aE x) [y100,y101] n200 b201 ([]:Lqb) T202)(h1:b201=true)(h2:[(aA 1099511627776),(blP b201),(aE x)].length=1*3∧chn+1≤1000000)(h3:([(1099511627776:Int)]:List Int).length≤1000)(ech'n:ch'n=(chn+1))(ech'c:ch'c=(chc++[(aA 1099511627776),(blP b201),(aE x)]))(emn':mn'=(if (1099511627776:Int)<mn then (1099511627776:Int) else mn))(emx':mx'=(zA mx ([(1099511627776:Int)]:List Int))):aC Tp 5 (sub (cd Tryz.f161) [1,1,1,1,0,1,0,0,1,1,0,0,1,1,1,0,1,0,1]) (rfO (xK dl sk dc aln alc i y100 y101 o102 chn chc mn mx) 36 10 x) .normal (aRu dl sk dc aln alc i y100 y101 o102 ch'n ch'c mn' mx'):=by
 subst ech'n ech'c emn' emx'
 exact aC.fin (g:=⟨(rng [(0,1),(6,1),(10,12),(36,35)]),[13],[],[]⟩) (o:=[.g 2 ⟨[29],[],[4],[]⟩,.x (PV.rp (aH dl sk dc) 0),.x (.agg [(aA y100),(aA y101)]),.x (PV.rp (aH dl sk dc) 0),.c (.agg (kVL 9 10 5 7 11 6)) [(5,(vB0 dl sk dc)),(6,(.box 33 [(.p (aE x))])),(7,(.box 139 (kVL 9 10 5 7 11 6))),(8,(.mp (aG ([]:Lqb)) 0)),(9,(.box 207 [(.mp 8)])),(10,(vB5 dl sk dc)),(11,(.box 209 [(.fn 153 [] [(.ptr 5 0),(.ptr 7 0)])]))],.c (.tup [(pI n200),(pB b201)]) [(5,(vB0 dl sk dc)),(6,(.box 33 [(.p (aE x))])),(7,(.box 139 (kVL 9 10 5 7 11 6))),(8,(.mp (aG T202) T202.length)),(9,(.box 207 [(.mp 8)])),(10,(vB5 dl sk dc)),(11,(.box 209 [(.fn 153 [] [(.ptr 5 0),(.ptr 7 0)])]))],bT,.c (pI (zA mx ([(1099511627776:Int)]:List Int))) []]) (l:=[_,_,FC Tp 184 [(pI mx),(.own 15)] [(15,(.row 3 1 [(aA 1099511627776)]))] 16 (pI (zA mx ([(1099511627776:Int)]:List Int))) [],_,_,_,[(aA 1099511627776),(blP b201),(aE x)].length=3,_,FC Tp 134 [(.rp (aH dl sk dc) 0),(.p (.agg [(aA y100),(aA y101)])),(.agg (kVL 9 10 5 7 11 6))] [(9,(.box 207 [(.mp 8)])),(10,(vB5 dl sk dc)),(5,(vB0 dl sk dc)),(7,(.box 139 (kVL 9 10 5 7 11 6))),(11,(.box 209 [(.fn 153 [] [(.ptr 5 0),(.ptr 7 0)])])),(6,(.box 33 [(.p (aE x))])),(8,(.mp (aG ([]:Lqb)) 0))] 13 (.tup [(pI n200),(pB b201)]) [(5,(vB0 dl sk dc)),(6,(.box 33 [(.p (aE x))])),(7,(.box 139 (kVL 9 10 5 7 11 6))),(8,(.mp (aG T202) T202.length)),(9,(.box 207 [(.mp 8)])),(10,(vB5 dl sk dc)),(11,(.box 209 [(.fn 153 [] [(.ptr 5 0),(.ptr 7 0)])]))],FC Tp 87 [(.rp (aH dl sk dc) 0),(.p (aE x))] [] 5 (.agg (kVL 9 10 5 7 11 6)) [(5,(vB0 dl sk dc)),(6,(.box 33 [(.p (aE x))])),(7,(.box 139 (kVL 9 10 5 7 11 6))),(8,(.mp (aG ([]:Lqb)) 0)),(9,(.box 207 [(.mp 8)])),(10,(vB5 dl sk dc)),(11,(.box 209 [(.fn 153 [] [(.ptr 5 0),(.ptr 7 0)])]))],[(PV.rp (aH dl sk dc) 0)][0]? = some (PV.rp (aH dl sk dc) 0),some (.agg (([(aA y100),(aA y101)].drop 0).take 2):PV)=some (.agg [(aA y100),(aA y101)]),0+2≤[(aA y100),(aA y101)].length,[(PV.rp (aH dl sk dc) 0)][0]? = some (PV.rp (aH dl sk dc) 0)]) (by kernel_rfl) (gc aJa (gc aJb (gc (fv (aPq mx ([(1099511627776:Int)]:List Int) h3)) (gc aJa (gc aJb (gc h2 (gc (by first | decide | simp) (gc h1 (gc (FMM.fc (ids:=[5,6,7,8,9,10,11]) h0 (by kernel_rfl)) (gc (FMM.fcN (k:=7) rfl (ids:=[]) (pM (dl:=dl) (sk:=sk) (dc:=dc) (on:=x.length) (ol:=(x.map aA))) (by kernel_rfl)) (gc rfl (gc rfl (gc (by first | decide | simp) (gc rfl gn))))))))))))))
theorem bBu{aln:Nat}{alc:List PV}{i:Nat}{y100 y101:Int}{o102:List Int}{chn:Nat}{chc:List PV}{mn mx:Int}{x:List Int}{n200:Int}{b201:Bool}{T202:Lqb}{ch'n:Nat}{ch'c:List PV}{mn' mx':Int}(h0:aDt dl sk dc (aE x) [y100,y101] n200 b201 ([]:Lqb) T202)(h1:b201=false)(h2:[(aA n200),(blP b201),(aE x)].length=1*3∧chn+1≤1000000)(h3:([n200]:List Int).length≤1000)(ech'n:ch'n=(chn+1))(ech'c:ch'c=(chc++[(aA n200),(blP b201),(aE x)]))(emn':mn'=(if n200<mn then n200 else mn))(emx':mx'=(zA mx ([n200]:List Int))):aC Tp 5 (sub (cd Tryz.f161) [1,1,1,1,0,1,0,0,1,1,0,0,1,1,1,0,1,0,1]) (rfO (xK dl sk dc aln alc i y100 y101 o102 chn chc mn mx) 36 10 x) .normal (aRu dl sk dc aln alc i y100 y101 o102 ch'n ch'c mn' mx'):=by
 subst ech'n ech'c emn' emx'
 exact aC.fin (g:=⟨(rng [(0,1),(6,1),(10,12),(36,35)]),[13],[],[]⟩) (o:=[.g 2 ⟨[29],[],[4],[]⟩,.x (PV.rp (aH dl sk dc) 0),.x (.agg [(aA y100),(aA y101)]),.x (PV.rp (aH dl sk dc) 0),.c (.agg (kVL 9 10 5 7 11 6)) [(5,(vB0 dl sk dc)),(6,(.box 33 [(.p (aE x))])),(7,(.box 139 (kVL 9 10 5 7 11 6))),(8,(.mp (aG ([]:Lqb)) 0)),(9,(.box 207 [(.mp 8)])),(10,(vB5 dl sk dc)),(11,(.box 209 [(.fn 153 [] [(.ptr 5 0),(.ptr 7 0)])]))],.c (.tup [(pI n200),(pB b201)]) [(5,(vB0 dl sk dc)),(6,(.box 33 [(.p (aE x))])),(7,(.box 139 (kVL 9 10 5 7 11 6))),(8,(.mp (aG T202) T202.length)),(9,(.box 207 [(.mp 8)])),(10,(vB5 dl sk dc)),(11,(.box 209 [(.fn 153 [] [(.ptr 5 0),(.ptr 7 0)])]))],bF,.c (pI (zA mx ([n200]:List Int))) []]) (l:=[_,_,FC Tp 184 [(pI mx),(.own 15)] [(15,(.row 3 1 [(aA n200)]))] 16 (pI (zA mx ([n200]:List Int))) [],_,_,_,[(aA n200),(blP b201),(aE x)].length=3,_,FC Tp 134 [(.rp (aH dl sk dc) 0),(.p (.agg [(aA y100),(aA y101)])),(.agg (kVL 9 10 5 7 11 6))] [(9,(.box 207 [(.mp 8)])),(10,(vB5 dl sk dc)),(5,(vB0 dl sk dc)),(7,(.box 139 (kVL 9 10 5 7 11 6))),(11,(.box 209 [(.fn 153 [] [(.ptr 5 0),(.ptr 7 0)])])),(6,(.box 33 [(.p (aE x))])),(8,(.mp (aG ([]:Lqb)) 0))] 13 (.tup [(pI n200),(pB b201)]) [(5,(vB0 dl sk dc)),(6,(.box 33 [(.p (aE x))])),(7,(.box 139 (kVL 9 10 5 7 11 6))),(8,(.mp (aG T202) T202.length)),(9,(.box 207 [(.mp 8)])),(10,(vB5 dl sk dc)),(11,(.box 209 [(.fn 153 [] [(.ptr 5 0),(.ptr 7 0)])]))],FC Tp 87 [(.rp (aH dl sk dc) 0),(.p (aE x))] [] 5 (.agg (kVL 9 10 5 7 11 6)) [(5,(vB0 dl sk dc)),(6,(.box 33 [(.p (aE x))])),(7,(.box 139 (kVL 9 10 5 7 11 6))),(8,(.mp (aG ([]:Lqb)) 0)),(9,(.box 207 [(.mp 8)])),(10,(vB5 dl sk dc)),(11,(.box 209 [(.fn 153 [] [(.ptr 5 0),(.ptr 7 0)])]))],[(PV.rp (aH dl sk dc) 0)][0]? = some (PV.rp (aH dl sk dc) 0),some (.agg (([(aA y100),(aA y101)].drop 0).take 2):PV)=some (.agg [(aA y100),(aA y101)]),0+2≤[(aA y100),(aA y101)].length,[(PV.rp (aH dl sk dc) 0)][0]? = some (PV.rp (aH dl sk dc) 0)]) (by kernel_rfl) (gc aJa (gc aJb (gc (fv (aPq mx ([n200]:List Int) h3)) (gc aJa (gc aJb (gc h2 (gc (by first | decide | simp) (gc h1 (gc (FMM.fc (ids:=[5,6,7,8,9,10,11]) h0 (by kernel_rfl)) (gc (FMM.fcN (k:=7) rfl (ids:=[]) (pM (dl:=dl) (sk:=sk) (dc:=dc) (on:=x.length) (ol:=(x.map aA))) (by kernel_rfl)) (gc rfl (gc rfl (gc (by first | decide | simp) (gc rfl gn))))))))))))))
end
section
section
variable {α:Type} {E:α→List PV} {k:Nat}
theorem aUd(hE:∀ a,(E a).length=k)(l:List α):((l.map E).flatten).length=l.length*k:=by
 induction l with
 | nil=>simp
 | cons a l ih=>rw [iJ,vA,lG,hE,ih,pY,aDq];omega
theorem xL(hE:∀ a,(E a).length=k){l:List α}{i:Nat}{e:α}(h:l[i]? = some e):∃ a b,(l.map E).flatten=a++(E e++b)∧a.length=i*k:=by
 obtain ⟨hi,rfl⟩:=kQ3.1 h;refine ⟨((l.take i).map E).flatten,((l.drop (i+1)).map E).flatten,?_,?_⟩
 ·have:l=l.take i++(l[i]::l.drop (i+1)):=by rw [← bDv hi,aWc]
  have e2:=congrArg (fun l=>(l.map E).flatten) this
  simp only [hZ,iJ,bDy,vA] at e2
  exact e2
 ·rw [aUd hE,kY];congr 1;omega
theorem bBw{l:List α}{i f:Nat}(hE:∀ a,(E a).length=k){e:α}{x:PV}(h:l[i]? = some e)(hx:(E e)[f]? = some x):((l.map E).flatten)[i*k+f]? = some x:=by
 obtain ⟨a,b,e1,e2⟩:=xL hE h;have hf:=(kQ3.1 hx).1;rw [e1,← e2,yV (by omega),Nat.add_sub_cancel_left,yW hf]
 exact hx
theorem tX{l:List α}{i:Nat}(hE:∀ a,(E a).length=k){e:α}(h:l[i]? = some e):i*k+k≤((l.map E).flatten).length:=by
 obtain ⟨a,b,e1,e2⟩:=xL hE h;rw [e1,lG,lG,hE,e2];omega
theorem mG{l:List α}{i:Nat}(hE:∀ a,(E a).length=k){e:α}(h:l[i]? = some e){x:PV}(hx:PV.agg (E e)=x):some (.agg ((((l.map E).flatten).drop (i*k)).take k):PV)=some x:=by
 obtain ⟨a,b,e1,e2⟩:=xL hE h;rw [e1,← e2,List.drop_left,List.take_left' (hE e),hx]
theorem rH{l:List α}{i:Int}(hE:∀ a,(E a).length=k)(hk:0<k)(h0:0≤i){e:α}(h:l[i.toNat]? = some e):0≤i∧i<(l.length:Int)∧i.toNat*k<((l.map E).flatten).length:=by
 have hi:=(kQ3.1 h).1;refine ⟨h0,by omega,?_⟩
 rw [aUd hE];exact Nat.mul_lt_mul_of_pos_right hi hk
end
end
section
abbrev bX:=Int × Bool × List Int
abbrev fD:=List bX × Int × Int
def hpE(h:fD):List PV:=[.sl h.1.length (h.1.map chE).flatten,aA h.2.1,aA h.2.2]
abbrev far:Int:=1099511627776
def chM(dl:Int)(dc:Lqq)(s0 s1:Int)(q:List Int):bX:=(if (dJ dl q dc s0 s1).2 then far else (dJ dl q dc s0 s1).1,(dJ dl q dc s0 s1).2,q)
def mnM(l:List bX):Int:=l.foldl (fun m x=>if x.1<m then x.1 else m) far
def mxM(l:List bX):Int:=l.foldl (fun m x=>if x.1 > m then x.1 else m) 0
def iG(dl:Int)(dc:Lqq)(s0 s1:Int)(o:List Int):fD:=((fG o).map (chM dl dc s0 s1),mnM ((fG o).map (chM dl dc s0 s1)),mxM ((fG o).map (chM dl dc s0 s1)))
def zC(dc:Lqq)(n:Int):Int:=match ofN dc n with
 | some x=>eO dc x
 | none=>0
def lC(dl:Int)(dc:Lqq)(bib:Int):List Int:=(aI dl dc).filter fun n => !(zC dc n != bib)
def aX(dl:Int)(sk dc:Lqq):List fD:=sk.map fun s=>iG dl dc (s.getD 0 0) (s.getD 1 0) (lC dl dc (s.getD 0 0))
theorem aUc(x:bX):jV (chE x)=true:=by
 obtain ⟨a,b,l⟩:=x;show (nmP (aA a) && (nmP (blP b) && (nmP (aE l) && true)))=true;have h:nmP (aE l)=true:=by
  show jV (l.map aA)=true;exact aBp aA (fun _=>rfl) l
 rw [h];rfl
theorem yP:∀ (a b:List PV),jV (a++b)=(jV a && jV b)
 | [],b=>rfl
 | x::a,b=>by
  show (nmP x && jV (a++b))=((nmP x && jV a) && jV b);rw [yP a b,Bool.and_assoc]
theorem sE{α:Type}{E:α→List PV}(h:∀ a,jV (E a)=true):∀ l:List α,jV (l.map E).flatten=true
 | []=>rfl
 | a::l=>by rw [iJ,vA,yP,h a,sE h l];rfl
theorem bNx(x:fD):jV (hpE x)=true:=by
 obtain ⟨l,a,b⟩:=x;show (jV (l.map chE).flatten && (nmP (aA a) && (nmP (aA b) && true)))=true;rw [sE aUc];rfl
def bWg(dl:Int)(sk dc:Lqq)(al:List fD)(i:Nat)(y0 y1:Int)(o:List Int)(l:List bX):St:=xK dl sk dc al.length (al.map hpE).flatten i y0 y1 o l.length (l.map chE).flatten (mnM l) (mxM l)
def bXu(dl:Int)(sk dc:Lqq)(al:List fD)(i:Nat)(y0 y1:Int)(o:List Int)(l:List bX):St:=aRu dl sk dc al.length (al.map hpE).flatten i y0 y1 o l.length (l.map chE).flatten (mnM l) (mxM l)
theorem bNy(l:List bX)(c:bX):(l++[c]).length=l.length+1∧((l++[c]).map chE).flatten=(l.map chE).flatten++chE c∧mnM (l++[c])=(if c.1<mnM l then c.1 else mnM l)∧mxM (l++[c])=zA (mxM l) [c.1]:=by
 refine ⟨by simp,by simp,?_,?_⟩
 ·unfold mnM;rw [aHe];rfl
 ·unfold mxM;rw [aHe];rfl
theorem bBp{dl:Int}{sk dc:Lqq}(hd:bZ dc){al:List fD}{i:Nat}{y0 y1:Int}(hs : -1≤y1∧y1≤360000){o:List Int}{l:List bX}(hl:l.length+1≤1000000){x:List Int}(hx:x.length≤1000) :
  aC Tp 5 (sub (cd Tryz.f161) [1,1,1,1,0,1,0,0,1,1,0,0,1,1,1,0,1,0,1]) (rfO (bWg dl sk dc al i y0 y1 o l) 36 10 x) .normal (bXu dl sk dc al i y0 y1 o (l++[chM dl dc y0 y1 x])):=by
 obtain ⟨T',_,hT⟩:=bEx (sk:=sk) hd (fun n=>aBw hx n) y0 y1 hs (T:=[]) cK.nil
 obtain ⟨e1,e2,e3,e4⟩:=bNy l (chM dl dc y0 y1 x);cases hb:(dJ dl x dc y0 y1).2 with
 | true =>
  have ec:chM dl dc y0 y1 x=(far,true,x):=by unfold chM;rw [hb];rfl
  rw [hb] at hT
  rw [ec] at e1 e2 e3 e4 ⊢
  exact bBt hT rfl ⟨rfl,hl⟩ (by simp) e1 e2 e3 e4
 | false =>
  have ec:chM dl dc y0 y1 x=((dJ dl x dc y0 y1).1,false,x):=by unfold chM;rw [hb];rfl
  rw [hb] at hT
  rw [ec] at e1 e2 e3 e4 ⊢
  exact bBu hT rfl ⟨rfl,hl⟩ (by simp) e1 e2 e3 e4
theorem bBq{dl:Int}{sk dc:Lqq}(hd:bZ dc){al:List fD}{i:Nat}{y0 y1:Int}(hs : -1≤y1∧y1≤360000){o:List Int}(ho:o.length≤8) :
  aC Tp 0 (sub (cd Tryz.f161) [1,1,1,1,0,1,0,0,1,1,0,0,1,1,1,0,1,0]) (aJc dl sk dc al.length (al.map hpE).flatten i y0 y1 o) .normal (bWg dl sk dc al i y0 y1 o ((fG o).map (chM dl dc y0 y1))):=by
 have hp:(2:Nat) ^ o.length≤256:=gK (Nat.pow_le_pow_right (by omega) ho) (by decide)
 refine (aFi (P:=Tp) (k:=0) (kb:=5) (kk:=3) (g0:=⟨[],[3],[],[(102000,197)]⟩) (g1:=⟨[],[5],[],[]⟩) (aJc dl sk dc al.length (al.map hpE).flatten i y0 y1 o)
  (fun pre=>bWg dl sk dc al i y0 y1 o (pre.map (chM dl dc y0 y1))) (fun pre l=>bXu dl sk dc al i y0 y1 o ((pre++[l]).map (chM dl dc y0 y1))) (fun _ _=>⟨[],[]⟩) _ [] (fun _ _=>false)
  (cc := sub (cd Tryz.f161) [1, 1, 1, 1, 0, 1, 0, 0, 1, 1, 0, 0, 1, 1, 1, 0, 1, 0]) (gi := 35) (p1 := 36) (d := 10) (id := 11) (ty := 33) (pos := "outcome.go:71") (body := sub (cd Tryz.f161) [1, 1, 1, 1, 0, 1, 0, 0, 1, 1, 0, 0, 1, 1, 1, 0, 1, 0, 1]) (by kernel_rfl)
  rfl (fun _=>rfl) (g := .fn 182 [] [.rp [aE o] 0]) (by rfl) (aFg o (by omega)) (fun args w=>rfl) (fun _=>rfl) (fun pre => ?_) (fun _ _=>rfl) (fun _ _=>rfl) rfl rfl (fun _=>by show 4<5;omega) (by kernel_rfl) (fun x=>rfl) (by show 3≤3;omega) rfl (by kernel_rfl) (fun pre l=>by kernel_rfl) (fun _ _ h=>by cases h) (gR:=⟨[],[],[],[]⟩) (fun pre l hpl hx=>⟨fun _ => ?_,fun h=>by cases h⟩)).1 (fun _ _ _=>rfl)
 ·show (jV (al.map hpE).flatten && (jV [] && (jV ((pre.map (chM dl dc y0 y1)).map chE).flatten && true)))=true
  rw [sE bNx,sE aUc];rfl
 ·have:=bBp (dl:=dl) (y0:=y0) (sk:=sk) hd (al:=al) (i:=i) hs (o:=o) (l:=pre.map (chM dl dc y0 y1)) (by rw [kQ9];omega) hx
  rw [hZ];exact this
end
section
theorem bWe{dl:Int}{sk dc:Lqq}(hd:bZ dc){bib tm n:Int}(hn:n∈aI dl dc):aPd dl sk dc bib tm n (zC dc n != bib):=fun base=>by
 unfold aI at hn
 obtain ⟨x,hx,rfl⟩:=dF.1 hn;have hx:=(vB.1 hx).1;have hr:=dS hd hx;have hs:zC dc (dN x)=eO dc x:=by unfold zC;rw [rY hd hx]
 rw [hs];obtain ⟨h1,h2⟩:=aHt hd hx;have hk:=pJ hd (n:=dN x) (by unfold inR;omega)
 have hab:=kM hd x hx;obtain ⟨a,b,c,d,e,f,rfl⟩:=len6 (hd.ud x hx);have hf:inR f:=by
  have:=(iV.1 (hd.rng _ hx));unfold inR;simp [dAb] at this hab ⊢;omega
 exact bQm hk h1 h2 (fun base=>aPp hd hf (.inl hx) hr.2) rfl
theorem bHf(dl:Int)(dc:Lqq)(b:Int):(lC dl dc b).length≤(aI dl dc).length:=uZ _ _
theorem bNw{dl:Int}{sk dc:Lqq}(hd:bZ dc)(hu:uni 2 sk)(hl:sk.length≤1000)(hs:∀ s∈sk,-1≤s.getD 1 0∧s.getD 1 0≤360000)(ho:(aI dl dc).length≤8) :
  aJ Tp 0 (sub (cd Tryz.f161) [1,1,1,1,0,1,0,0]) (mF dl sk dc 0 [] 0) (.exit 0) (mF dl sk dc (aX dl sk dc).length ((aX dl sk dc).map hpE).flatten sk.length):=by
 obtain ⟨acc,hI,hL⟩:=aJ.ex (P:=Tp) (k:=0) (b:=sub (cd Tryz.f161) [1,1,1,1,0,1,0,0]) (e := .exit 0) (fun i (al:List fD)=>mF dl sk dc al.length (al.map hpE).flatten i) (fun al=>mF dl sk dc al.length (al.map hpE).flatten sk.length) (fun i al=>al=aX dl (sk.take i) dc) (by simp) sk.length
  (fun i al hi hal=>by
   obtain ⟨x,hx⟩:∃ x,sk[i]? = some x:=⟨_,kQ0 hi⟩;have hm:=kQ5 hx;have hsx:=hs x hm;obtain ⟨y0,y1,rfl⟩:=len2 (hu x hm);have hlen:al.length=i:=by rw [hal];unfold aX;rw [kQ9,kY];omega
   refine ⟨al++[iG dl dc y0 y1 (lC dl dc y0)],?_,bBr (o102:=lC dl dc y0) (by omega) hx hu (by omega) (bQl (by omega) fun n hn=>bWe hd hn) (bBq hd hsx (gK (bHf dl dc y0) ho)) ⟨rfl,by omega⟩ (aP (by omega)) (by simp) (by simp only [hZ,iJ,List.map_nil,bDy,vA,List.flatten_nil,List.append_nil];rfl) rfl⟩
   rw [hal];unfold aX;rw [List.take_add_one,hx];simp)
  (fun al _=>bBs (by omega)) (acc:=[]) (by simp [aX])
 rw [List.take_length] at hI
 rw [← hI];exact hL
theorem bWf{dl:Int}{sk dc:Lqq}(hd:bZ dc)(hu:uni 2 sk)(hl:sk.length≤1000)(hs:∀ s∈sk,-1≤s.getD 1 0∧s.getD 1 0≤360000)(ho:(aI dl dc).length≤8){base:Nat} :
  FV Tp 161 [pV dl sk dc] base (.tup [.own base,.p (aA 0)]) [(base,.row 195 (aX dl sk dc).length ((aX dl sk dc).map hpE).flatten)]:=bWh hd (by omega) (bNw hd hu hl hs ho)
end
end KV
end Go.Proofs
section
namespace Go.Proofs
open Go.Shelf
def Tryz.lays189_ren:Go.Shelf.Ren:=⟨fun | 189=>57 | 125=>131 | 257=>130 | 128=>180 | 129=>181 | 294=>171 | 295=>172 | 296=>173 | 297=>174 | 298=>175 | 299=>176 | 216=>177 | 300=>178 | 301=>179 | 328=>207 | 329=>208 | 330=>209 | 331=>210 | 332=>211 | 215=>168 | 343=>224 | n=>n,fun | 28=>33 | 3=>3 | 46=>172 | 0=>0 | 51=>127 | 53=>225 | 4=>4 | 183=>218 | 182=>217 | 131=>106 | 5=>5 | 9=>9 | 218=>245 | 222=>249 | 228=>257 | 229=>198 | n=>n,fun | n=>n⟩
theorem Tryz.lays189:Go.Proofs.Lays.n189 Tryz.prog Tryz.lays189_ren:={
 mixed:=by kernel_rfl
 f125:=Tryz.func131.trans (congrArg some (by kernel_rfl))
 f128:=Tryz.func180.trans (congrArg some (by kernel_rfl))
 f129:=Tryz.func181.trans (congrArg some (by kernel_rfl))
 f189:=Tryz.func57.trans (congrArg some (by kernel_rfl))
 f215:=Tryz.func168.trans (congrArg some (by kernel_rfl))
 f216:=Tryz.func177.trans (congrArg some (by kernel_rfl))
 f257:=Tryz.func130.trans (congrArg some (by kernel_rfl))
 f294:=Tryz.func171.trans (congrArg some (by kernel_rfl))
 f295:=Tryz.func172.trans (congrArg some (by kernel_rfl))
 f296:=Tryz.func173.trans (congrArg some (by kernel_rfl))
 f297:=Tryz.func174.trans (congrArg some (by kernel_rfl))
 f298:=Tryz.func175.trans (congrArg some (by kernel_rfl))
 f299:=Tryz.func176.trans (congrArg some (by kernel_rfl))
 f300:=Tryz.func178.trans (congrArg some (by kernel_rfl))
 f301:=Tryz.func179.trans (congrArg some (by kernel_rfl))
 f328:=Tryz.func207.trans (congrArg some (by kernel_rfl))
 f329:=Tryz.func208.trans (congrArg some (by kernel_rfl))
 f330:=Tryz.func209.trans (congrArg some (by kernel_rfl))
 f331:=Tryz.func210.trans (congrArg some (by kernel_rfl))
 f332:=Tryz.func211.trans (congrArg some (by kernel_rfl))
 f343:=Tryz.func224.trans (congrArg some (by kernel_rfl))
 t0:=Tryz.underlying0
 a0:=Tryz.isAgg0
 z0:=Tryz.sizeOf0
 v0:=Tryz.zeroValue0
 t3:=Tryz.underlying3
 a3:=Tryz.isAgg3
 z3:=Tryz.sizeOf3
 v3:=Tryz.zeroValue3
 t4:=Tryz.underlying4
 a4:=Tryz.isAgg4
 z4:=Tryz.sizeOf4
 v4:=Tryz.zeroValue4
 t5:=Tryz.underlying5
 a5:=Tryz.isAgg5
 z5:=Tryz.sizeOf5
 v5:=Tryz.zeroValue5
 t9:=Tryz.underlying9
 a9:=Tryz.isAgg9
 z9:=Tryz.sizeOf9
 v9:=Tryz.zeroValue9
 t28:=Tryz.underlying33
 a28:=Tryz.isAgg33
 z28:=Tryz.sizeOf33
 v28:=Tryz.zeroValue33
 t46:=Tryz.underlying172
 a46:=Tryz.isAgg172
 z46:=Tryz.sizeOf172
 v46:=Tryz.zeroValue172
 t51:=Tryz.underlying127
 a51:=Tryz.isAgg127
 z51:=Tryz.sizeOf127
 v51:=Tryz.zeroValue127
 t53:=Tryz.underlying225
 a53:=Tryz.isAgg225
 z53:=Tryz.sizeOf225
 v53:=Tryz.zeroValue225
 t131:=Tryz.underlying106
 a131:=Tryz.isAgg106
 z131:=Tryz.sizeOf106
 v131:=Tryz.zeroValue106
 t182:=Tryz.underlying217
 a182:=Tryz.isAgg217
 z182:=Tryz.sizeOf217
 v182:=Tryz.zeroValue217
 t183:=Tryz.underlying218
 a183:=Tryz.isAgg218
 z183:=Tryz.sizeOf218
 v183:=Tryz.zeroValue218
 t218:=Tryz.underlying245
 a218:=Tryz.isAgg245
 z218:=Tryz.sizeOf245
 v218:=Tryz.zeroValue245
 t222:=Tryz.underlying249
 a222:=Tryz.isAgg249
 z222:=Tryz.sizeOf249
 v222:=Tryz.zeroValue249
 t228:=Tryz.underlying257
 a228:=Tryz.isAgg257
 z228:=Tryz.sizeOf257
 v228:=Tryz.zeroValue257
 t229:=Tryz.underlying198
 a229:=Tryz.isAgg198
 z229:=Tryz.sizeOf198
 v229:=Tryz.zeroValue198 }
open Go.Sort Go.RowKit in
theorem Tryz.slices_Sort_int(blk off cap:Nat)(zs:List Int)(w:World)(hH:Holds (Value.int .i64) w blk off zs.toArray)(hblk:blk<w.heap.size)(hsz:zs.length<4611686018427387904) :
  Calls Tryz.prog 57 #[.slice (some ⟨blk,off,none⟩) zs.length cap] w fun e w' =>
   e = .returned (.tuple #[])∧∃ n os,w'=grow (putRow (Value.int .i64) (Sort.ahead w n) blk off (zs.mergeSort fun x y=>decide (x≤y)).toArray) os:=Any.slices_Sort_int Tryz.lays189 blk off cap zs w hH hblk hsz
def Tryz.laysNm220_ren:Go.Shelf.Ren:=⟨fun | 20=>186 | n=>n,fun | 22=>33 | 3=>3 | 4=>4 | 0=>0 | n=>n,fun | n=>n⟩
theorem Tryz.laysNm220:Go.Proofs.Lays2.n20 Tryz.prog Tryz.laysNm220_ren:={
 mixed:=by kernel_rfl
 f20:=Tryz.func186.trans (congrArg some (by kernel_rfl))
 t0:=Tryz.underlying0
 a0:=Tryz.isAgg0
 z0:=Tryz.sizeOf0
 v0:=Tryz.zeroValue0
 t3:=Tryz.underlying3
 a3:=Tryz.isAgg3
 z3:=Tryz.sizeOf3
 v3:=Tryz.zeroValue3
 t4:=Tryz.underlying4
 a4:=Tryz.isAgg4
 z4:=Tryz.sizeOf4
 v4:=Tryz.zeroValue4
 t22:=Tryz.underlying33
 a22:=Tryz.isAgg33
 z22:=Tryz.sizeOf33
 v22:=Tryz.zeroValue33
 i3:=by kernel_rfl }
open Go.RowKit Go.Lib Go.Sort in
theorem Tryz.slices_Compact_int(blk off cap:Nat)(zs:List Int)(w:World)(hH:Holds (Value.int .i64) w blk off zs.toArray)(hsz:zs.length≤9223372036854775807)(hcap:zs.length≤cap) :
  Calls Tryz.prog 186 #[.slice (some ⟨blk,off,none⟩) zs.length cap] w fun e w'=>e = .returned (.slice (some ⟨blk,off,none⟩) (Lib.compact zs).length cap)∧∃ q,w'=putRow (Value.int .i64) (Sort.ahead w q) blk off (Lib.compact zs++List.replicate (zs.length-(Lib.compact zs).length) 0).toArray:=Any.slices_Compact_int Tryz.laysNm220 blk off cap zs w hH hsz hcap
open Go.RowKit Go.Lib Go.Sort in
theorem Tryz.slices_Compact_int_empty(a:Option Addr)(cap:Nat)(w:World) :
  Calls Tryz.prog 186 #[.slice a 0 cap] w fun e w'=>e = .returned (.slice a 0 cap)∧w'=w:=Any.slices_Compact_int_empty Tryz.laysNm220 a cap w
theorem Tryz.slices_Sort_int_none(p:Option Addr)(cap:Nat)(w:World) :
  Calls Tryz.prog 57 #[.slice p 0 cap] w fun e w'=>e = .returned (.tuple #[])∧w'=w:=Any.slices_Sort_int_none Tryz.lays189 p cap w
end Go.Proofs
end
section
namespace Go.Proofs
open Go.RowKit Go.Lib Go.Sort
namespace KL
def OwnI(w:World)(base:Nat)(v:Value)(l:List Int):Prop:=w.ownsRow base 3 1 v l.length (l.map (Value.int .i64))

def leB:Int→Int→Bool:=fun x y=>decide (x≤y)

theorem bHi(base:Nat)(v:Value)(l:List Int)(w:World)(hv:OwnI w base v l)(hlen:l.length≤1000000) :
  Calls Tryz.prog 57 #[v] w fun e w'=>e = .returned (.tuple #[])∧OwnI w' base v (l.mergeSort leB)∧w.grownBy w' v.ownBlock:=by
 have hown:=hv
 rcases hv.2 with ⟨rfl,h0⟩ | ⟨g,cap,cur,rfl,hb,hg,hn,hm,hs,ht⟩
 ·have:l=[]:=List.eq_nil_of_length_eq_zero h0
  subst this;refine (Tryz.slices_Sort_int_none none 0 w).mono ?_;rintro e w' ⟨rfl,rfl⟩;exact ⟨rfl,by simpa using hown,World.grownBy.refl _ _⟩
 ·have hlt:=lt_of_block hg
  refine (Tryz.slices_Sort_int g 0 cap l w (holds_of_blockI hg (by simpa using ht)) hlt (by omega)).mono ?_
  rintro e w' ⟨rfl,n,os,rfl⟩;refine ⟨rfl,?_,grownBy_sortedI _⟩;have hl:(l.mergeSort leB).length=l.length:=List.length_mergeSort l;unfold OwnI;rw [hl];exact ownsRow_sortedI hl hb hg hn hm hs

end KL
open KL
namespace KV
open Go.Shelf
variable {P:Program} {C:Cx} {M:Mem} {w w':World}
abbrev nS(l:List Int):AO := .row 3 l.length (l.map aA)
theorem bHj{F:Nat→Prop}{cur:Array Value}{l:List Int}(hle:l.length≤cur.size)(h:∀ j (hj:j<(l.map aA).length),cM F w (l.map aA)[j] (cur.getD j undef)):cur.toList.take l.length=l.map (Value.int .i64):=by
 apply List.ext_getElem
 ·simp;omega
 ·intro i h1 h2
  have hi:i<l.length:=by simpa using h2
  have:=h i (by simpa using hi)
  rw [List.getElem_map] at this
  rw [List.getElem_map,List.getElem_take];cases hx:cur.getD i undef with
  | int k z =>
   rw [hx] at this
   cases this;rw [Array.getD_eq_getD_getElem?,Array.getElem?_eq_getElem (by omega)] at hx
   simpa using hx
  | _=>rw [hx] at this;cases this
theorem aMs(F:Nat→Prop){cur:Array Value}{l:List Int}(h:cur.toList.take l.length=l.map (Value.int .i64)):(∀ j (hj:j<(l.map aA).length),cM F w (l.map aA)[j] (cur.getD j undef))∧∀ j,j<(l.map aA).length→(cur.getD j undef).oneCell'=true:=by
 have key:∀ j (hj:j<l.length),cur.getD j undef = .int .i64 l[j]:=fun j hj=>by
  have h1:=congrArg (fun x=>x[j]?) h
  simp only [List.getElem?_take,hj,if_true,List.getElem?_map,List.getElem?_eq_getElem hj,Option.map_some,Array.getElem?_toList] at h1
  rw [Array.getD_eq_getD_getElem?,h1];rfl
 refine ⟨fun j hj => ?_,fun j hj => ?_⟩
 ·have hj':j<l.length:=by simpa using hj
  rw [List.getElem_map,key j hj'];exact .v _
 ·rw [key j (by simpa using hj)];rfl

theorem size3:∃ i,Tryz.prog.info? 3=some i∧i.size=1:=sC (show (Tryz.prog.info? 3).map (fun i=>i.size)=some 1 by kernel_rfl)
theorem bHk{id:Nat}{l:List Int}{u:Value}(hM:aR Tryz.prog C M w)(ho:M[id]? = some (some (nS l)))(h:Rep C M w (.own id) u):OwnI w 0 u l:=by
 refine ⟨by simp,?_⟩
 cases h with
 | own _ _ h0 ha hr =>
  rcases hr _ _ _ ho with ⟨rfl,_,hn⟩ | ⟨b,rfl,hb⟩
  ·exact .inl ⟨rfl,hn⟩
  ·rcases hM.row _ _ _ _ ho with ⟨hn',_⟩ | ⟨b',arr,inf,hb',q1,q2,q3,q4,q5,q6,q7,q8⟩
   ·rw [hb] at hn';cases hn'
   ·rw [hb] at hb';cases hb'
    obtain ⟨i,hi,hs⟩:=size3;rw [hi] at q2;cases q2
    exact .inr ⟨b,_,arr,rfl,Nat.zero_le _,q1,q5,q6,by rw [q3,hs],by rw [Nat.mul_one];exact bHj (by rw [q3,hs];omega) q7⟩

theorem aFy{l l':List Int}{u u':Value}{d:Bool}(hM:aR Tryz.prog C [some (nS l)] w)(h:Rep C [some (nS l)] w (.own 0) u)(hown:OwnI w' 0 u' l')(hg:w.grownBy w' u.ownBlock)
  (hb:u'.ownBlock=u.ownBlock) (hd:d=false→u'=u∧l'.length=l.length) :
  ∃ C',Fr C [some (nS l)] w C' (if d then [some .dead,some (nS l')] else [some (nS l')]) w'∧aR Tryz.prog C' (if d then [some .dead,some (nS l')] else [some (nS l')]) w'∧Rep C' (if d then [some .dead,some (nS l')] else [some (nS l')]) w' (.own (if d then 1 else 0)) u':=by
 have at0:∀ (id:Nat) (o:AO),([some (nS l)]:Mem)[id]? = some (some o)→id=0∧o=nS l:=fun id o h=>by
  cases id with
  | zero=>simp at h;exact ⟨rfl,h.symm⟩
  | succ i=>simp at h
 have hblk:∀ b,C.ι 0=some b→u.ownBlock=some b∧∃ cap,u = .slice (some ⟨b,0,none⟩) l.length cap∧cap=C.κ 0:=fun b hb0=>by
  cases h with
  | own _ _ h0 ha hr =>
   rcases hr _ _ _ rfl with ⟨_,hn,_⟩ | ⟨b',rfl,hb'⟩
   ·rw [hb0] at hn;cases hn
   ·rw [hb0] at hb';cases hb';exact ⟨rfl,_,rfl,rfl⟩
 have hnb:C.ι 0=none→u = .slice none 0 0:=fun hn=>by
  cases h with
  | own _ _ h0 ha hr =>
   rcases hr _ _ _ rfl with ⟨hu,_,_⟩ | ⟨b',rfl,hb'⟩
   ·exact hu
   ·rw [hn] at hb';cases hb'
 have hkeep:∀ b,b<w.heap.size→(∀ (id:Nat) (o:AO),([some (nS l)]:Mem)[id]? = some (some o)→o.live=true→C.ι id≠some b)→w'.heap[b]? = w.heap[b]? := fun b hb1 hn=>by
  refine hg.block b hb1 fun he => ?_
  cases hι:C.ι 0 with
  | none=>rw [hnb hι] at he;cases he
  | some b' =>
   rw [(hblk b' hι).1] at he;cases he
   exact hn 0 _ rfl rfl hι
 have hFz:∀ b,C.F b→w'.heap[b]? = w.heap[b]? := fun b hf=>hkeep b (hM.Fs b hf) fun id o hm hl he=>hM.nF id o b hm hl he hf
 cases d with
 | false =>
  obtain ⟨rfl,hlen⟩:=hd rfl;simp only [Bool.false_eq_true,if_false];have at1:∀ (id:Nat) (o:AO),([some (nS l')]:Mem)[id]? = some (some o)→id=0∧o=nS l':=fun id o h=>by
   cases id with
   | zero=>simp at h;exact ⟨rfl,h.symm⟩
   | succ i=>simp at h
  have hblk':∀ b,C.ι 0=some b→∃ cur,w'.heap[b]? = some (.cells cur 3 (0,0))∧l'.length≤C.κ 0∧C.κ 0≤maxLen∧cur.size=C.κ 0∧cur.toList.take l'.length=l'.map (Value.int .i64):=fun b hι=>by
   obtain ⟨_,cap,hu,hc⟩:=hblk b hι
   rcases hown.2 with ⟨he,_⟩ | ⟨g,cap',cur,hv,_,hh,r1,r2,r3,r4⟩
   ·rw [hu] at he;cases he
   ·rw [hu] at hv
    obtain ⟨e1,_,e3⟩:=Value.slice.inj hv;cases e1;subst e3;subst hc;exact ⟨cur,hh,r1,r2,by omega,by simpa using r4⟩
  refine ⟨C,⟨hg.os,hg.tape,hg.output,hg.size,hkeep,fun id o hm => ?_,fun id o hm ty n cs hx => ?_,fun id o hm o' hx hl => ?_,fun id o b hm hl hb => ?_,fun _ h=>h,fun _ h => .inl h⟩,
   ⟨fun id ty n cs hm => ?_,fun id ty cs hm => ?_,fun id es cl hm => ?_,fun id id' o o' b h1 _ h2 _ _ _ => ?_,fun id o b hm hl hb => ?_,fun b hb=>Nat.lt_of_lt_of_le (hM.Fs b hb) hg.size,fun id o b hm hl hb => ?_⟩,?_⟩
  ·obtain ⟨rfl,rfl⟩:=at0 id o hm
   exact ⟨⟨_,rfl⟩,rfl,rfl⟩
  ·obtain ⟨rfl,rfl⟩:=at0 id o hm
   obtain ⟨_,he⟩:=at1 _ _ hx;cases he;exact ⟨l.map aA,by rw [hlen];rfl⟩
  ·obtain ⟨rfl,rfl⟩:=at0 id o hm
   rfl
  ·obtain ⟨rfl,rfl⟩:=at1 id o hm
   exact .inr ⟨0,_,rfl,rfl,hb⟩
  ·obtain ⟨rfl,he⟩:=at1 id _ hm
   cases he;cases hι:C.ι 0 with
   | none =>
    have:=hnb hι
    rcases hown.2 with ⟨_,h0⟩ | ⟨g,cap',cur,hv,_⟩
    ·have:l'=[]:=List.eq_nil_of_length_eq_zero h0
     subst this;exact .inl ⟨rfl,rfl,rfl⟩
    ·rw [this] at hv;cases hv
   | some b =>
    obtain ⟨cur,q1,q2,q3,q4,q5⟩:=hblk' b hι;obtain ⟨i,hi,hs⟩:=size3;obtain ⟨r1,r2⟩:=aMs (w:=w') C.F q5;exact .inr ⟨b,cur,i,rfl,q1,hi,by rw [hs,q4,Nat.mul_one],by simp [hs],q2,q3,r1,r2⟩
  ·obtain ⟨_,he⟩:=at1 id _ hm;cases he
  ·obtain ⟨_,he⟩:=at1 id _ hm;cases he
  ·obtain ⟨rfl,_⟩:=at1 id _ h1
   obtain ⟨rfl,_⟩:=at1 id' _ h2;rfl
  ·obtain ⟨rfl,_⟩:=at1 id _ hm
   exact hM.nF 0 _ b rfl rfl hb
  ·obtain ⟨rfl,_⟩:=at1 id _ hm
   exact Nat.lt_of_lt_of_le (hM.lt 0 _ b rfl rfl hb) hg.size
  ·cases h with
   | own _ _ h0 ha hr =>
    refine .own 0 _ h0 ⟨_,rfl⟩ fun ty n cs hx => ?_
    obtain ⟨_,he⟩:=at1 0 _ hx;cases he
    rcases hr _ _ _ rfl with ⟨q1,q2,q3⟩ | ⟨b,q1,q2⟩
    ·exact .inl ⟨q1,q2,by omega⟩
    ·exact .inr ⟨b,by rw [q1,hlen],q2⟩
 | true =>
  simp only [if_true]
  let cap':Nat:=match u' with | .slice _ _ c=>c | _=>0
  have at1:∀ (id:Nat) (o:AO),([some .dead,some (nS l')]:Mem)[id]? = some (some o)→(id=0∧o = .dead)∨(id=1∧o=nS l'):=fun id o h=>by
   match id,h with
   | 0,h=>simp at h;exact .inl ⟨rfl,h.symm⟩
   | 1,h=>simp at h;exact .inr ⟨rfl,h.symm⟩
   | i+2,h=>simp at h
  refine ⟨{ ι:=fun i=>if i=1 then u'.ownBlock else C.ι i,κ:=fun i=>if i=1 then cap' else C.κ i,F:=C.F },⟨hg.os,hg.tape,hg.output,hg.size,hkeep,fun id o hm => ?_,fun id o hm ty n cs hx => ?_,fun id o hm o' hx hl => ?_,fun id o b hm hl hbb => ?_,fun _ h=>h,fun _ h => .inl h⟩,
   ⟨fun id ty n cs hm => ?_,fun id ty cs hm => ?_,fun id es cl hm => ?_,fun id id' o o' b h1 l1 h2 l2 _ _ => ?_,fun id o b hm hl hbb => ?_,fun b hb=>Nat.lt_of_lt_of_le (hM.Fs b hb) hg.size,fun id o b hm hl hbb => ?_⟩,?_⟩
  ·obtain ⟨rfl,rfl⟩:=at0 id o hm
   exact ⟨⟨_,rfl⟩,rfl,rfl⟩
  ·obtain ⟨rfl,rfl⟩:=at0 id o hm
   rcases at1 _ _ hx with ⟨_,he⟩ | ⟨he,_⟩
   ·cases he
   ·cases he
  ·obtain ⟨rfl,rfl⟩:=at0 id o hm
   rfl
  ·rcases at1 id o hm with ⟨rfl,rfl⟩ | ⟨rfl,rfl⟩
   ·cases hl
   ·simp only [if_true] at hbb
    rw [hb] at hbb
    cases hι:C.ι 0 with
    | none=>rw [hnb hι] at hbb;cases hbb
    | some b' =>
     rw [(hblk b' hι).1] at hbb;cases hbb
     exact .inr ⟨0,_,rfl,rfl,hι⟩
  ·rcases at1 id _ hm with ⟨_,he⟩ | ⟨rfl,he⟩
   ·cases he
   ·cases he
    simp only [if_true]
    rcases hown.2 with ⟨rfl,h0⟩ | ⟨g,cp,cur,rfl,_,hh,r1,r2,r3,r4⟩
    ·have:l'=[]:=List.eq_nil_of_length_eq_zero h0
     subst this;exact .inl ⟨rfl,rfl,rfl⟩
    ·obtain ⟨i,hi,hs⟩:=size3
     obtain ⟨q1,q2⟩:=aMs (w:=w') C.F (by simpa using r4)
     exact .inr ⟨g,cur,i,rfl,hh,hi,by rw [hs];exact r3,by simp [hs],r1,r2,q1,q2⟩
  ·rcases at1 id _ hm with ⟨_,he⟩ | ⟨_,he⟩ <;> cases he
  ·rcases at1 id _ hm with ⟨_,he⟩ | ⟨_,he⟩ <;> cases he
  ·rcases at1 id _ h1 with ⟨_,rfl⟩ | ⟨rfl,_⟩
   ·cases l1
   ·rcases at1 id' _ h2 with ⟨_,rfl⟩ | ⟨rfl,_⟩
    ·cases l2
    ·rfl
  ·rcases at1 id _ hm with ⟨_,rfl⟩ | ⟨rfl,_⟩
   ·cases hl
   ·simp only [if_true] at hbb
    rw [hb] at hbb
    cases hι:C.ι 0 with
    | none=>rw [hnb hι] at hbb;cases hbb
    | some b' =>
     rw [(hblk b' hι).1] at hbb;cases hbb
     exact hM.nF 0 _ _ rfl rfl hι
  ·rcases at1 id _ hm with ⟨_,rfl⟩ | ⟨rfl,_⟩
   ·cases hl
   ·simp only [if_true] at hbb
    rw [hb] at hbb
    cases hι:C.ι 0 with
    | none=>rw [hnb hι] at hbb;cases hbb
    | some b' =>
     rw [(hblk b' hι).1] at hbb;cases hbb
     exact Nat.lt_of_lt_of_le (hM.lt 0 _ _ rfl rfl hι) hg.size
  ·have h0:u'.oneCell'=true:=by
    rcases hown.2 with ⟨rfl,_⟩ | ⟨g,cp,cur,rfl,_⟩ <;> rfl
   refine .own 1 _ h0 ⟨_,rfl⟩ fun ty n cs hx => ?_
   rcases at1 _ _ hx with ⟨he,_⟩ | ⟨_,he⟩
   ·cases he
   ·cases he
    simp only [if_true]
    rcases hown.2 with ⟨rfl,h9⟩ | ⟨g,cp,cur,rfl,_⟩
    ·exact .inl ⟨rfl,rfl,h9⟩
    ·exact .inr ⟨g,rfl,rfl⟩

theorem aMt(l:List Int)(hl:l.length≤1000000):FMM Tryz.prog 57 [.own 0] [some (nS l)] (.tup []) [some (nS (l.mergeSort leB))]:=fun C w us hus hM n=>by
 obtain ⟨u,rfl,hu⟩:=vN hus;refine (callsIn_wide.2 (bHi 0 u l w (bHk hM rfl hu) hl)).mono ?_;rintro e w' ⟨rfl,h1,h2⟩;obtain ⟨C',f,m,_⟩:=aFy (d:=false) hM hu h1 h2 rfl (fun _=>⟨rfl,List.length_mergeSort l⟩)
 exact ⟨_,rfl,C',f,m,.tup [] #[] rfl (fun i h=>by simp at h)⟩
theorem aCs(l:List Int):(Lib.compact l).length≤l.length:=by
 unfold Lib.compact Lib.compactUpTo;rw [List.length_map];exact Nat.le_trans (List.length_filter_le _ _) (by simp)
theorem aMu(base:Nat)(v:Value)(l:List Int)(w:World)(hv:KL.OwnI w base v l)(hlen:l.length≤1000000) :
  Calls Tryz.prog 186 #[v] w fun e w'=>∃ p' n' cap',e = .returned (.slice p' n' cap')∧n'=(Lib.compact l).length∧KL.OwnI w' base (.slice p' n' cap') (Lib.compact l)∧w.grownBy w' v.ownBlock∧((Value.slice p' n' cap').ownBlock=v.ownBlock):=by
 have hown:=hv
 rcases hv.2 with ⟨rfl,h0⟩ | ⟨b,cap,cur,rfl,hb,hg,hn,hm,hs,ht⟩
 ·have:l=[]:=List.eq_nil_of_length_eq_zero h0
  subst this;refine (Tryz.slices_Compact_int_empty none 0 w).mono ?_;rintro e w' ⟨rfl,rfl⟩;exact ⟨_,_,_,rfl,rfl,hown,World.grownBy.refl _ _,rfl⟩
 ·refine (Tryz.slices_Compact_int b 0 cap l w (holds_of_blockI hg (by simpa using ht)) (by omega) (by simpa using hn)).mono ?_
  rintro e w' ⟨rfl,q,rfl⟩;have hfl:=aCs l;refine ⟨_,_,_,rfl,rfl,?_,?_,rfl⟩
  ·have:=ownsRow_putRow (enc:=Value.int .i64) (q:=q) (k:=(Lib.compact l).length) (ys:=Lib.compact l++List.replicate (l.length-(Lib.compact l).length) 0) hown (by simp;omega) hfl
   unfold KL.OwnI;simpa using this
  ·exact grownBy_sortedI (os := #[]) (n:=q) (g:=b) (w:=w) ((Lib.compact l++List.replicate (l.length-(Lib.compact l).length) 0).toArray)
theorem aMv(l:List Int)(hl:l.length≤1000000):FMM Tryz.prog 186 [.own 0] [some (.row 3 l.length (l.map aA))] (.own 1) [some .dead,some (.row 3 (Lib.compact l).length ((Lib.compact l).map aA))]:=fun C w us hus hM n=>by
 obtain ⟨u,rfl,hu⟩:=vN hus;refine (callsIn_wide.2 (aMu 0 u l w (bHk hM rfl hu) hl)).mono ?_;rintro e w' ⟨p',n',cap',rfl,h0,h1,h2,h3⟩;obtain ⟨C',f,m,r⟩:=aFy (d:=true) hM hu h1 h2 h3 (fun h=>by cases h)
 exact ⟨_,rfl,C',f,m,r⟩
end KV
end Go.Proofs
end
namespace Go.Proofs
namespace KV
section

noncomputable abbrev rG:Code:=sub (cd Tryz.f142) [1,1,0,1,0,0]
noncomputable abbrev xI:Code:=sub (cd Tryz.f141) [1,0,1,0,0]
noncomputable abbrev xJ:Code:=sub (cd Tryz.f141) [1,0,1,0,0,1,1,0,0,1,1,1,1,1,0,0]
theorem aIw:0≤(0:Int)∧(0:Int)<2:=by first | decide | simp
theorem aIx:0≤(1:Int)∧(1:Int)<2:=by first | decide | simp
def gV(al:List fD)(s:Nat)(t:Int)(few:Nat)(many:Nat)(i:Nat):St:=⟨fr 39 [(1,(pI (s:Int))),(2,(pI t)),(6,(pI 0)),(7,(pI 0)),(8,(pI (few:Int))),(9,(pI (many:Int))),(12,(.p (.sl al.length ((al.map hpE).flatten)))),(13,(pI (al.length:Int))),(14,(pI (i:Int)))],[]⟩
theorem bWa{al:List fD}{s:Nat}{t:Int}{few'0 many'1 i'2:Nat}(hl0:aJ Tp 0 rG (gV al s t 0 0 0) (.exit 0) (gV al s t few'0 many'1 i'2)){base:Nat}:FV Tp 142 [(.p (.sl al.length ((al.map hpE).flatten))),(pI (s:Int)),(pI t)] base (.tup [(pI (few'0:Int)),(pI (many'1:Int))]) []:=by
 exact FV.fin Tryz.func142 rfl (o:=[.k 8 ⟨(rng [(0,1),(3,3),(10,2),(15,22)]),[],[],[]⟩ (.exit 0) (gV al s t few'0 many'1 i'2)]) (l:=[_]) (by kernel_rfl) (gc hl0.code gn)
theorem bBe{al:List fD}{s:Nat}{t:Int}{few many i:Nat}{c100:List bX}{mn101 mx102:Int}{i':Nat}(h0:(i:Int)<(al.length:Int))(h1:al[i]? = some (c100,mn101,mx102))(h2:(i:Int)=(s:Int))(h3:inR (((i+1):Nat):Int))(ei':i'=(i+1)):aC Tp 0 rG (gV al s t few many i) .normal (gV al s t few many i'):=by
 subst ei';exact aC.fin (g:=⟨(rng [(0,1),(3,3),(10,2),(15,22)]),[],[],[]⟩) (o:=[bT,.x (.agg [(.sl c100.length ((c100.map chE).flatten)),(aA mn101),(aA mx102)]),bT]) (l:=[_,_,some (.agg ((((al.map hpE).flatten).drop (i*3)).take 3):PV)=some (.agg [(.sl c100.length ((c100.map chE).flatten)),(aA mn101),(aA mx102)]),(i*3)+3≤((al.map hpE).flatten).length,0≤(i:Int)∧(i:Int)<(al.length:Int)∧(i*3)<((al.map hpE).flatten).length,_]) (by kernel_rfl) (gc h3 (gc (eW h2) (gc (mG (E:=hpE) (i:=i) (k:=3) (fun _=>rfl) h1 rfl) (gc (tX (E:=hpE) (i:=i) (k:=3) (fun _=>rfl) h1) (gc (rH (E:=hpE) (k:=3) (i:=(i:Int)) (fun _=>rfl) (by decide) (kQ2 _) h1) (gc (aZ h0) gn))))))
theorem bBf{al:List fD}{s:Nat}{t:Int}{few many i:Nat}{c100:List bX}{mn101 mx102:Int}{few' many' i':Nat}(h0:(i:Int)<(al.length:Int))(h1:al[i]? = some (c100,mn101,mx102))(h2:(i:Int)≠(s:Int))(h3:mx102<t)(h4:inR (((few+1):Nat):Int))(h5:mn101<t)(h6:inR (((many+1):Nat):Int))(h7:inR (((i+1):Nat):Int))(efew':few'=(few+1))(emany':many'=(many+1))(ei':i'=(i+1)):aC Tp 0 rG (gV al s t few many i) .normal (gV al s t few' many' i'):=by
 subst efew' emany' ei';exact aC.fin (g:=⟨(rng [(0,1),(3,3),(10,2),(15,22)]),[],[],[]⟩) (o:=[bT,.x (.agg [(.sl c100.length ((c100.map chE).flatten)),(aA mn101),(aA mx102)]),bF,bT,bT]) (l:=[_,_,_,_,_,_,_,_,some (.agg ((((al.map hpE).flatten).drop (i*3)).take 3):PV)=some (.agg [(.sl c100.length ((c100.map chE).flatten)),(aA mn101),(aA mx102)]),(i*3)+3≤((al.map hpE).flatten).length,0≤(i:Int)∧(i:Int)<(al.length:Int)∧(i*3)<((al.map hpE).flatten).length,_]) (by kernel_rfl) (gc h7 (gc h6 (gc (aZ h5) (gc aIw (gc h4 (gc (aZ h3) (gc aIx (gc (bP h2) (gc (mG (E:=hpE) (i:=i) (k:=3) (fun _=>rfl) h1 rfl) (gc (tX (E:=hpE) (i:=i) (k:=3) (fun _=>rfl) h1) (gc (rH (E:=hpE) (k:=3) (i:=(i:Int)) (fun _=>rfl) (by decide) (kQ2 _) h1) (gc (aZ h0) gn))))))))))))
theorem bBg{al:List fD}{s:Nat}{t:Int}{few many i:Nat}{c100:List bX}{mn101 mx102:Int}{few' i':Nat}(h0:(i:Int)<(al.length:Int))(h1:al[i]? = some (c100,mn101,mx102))(h2:(i:Int)≠(s:Int))(h3:mx102<t)(h4:inR (((few+1):Nat):Int))(h5:t≤mn101)(h6:inR (((i+1):Nat):Int))(efew':few'=(few+1))(ei':i'=(i+1)):aC Tp 0 rG (gV al s t few many i) .normal (gV al s t few' many i'):=by
 subst efew' ei';exact aC.fin (g:=⟨(rng [(0,1),(3,3),(10,2),(15,22)]),[],[],[]⟩) (o:=[bT,.x (.agg [(.sl c100.length ((c100.map chE).flatten)),(aA mn101),(aA mx102)]),bF,bT,bF]) (l:=[_,_,_,_,_,_,_,some (.agg ((((al.map hpE).flatten).drop (i*3)).take 3):PV)=some (.agg [(.sl c100.length ((c100.map chE).flatten)),(aA mn101),(aA mx102)]),(i*3)+3≤((al.map hpE).flatten).length,0≤(i:Int)∧(i:Int)<(al.length:Int)∧(i*3)<((al.map hpE).flatten).length,_]) (by kernel_rfl) (gc h6 (gc (bJ h5) (gc aIw (gc h4 (gc (aZ h3) (gc aIx (gc (bP h2) (gc (mG (E:=hpE) (i:=i) (k:=3) (fun _=>rfl) h1 rfl) (gc (tX (E:=hpE) (i:=i) (k:=3) (fun _=>rfl) h1) (gc (rH (E:=hpE) (k:=3) (i:=(i:Int)) (fun _=>rfl) (by decide) (kQ2 _) h1) (gc (aZ h0) gn)))))))))))
theorem bBh{al:List fD}{s:Nat}{t:Int}{few many i:Nat}{c100:List bX}{mn101 mx102:Int}{many' i':Nat}(h0:(i:Int)<(al.length:Int))(h1:al[i]? = some (c100,mn101,mx102))(h2:(i:Int)≠(s:Int))(h3:t≤mx102)(h4:mn101<t)(h5:inR (((many+1):Nat):Int))(h6:inR (((i+1):Nat):Int))(emany':many'=(many+1))(ei':i'=(i+1)):aC Tp 0 rG (gV al s t few many i) .normal (gV al s t few many' i'):=by
 subst emany' ei';exact aC.fin (g:=⟨(rng [(0,1),(3,3),(10,2),(15,22)]),[],[],[]⟩) (o:=[bT,.x (.agg [(.sl c100.length ((c100.map chE).flatten)),(aA mn101),(aA mx102)]),bF,bF,bT]) (l:=[_,_,_,_,_,_,_,some (.agg ((((al.map hpE).flatten).drop (i*3)).take 3):PV)=some (.agg [(.sl c100.length ((c100.map chE).flatten)),(aA mn101),(aA mx102)]),(i*3)+3≤((al.map hpE).flatten).length,0≤(i:Int)∧(i:Int)<(al.length:Int)∧(i*3)<((al.map hpE).flatten).length,_]) (by kernel_rfl) (gc h6 (gc h5 (gc (aZ h4) (gc aIw (gc (bJ h3) (gc aIx (gc (bP h2) (gc (mG (E:=hpE) (i:=i) (k:=3) (fun _=>rfl) h1 rfl) (gc (tX (E:=hpE) (i:=i) (k:=3) (fun _=>rfl) h1) (gc (rH (E:=hpE) (k:=3) (i:=(i:Int)) (fun _=>rfl) (by decide) (kQ2 _) h1) (gc (aZ h0) gn)))))))))))
theorem bBi{al:List fD}{s:Nat}{t:Int}{few many i:Nat}{c100:List bX}{mn101 mx102:Int}{i':Nat}(h0:(i:Int)<(al.length:Int))(h1:al[i]? = some (c100,mn101,mx102))(h2:(i:Int)≠(s:Int))(h3:t≤mx102)(h4:t≤mn101)(h5:inR (((i+1):Nat):Int))(ei':i'=(i+1)):aC Tp 0 rG (gV al s t few many i) .normal (gV al s t few many i'):=by
 subst ei';exact aC.fin (g:=⟨(rng [(0,1),(3,3),(10,2),(15,22)]),[],[],[]⟩) (o:=[bT,.x (.agg [(.sl c100.length ((c100.map chE).flatten)),(aA mn101),(aA mx102)]),bF,bF,bF]) (l:=[_,_,_,_,_,_,some (.agg ((((al.map hpE).flatten).drop (i*3)).take 3):PV)=some (.agg [(.sl c100.length ((c100.map chE).flatten)),(aA mn101),(aA mx102)]),(i*3)+3≤((al.map hpE).flatten).length,0≤(i:Int)∧(i:Int)<(al.length:Int)∧(i*3)<((al.map hpE).flatten).length,_]) (by kernel_rfl) (gc h5 (gc (bJ h4) (gc aIw (gc (bJ h3) (gc aIx (gc (bP h2) (gc (mG (E:=hpE) (i:=i) (k:=3) (fun _=>rfl) h1 rfl) (gc (tX (E:=hpE) (i:=i) (k:=3) (fun _=>rfl) h1) (gc (rH (E:=hpE) (k:=3) (i:=(i:Int)) (fun _=>rfl) (by decide) (kQ2 _) h1) (gc (aZ h0) gn))))))))))
theorem bBj{al:List fD}{s:Nat}{t:Int}{few many i:Nat}(h0:(al.length:Int)≤(i:Int)):aC Tp 0 rG (gV al s t few many i) (.exit 0) (gV al s t few many i):=by
 exact aC.fin (g:=⟨(rng [(0,1),(3,3),(10,2),(15,22)]),[],[],[]⟩) (o:=[bF]) (l:=[_]) (by kernel_rfl) (gc (bJ h0) gn)
def gH(al:List fD)(s:Nat)(t:Int):Nat→Nat × Nat
 | 0=>(0,0)
 | i+1=>match al[i]? with
  | some h=>if i=s then gH al s t i else ((if h.2.2<t then (gH al s t i).1+1 else (gH al s t i).1),(if h.2.1<t then (gH al s t i).2+1 else (gH al s t i).2))
  | none=>gH al s t i
abbrev cQ(al:List fD)(s:Nat)(t:Int):Nat × Nat:=gH al s t al.length
theorem oM(al:List fD)(s:Nat)(t:Int):∀ i,(gH al s t i).1≤i∧(gH al s t i).2≤i
 | 0=>⟨dO _,dO _⟩
 | i+1=>by
  have:=oM al s t i;unfold gH
  split
  ·split
   ·omega
   ·dsimp only
    split <;> split <;> omega
  ·omega
theorem bWb(al:List fD)(s:Nat)(t:Int)(hl:al.length≤1000){base:Nat}:FV Tp 142 [.p (.sl al.length (al.map hpE).flatten),.p (aA s),.p (aA t)] base (.tup [.p (aA ((cQ al s t).1:Nat)),.p (aA ((cQ al s t).2:Nat))]) []:=by
 obtain ⟨a,hI,hL⟩:=aJ.ex (P:=Tp) (k:=0) (b:=rG) (e := .exit 0) (fun i (a:Nat × Nat)=>gV al s t a.1 a.2 i) (fun a=>gV al s t a.1 a.2 al.length) (fun i a=>a=gH al s t i) (by simp) al.length
  (fun i a hi ha=>by
   obtain ⟨⟨c,mn,mx⟩,hx⟩:∃ x,al[i]? = some x:=⟨_,kQ0 hi⟩;have hle:=oM al s t i;refine ⟨_,rfl,?_⟩;subst ha;have e:gH al s t (i+1)=if i=s then gH al s t i else ((if mx<t then (gH al s t i).1+1 else (gH al s t i).1),(if mn<t then (gH al s t i).2+1 else (gH al s t i).2)):=by
    conv=>lhs;unfold gH
    rw [hx]
   rw [e]
   by_cases his:i=s
   ·rw [if_pos his];exact bBe (by omega) hx (by omega) (aP (by omega)) rfl
   ·rw [if_neg his]
    by_cases h1:mx<t <;> by_cases h2:mn<t
    ·rw [if_pos h1,if_pos h2];exact bBf (by omega) hx (by omega) h1 (aP (by omega)) h2 (aP (by omega)) (aP (by omega)) rfl rfl rfl
    ·rw [if_pos h1,if_neg h2];exact bBg (by omega) hx (by omega) h1 (aP (by omega)) (by omega) (aP (by omega)) rfl rfl
    ·rw [if_neg h1,if_pos h2];exact bBh (by omega) hx (by omega) (by omega) h2 (aP (by omega)) (aP (by omega)) rfl rfl
    ·rw [if_neg h1,if_neg h2];exact bBi (by omega) hx (by omega) (by omega) (by omega) (aP (by omega)) rfl)
  (fun a _=>bBj (by omega)) (acc:=(0,0)) rfl
 subst hI;exact bWa hL
def kS(al:List fD)(s:Nat)(c0:List bX)(on:Nat)(oc:List PV)(ou:Bool)(inn:Bool)(i:Nat):St:=⟨fr 51 [(0,(.p (.sl al.length ((al.map hpE).flatten)))),(1,(pI (s:Int))),(4,(.own 0)),(5,(pB ou)),(6,(pB inn)),(16,(.p (.sl c0.length ((c0.map chE).flatten)))),(17,(pI (c0.length:Int))),(18,(pI (i:Int)))],[some (.row 3 on oc)]⟩
theorem bWc{al:List fD}{s:Nat}{c0:List bX}{mn1 mx2:Int}{o'3:List Int}{ou'4 inn'5:Bool}{i'6:Nat}(h0:al[s]? = some (c0,mn1,mx2))(hl1:aJ Tp 0 xI (kS al s c0 0 [] false false 0) (.exit 0) (kS al s c0 o'3.length (o'3.map aA) ou'4 inn'5 i'6))(h2:o'3.length≤1000000)(h3:(o'3.mergeSort KL.leB).length≤1000000){base:Nat}:FV Tp 141 [(.p (.sl al.length ((al.map hpE).flatten))),(pI (s:Int))] base (.tup [(.p (aE (Lib.compact (o'3.mergeSort KL.leB)))),(pB ou'4),(pB inn'5)]) []:=by
 exact FV.frz (FMM.fin (k:=0) (g:=⟨[],[],[1],[]⟩) rfl Tryz.func141 rfl (o:=[.x (.sl c0.length ((c0.map chE).flatten)),.k 1 ⟨(rng [(2,2),(7,9),(19,26),(46,1)]),[0],[],[(4,3),(5,0),(6,0)]⟩ (.exit 0) (kS al s c0 o'3.length (o'3.map aA) ou'4 inn'5 i'6),.c (.tup []) [(0,(.row 3 ((o'3.mergeSort KL.leB).length) ((o'3.mergeSort KL.leB).map aA)))],.c (.own 1) [(0,.dead),(1,(.row 3 ((Lib.compact (o'3.mergeSort KL.leB)).length) ((Lib.compact (o'3.mergeSort KL.leB)).map aA)))]]) (l:=[FC Tp 186 [(.own 0)] [(0,(.row 3 ((o'3.mergeSort KL.leB).length) ((o'3.mergeSort KL.leB).map aA)))] 1 (.own 1) [(0,.dead),(1,(.row 3 ((Lib.compact (o'3.mergeSort KL.leB)).length) ((Lib.compact (o'3.mergeSort KL.leB)).map aA)))],FC Tp 57 [(.own 0)] [(0,(.row 3 o'3.length (o'3.map aA)))] 1 (.tup []) [(0,(.row 3 ((o'3.mergeSort KL.leB).length) ((o'3.mergeSort KL.leB).map aA)))],_,((al.map hpE).flatten)[(s*3)]? = some (.sl c0.length ((c0.map chE).flatten)),0≤(s:Int)∧(s:Int)<(al.length:Int)∧(s*3)<((al.map hpE).flatten).length]) (by kernel_rfl) (gc (FMM.fc (ids:=[0]) (aMv (o'3.mergeSort KL.leB) h3) (by kernel_rfl)) (gc (FMM.fc (ids:=[0]) (aMt o'3 h2) (by kernel_rfl)) (gc hl1.code (gc (bBw (E:=hpE) (i:=s) (f:=0) (k:=3) (fun _=>rfl) h0 rfl) (gc (rH (E:=hpE) (k:=3) (i:=(s:Int)) (fun _=>rfl) (by decide) (kQ2 _) h0) gn)))))) (by kernel_rfl)
def kT(al:List fD)(s:Nat)(c0:List bX)(ou:Bool)(i:Nat)(t100:Int)(b101:Bool)(q102:List Int)(on:Nat)(oc:List PV)(n:Nat):St:=⟨fr 51 [(0,(.p (.sl al.length ((al.map hpE).flatten)))),(1,(pI (s:Int))),(4,(.own 0)),(5,(pB ou)),(6,(.kb true)),(8,(.ptr 1 0)),(9,(pI (((cQ al s t100).1:Nat):Int))),(10,(pI (((cQ al s t100).2:Nat):Int))),(11,(pI (n:Int))),(16,(.p (.sl c0.length ((c0.map chE).flatten)))),(17,(pI (c0.length:Int))),(18,(pI (i:Int))),(19,(pB (decide ((i:Int)<(c0.length:Int))))),(20,(.rp ((c0.map chE).flatten) (i*3))),(21,(.p (.agg [(aA t100),(blP b101),(aE q102)]))),(22,(.ptr 1 1)),(23,(pB b101)),(24,(.tup [(pI (((cQ al s t100).1:Nat):Int)),(pI (((cQ al s t100).2:Nat):Int))])),(25,(.p (.sl al.length ((al.map hpE).flatten)))),(26,(pI (s:Int))),(27,(.ptr 1 0)),(28,(pI t100)),(29,(.tup [(pI (((cQ al s t100).1:Nat):Int)),(pI (((cQ al s t100).2:Nat):Int))])),(30,(pI (((cQ al s t100).1:Nat):Int))),(31,(pI (((cQ al s t100).2:Nat):Int))),(32,(pI (((cQ al s t100).1:Nat):Int))),(33,(pI ((((cQ al s t100).1+1):Nat):Int)))],[some (.row 3 on oc),some (.box 197 [(pI t100),(pB b101),(.p (aE q102))])]⟩
theorem bBk{al:List fD}{s:Nat}{c0:List bX}{o:List Int}{ou inn:Bool}{i:Nat}{t100:Int}{b101:Bool}{q102:List Int}{i':Nat}(h0:(i:Int)<(c0.length:Int))(h1:c0[i]? = some (t100,b101,q102))(h2:b101=true)(h3:inR (((i+1):Nat):Int))(ei':i'=(i+1)):aC Tp 0 xI (kS al s c0 o.length (o.map aA) ou inn i) .normal (kS al s c0 o.length (o.map aA) true inn i'):=by
 subst ei';exact aC.fin (g:=⟨(rng [(2,2),(7,9),(19,26),(46,1)]),[0],[],[(5,0)]⟩) (o:=[bT,.x (.agg [(aA t100),(blP b101),(aE q102)]),bT]) (l:=[_,_,some (.agg ((((c0.map chE).flatten).drop (i*3)).take 3):PV)=some (.agg [(aA t100),(blP b101),(aE q102)]),(i*3)+3≤((c0.map chE).flatten).length,0≤(i:Int)∧(i:Int)<(c0.length:Int)∧(i*3)<((c0.map chE).flatten).length,_]) (by kernel_rfl) (gc h3 (gc h2 (gc (mG (E:=chE) (i:=i) (k:=3) (fun _=>rfl) h1 rfl) (gc (tX (E:=chE) (i:=i) (k:=3) (fun _=>rfl) h1) (gc (rH (E:=chE) (k:=3) (i:=(i:Int)) (fun _=>rfl) (by decide) (kQ2 _) h1) (gc (aZ h0) gn))))))
theorem bBl{al:List fD}{s:Nat}{c0:List bX}{o:List Int}{ou inn:Bool}{i:Nat}{t100:Int}{b101:Bool}{q102 o'103:List Int}{n'104:Nat}{o':List Int}{i':Nat}(h0:(i:Int)<(c0.length:Int))(h1:c0[i]? = some (t100,b101,q102))(h2:b101=false)(h3:al.length≤1000)(h4:inR ((((cQ al s t100).1+1):Nat):Int))(hl5:aJ Tp 0 xJ (kT al s c0 ou i t100 b101 q102 o.length (o.map aA) ((cQ al s t100).1+1)) (.exit 2) (kT al s c0 ou i t100 b101 q102 o'103.length (o'103.map aA) n'104))(h6:inR (((i+1):Nat):Int))(eo'n:o'.length=o'103.length)(eo'c:o'.map aA=(o'103.map aA))(ei':i'=(i+1)):aC Tp 0 xI (kS al s c0 o.length (o.map aA) ou inn i) .normal (kS al s c0 o'.length (o'.map aA) ou true i'):=by
 subst ei';have raw:aC Tp 0 xI (kS al s c0 o.length (o.map aA) ou inn i) .normal (kS al s c0 o'103.length (o'103.map aA) ou true (i+1)):=aC.fin (g:=⟨(rng [(2,2),(7,9),(19,26),(46,1)]),[0],[],[(6,0)]⟩) (o:=[bT,.x (.agg [(aA t100),(blP b101),(aE q102)]),bF,.c (.tup [(pI (((cQ al s t100).1:Nat):Int)),(pI (((cQ al s t100).2:Nat):Int))]) [],.k 3 ⟨(rng [(2,2),(7,1),(12,4),(34,10),(46,1)]),[0,1],[],[]⟩ (.exit 2) (kT al s c0 ou i t100 b101 q102 o'103.length (o'103.map aA) n'104)]) (l:=[_,_,_,_,_,some (.agg ((((c0.map chE).flatten).drop (i*3)).take 3):PV)=some (.agg [(aA t100),(blP b101),(aE q102)]),(i*3)+3≤((c0.map chE).flatten).length,0≤(i:Int)∧(i:Int)<(c0.length:Int)∧(i*3)<((c0.map chE).flatten).length,_]) (by kernel_rfl) (gc h6 (gc hl5.code (gc h4 (gc (fk 2 (bWb al s t100 h3) rfl) (gc h2 (gc (mG (E:=chE) (i:=i) (k:=3) (fun _=>rfl) h1 rfl) (gc (tX (E:=chE) (i:=i) (k:=3) (fun _=>rfl) h1) (gc (rH (E:=chE) (k:=3) (i:=(i:Int)) (fun _=>rfl) (by decide) (kQ2 _) h1) (gc (aZ h0) gn)))))))))
 exact raw.cast (by rw [eo'n,eo'c])
theorem bBm{al:List fD}{s:Nat}{c0:List bX}{o:List Int}{ou inn:Bool}{i:Nat}(h0:(c0.length:Int)≤(i:Int)):aC Tp 0 xI (kS al s c0 o.length (o.map aA) ou inn i) (.exit 0) (kS al s c0 o.length (o.map aA) ou inn i):=by
 exact aC.fin (g:=⟨(rng [(2,2),(7,9),(19,26),(46,1)]),[0],[],[]⟩) (o:=[bF]) (l:=[_]) (by kernel_rfl) (gc (bJ h0) gn)
theorem bBn{al:List fD}{s:Nat}{c0:List bX}{ou:Bool}{i:Nat}{t100:Int}{b101:Bool}{q102 o:List Int}{n:Nat}{o':List Int}{n':Nat}(h0:inR ((((cQ al s t100).2+1):Nat):Int))(h1:(n:Int)≤((((cQ al s t100).2+1):Nat):Int))(h2:[(aA (n:Int))].length=1*1∧o.length+1≤1000000)(h3:inR (((n+1):Nat):Int))(eo'n:o'.length=(o.length+1))(eo'c:o'.map aA=((o.map aA)++[(aA (n:Int))]))(en':n'=(n+1)):aC Tp 0 xJ (kT al s c0 ou i t100 b101 q102 o.length (o.map aA) n) .normal (kT al s c0 ou i t100 b101 q102 o'.length (o'.map aA) n'):=by
 subst en';have raw:aC Tp 0 xJ (kT al s c0 ou i t100 b101 q102 o.length (o.map aA) n) .normal (kT al s c0 ou i t100 b101 q102 (o.length+1) ((o.map aA)++[(aA (n:Int))]) (n+1)):=aC.fin (g:=⟨(rng [(2,2),(7,1),(12,4),(34,10),(46,1)]),[3,1],[],[]⟩) (o:=[bT]) (l:=[_,_,_,_]) (by kernel_rfl) (gc h3 (gc h2 (gc (aLk h1) (gc h0 gn))))
 exact raw.cast (by rw [eo'n,eo'c])
theorem bBo{al:List fD}{s:Nat}{c0:List bX}{ou:Bool}{i:Nat}{t100:Int}{b101:Bool}{q102 o:List Int}{n:Nat}(h0:inR ((((cQ al s t100).2+1):Nat):Int))(h1:((((cQ al s t100).2+1):Nat):Int)<(n:Int)):aC Tp 0 xJ (kT al s c0 ou i t100 b101 q102 o.length (o.map aA) n) (.exit 2) (kT al s c0 ou i t100 b101 q102 o.length (o.map aA) n):=by
 exact aC.fin (g:=⟨(rng [(2,2),(7,1),(12,4),(34,10),(46,1)]),[0,1],[],[]⟩) (o:=[bF]) (l:=[_,_]) (by kernel_rfl) (gc (qU h1) (gc h0 gn))
def aIy(few many:Nat):List Int:=(List.range (many+1-few)).map fun j=>((few+1+j:Nat):Int)
def chL(al:List fD)(s:Nat)(c:bX):List Int:=if c.2.1 then [] else aIy (cQ al s c.1).1 (cQ al s c.1).2
def gL(al:List fD)(s:Nat)(c:List bX):List Int:=Lib.compact ((c.flatMap (chL al s)).mergeSort KL.leB)
theorem bHe{a b:Nat}(h:b≤1000):(aIy a b).length≤1001:=by unfold aIy;simp;omega
theorem bNv(al:List fD)(hal:al.length≤1000)(s:Nat)(c:bX):(chL al s c).length≤1001:=by
 unfold chL
 split
 ·simp
 ·exact bHe (by have:(cQ al s c.1).2≤al.length:=(oM al s c.1 al.length).2;omega)
theorem aIz{al:List fD}(hal:al.length≤1000)(s:Nat):∀ c:List bX,(c.flatMap (chL al s)).length≤c.length*1001
 | []=>by simp
 | x::c=>by
  rw [List.flatMap_cons,lG,pY];have:=bNv al hal s x;have:=aIz hal s c;omega
theorem bWd{al:List fD}(hal:al.length≤1000)(s:Nat)(c0:List bX)(ou:Bool)(i:Nat)(t:Int)(b:Bool)(q o:List Int)(ho:o.length≤900000) :
  ∃ n',aJ Tp 0 xJ (kT al s c0 ou i t b q o.length (o.map aA) ((cQ al s t).1+1)) (.exit 2) (kT al s c0 ou i t b q (o++aIy (cQ al s t).1 (cQ al s t).2).length ((o++aIy (cQ al s t).1 (cQ al s t).2).map aA) n'):=by
 have h1:(cQ al s t).1≤al.length:=(oM al s t al.length).1;have h2:(cQ al s t).2≤al.length:=(oM al s t al.length).2;obtain ⟨x,hI,hL⟩:=aJ.ex (P:=Tp) (k:=0) (b:=xJ) (e := .exit 2) (fun j (x:List Int)=>kT al s c0 ou i t b q x.length (x.map aA) ((cQ al s t).1+1+j)) (fun x=>kT al s c0 ou i t b q x.length (x.map aA) ((cQ al s t).1+1+((cQ al s t).2+1-(cQ al s t).1)))
  (fun j x=>x=o++(List.range j).map fun j=>(((cQ al s t).1+1+j:Nat):Int)) (by simp) ((cQ al s t).2+1-(cQ al s t).1)
  (fun j x hj hx=>by
   have hlen:x.length=o.length+j:=by rw [hx];simp
   refine ⟨x++[(((cQ al s t).1+1+j:Nat):Int)],?_,bBn (aP (by omega)) (by omega) ⟨rfl,by omega⟩ (aP (by omega)) (by simp) (by simp) rfl⟩
   rw [hx,List.range_succ];simp)
  (fun x _=>bBo (aP (by omega)) (by omega)) (acc:=o) (by simp)
 rw [show o++aIy (cQ al s t).1 (cQ al s t).2=x from hI.symm]
 exact ⟨_,hL⟩
theorem aCr{al:List fD}(hal:al.length≤1000){s:Nat}{c:List bX}{mn mx:Int}(hx:al[s]? = some (c,mn,mx))(hc:c.length≤256){base:Nat} :
  FV Tp 141 [.p (.sl al.length (al.map hpE).flatten),.p (aA s)] base (.tup [.p (aE (gL al s c)),.p (blP (c.any fun x=>x.2.1)),.p (blP (c.any fun x => !x.2.1))]) []:=by
 obtain ⟨a,⟨hI,hJ,hK⟩,hL⟩:=aJ.ex (P:=Tp) (k:=0) (b:=xI) (e := .exit 0) (fun i (a:List Int × Bool × Bool)=>kS al s c a.1.length (a.1.map aA) a.2.1 a.2.2 i) (fun a=>kS al s c a.1.length (a.1.map aA) a.2.1 a.2.2 c.length)
  (fun i a=>a.1=(c.take i).flatMap (chL al s)∧a.2.1=((c.take i).any fun x=>x.2.1)∧a.2.2=((c.take i).any fun x => !x.2.1)) (by simp) c.length
  (fun i a hi ha=>by
   obtain ⟨ha1,ha2,ha3⟩:=ha;obtain ⟨⟨t,b,q⟩,hx⟩:∃ x,c[i]? = some x:=⟨_,kQ0 hi⟩;have hlen:a.1.length≤256*1001:=by
    rw [ha1];have:=aIz hal s (c.take i);rw [kY] at this
    have:min i c.length≤256:=by omega
    omega
   have e1:c.take (i+1)=c.take i++[(t,b,q)]:=by rw [List.take_add_one,hx];rfl
   cases b with
   | true=>exact ⟨(a.1,true,a.2.2),⟨by rw [ha1,e1];simp [chL],by rw [e1];simp,by rw [ha3,e1];simp⟩,bBk (by omega) hx rfl (aP (by omega)) rfl⟩
   | false =>
    have h1:(cQ al s t).1≤al.length:=(oM al s t al.length).1;obtain ⟨n',hl⟩:=bWd hal s c a.2.1 i t false q a.1 (by omega)
    exact ⟨(a.1++aIy (cQ al s t).1 (cQ al s t).2,a.2.1,true),⟨by rw [ha1,e1];simp [chL],by rw [ha2,e1];simp,by rw [e1];simp⟩,bBl (by omega) hx rfl hal (aP (by omega)) hl (aP (by omega)) rfl rfl rfl⟩)
  (fun a _=>bBm (by omega)) (acc:=([],false,false)) (by simp)
 rw [List.take_length] at hI hJ hK
 have hb:=aIz hal s c;have:=bWc (s:=s) hx hL (by rw [hI];omega) (by rw [bJc,hI];omega) (base:=base)
 rw [hI,hJ,hK] at this
 exact this
end
section
variable {dl:Int}{sk dc:Lqq}

theorem bHd:((0:Int) != (0:Int))=false:=by first | decide | simp
def rF(l:Lqq)(x0:Int)(x1:Int)(i:Nat):St:=⟨fr 19 [(0,(.p (fS l))),(3,(.ptr 0 0)),(7,(pI (l.length:Int))),(8,(pI (i:Int)))],[some (.box 31 [(pI x0),(pI x1)])]⟩
theorem bVw{l:Lqq}{x0 x1:Int}{i'0:Nat}(hl0:aJ Tp 0 (sub (cd Tryz.f185) [1,0,1,0,0]) (rF l x0 x1 0) .ret (cE (rF l x0 x1 i'0) [(4,(pI (i'0:Int)))])){base:Nat}:FV Tp 185 [(.p (fS l)),(.p (.agg [(aA x0),(aA x1)]))] base (pI (i'0:Int)) []:=by
 exact FV.fin Tryz.func185 rfl (o:=[.k 6 ⟨(rng [(1,2),(4,3),(9,10)]),[0],[],[]⟩ .ret (cE (rF l x0 x1 i'0) [(4,(pI (i'0:Int)))])]) (l:=[_]) (by kernel_rfl) (gc hl0.code gn)
theorem bBc{l:Lqq}{x0 x1:Int}{i:Nat}{y100 y101:Int}(h0:(i:Int)<(l.length:Int))(h1:l[i]? = some [y100,y101])(h2:uni 2 l)(h3:dX [(aA x0),(aA x1)] [(0,3,true),(1,3,true)]=true∧dX [(aA y100),(aA y101)] [(0,3,true),(1,3,true)]=true)(h4:(nD [(aA x0),(aA x1)] [(aA y100),(aA y101)] [(0,3,true),(1,3,true)])=true):aC Tp 0 (sub (cd Tryz.f185) [1,0,1,0,0]) (rF l x0 x1 i) .ret (cE (rF l x0 x1 i) [(4,(pI (i:Int)))]):=by
 exact aC.fin (g:=⟨(rng [(1,2),(5,2),(9,10)]),[0],[],[]⟩) (o:=[bT,.x (.agg [(aA y100),(aA y101)]),bT]) (l:=[_,_,_,_,0≤(i:Int)∧(i:Int)<(l.length:Int)∧(i*2)<(l.flatten.map aA).length,_]) (by kernel_rfl) (gc h4 (gc h3 (gc (aV (i:=i) h2 h1) (gc (bI (i:=i) h2 h1) (gc (cB (k:=2) (i:=(i:Int)) (by decide) h2 (kQ2 _) h1) (gc (aZ h0) gn))))))
theorem bBd{l:Lqq}{x0 x1:Int}{i:Nat}{y100 y101:Int}{i':Nat}(h0:(i:Int)<(l.length:Int))(h1:l[i]? = some [y100,y101])(h2:uni 2 l)(h3:dX [(aA x0),(aA x1)] [(0,3,true),(1,3,true)]=true∧dX [(aA y100),(aA y101)] [(0,3,true),(1,3,true)]=true)(h4:(nD [(aA x0),(aA x1)] [(aA y100),(aA y101)] [(0,3,true),(1,3,true)])=false)(h5:inR (((i+1):Nat):Int))(ei':i'=(i+1)):aC Tp 0 (sub (cd Tryz.f185) [1,0,1,0,0]) (rF l x0 x1 i) .normal (rF l x0 x1 i'):=by
 subst ei';exact aC.fin (g:=⟨(rng [(1,2),(4,3),(9,10)]),[0],[],[]⟩) (o:=[bT,.x (.agg [(aA y100),(aA y101)]),bF]) (l:=[_,_,_,_,_,0≤(i:Int)∧(i:Int)<(l.length:Int)∧(i*2)<(l.flatten.map aA).length,_]) (by kernel_rfl) (gc h5 (gc h4 (gc h3 (gc (aV (i:=i) h2 h1) (gc (bI (i:=i) h2 h1) (gc (cB (k:=2) (i:=(i:Int)) (by decide) h2 (kQ2 _) h1) (gc (aZ h0) gn)))))))
theorem bVx{l:Lqq}(hu:uni 2 l)(hn:(aL l 0).Nodup)(hl:l.length≤1000){i:Nat}{x0 x1:Int}(hi:l[i]? = some [x0,x1]){base:Nat}:FV Tp 185 [.p (fS l),.p (.agg [aA x0,aA x1])] base (pI (i:Int)) []:=by
 have hlt:=bD hi;refine bVw (i'0:=i) ?_;have hne:∀ j,j<i→∃ y0 y1,l[j]? = some [y0,y1]∧y0≠x0:=fun j hj=>by
  obtain ⟨y0,y1,hy⟩:=at2 hu (i:=j) (by omega)
  refine ⟨y0,y1,hy,fun e => ?_⟩
  have e1:(aL l 0)[j]? = some y0:=by unfold aL;rw [iH,hy];rfl
  have e2:(aL l 0)[i]? = some x0:=by unfold aL;rw [iH,hi];rfl
  obtain ⟨hj1,hj2⟩:=kQ3.1 e1;obtain ⟨hi1,hi2⟩:=kQ3.1 e2;have:=List.pairwise_iff_getElem.1 hn j i hj1 hi1 hj;rw [hj2,hi2] at this
  exact this e
 exact aJ.until (P:=Tp) i (fun j=>rF l x0 x1 j) i (dO _)
  (fun j hj=>by
   obtain ⟨y0,y1,hy,hn⟩:=hne j hj;exact bBd (by omega) hy hu ⟨rfl,rfl⟩ (by simp [nD,aDm];exact fun h=>absurd h.symm hn) (aP (by omega)) rfl)
  (bBc (by omega) hi hu ⟨rfl,rfl⟩ (by simp [nD,aDm])) (by simp)
theorem pP(h:bQ dl sk dc):uni 2 (aB sk)∧(aB sk).length≤30∧(∀ s∈aB sk,-1≤s.getD 1 0∧s.getD 1 0≤360000)∧(aL (aB sk) 0).Nodup:=by
 have hp:=eU sk;refine ⟨lU h.us,by rw [eP];exact h.len.2,fun s hs=>(zL.1 (h.hsk s (hp.mem_iff.1 hs))).2,?_⟩
 unfold aL;exact (hp.map _).nodup_iff.2 h.ns
theorem aIv(h:bQ dl sk dc)(ho:(aI dl (aB dc)).length≤8){base:Nat}:FV Tp 161 [pV dl (aB sk) (aB dc)] base (.tup [.own base,.p (aA 0)]) [(base,.row 195 (aX dl (aB sk) (aB dc)).length ((aX dl (aB sk) (aB dc)).map hpE).flatten)]:=by
 obtain ⟨h1,h2,h3,_⟩:=pP h;exact bWf (eF h) h1 (by omega) h3 ho
theorem bNu(h:bQ dl sk dc){i:Nat}{x0 x1:Int}(hi:(aB sk)[i]? = some [x0,x1]){base:Nat}:FV Tp 185 [.p (fS (aB sk)),.p (.agg [aA x0,aA x1])] base (pI (i:Int)) []:=by
 obtain ⟨h1,h2,_,h4⟩:=pP h;exact bVx h1 h4 (by omega) hi
theorem bVy{bib:Int}{i0:Nat}{s1 s2:Int}(h0:bQ dl sk dc)(h1:aHs (aB sk) bib=(i0:Int))(h2:(aB sk)[i0]? = some [s1,s2])(h3:(aI dl (aB dc)).length≤8){base:Nat}:FV Tp 140 [(.p (.agg (cF dl sk dc))),(pI bib)] base (.tup [(.p (.sl ((aX dl (aB sk) (aB dc)).length) (((aX dl (aB sk) (aB dc)).map hpE).flatten))),(pI (i0:Int)),(pI 0)]) []:=by
 exact FV.frz (FMM.fin (k:=0) (g:=⟨[],[],[2],[]⟩) rfl Tryz.func140 rfl (o:=[.c (.tup [(.rp (aH dl (aB sk) (aB dc)) 0),(.p (.agg [(aA s1),(aA s2)])),(pI 0)]) [],bF,.c (.tup [(.own 2),(pI 0)]) [(2,(.row 195 ((aX dl (aB sk) (aB dc)).length) (((aX dl (aB sk) (aB dc)).map hpE).flatten)))],.x (.sl ((aB sk).length) ((aB sk).flatten.map aA)),.c (pI (i0:Int)) []]) (l:=[_,(aH dl (aB sk) (aB dc))[1]? = some (.sl ((aB sk).length) ((aB sk).flatten.map aA)),_,_,_]) (by kernel_rfl) (gc (fk 3 (bNu h0 h2) rfl) (gc rfl (gc (fk 2 (aIv h0 h3) rfl) (gc bHd (gc (fk 1 (bEv h0 h1 h2) rfl) gn)))))) (by kernel_rfl)
theorem bVz{bib:Int}{i0:Nat}{s1 s2:Int}{c3:List bX}{mn4 mx5:Int}{r0:Bool}(h0:bQ dl sk dc)(h1:aHs (aB sk) bib=(i0:Int))(h2:(aB sk)[i0]? = some [s1,s2])(h3:(aI dl (aB dc)).length≤8)(h4:(aX dl (aB sk) (aB dc))[i0]? = some (c3,mn4,mx5))(h5:(aX dl (aB sk) (aB dc)).length≤1000)(h6:c3.length≤256)(er0:r0=(c3.any fun x=>x.2.1)){base:Nat}:FV Tp 71 [(.p (.agg (cF dl sk dc))),(pI bib)] base (.tup [(.p (aE (gL (aX dl (aB sk) (aB dc)) i0 c3))),(pB r0),(pI 0)]) []:=by
 subst er0;exact FV.fin Tryz.func71 rfl (o:=[.c (.tup [(.p (.sl ((aX dl (aB sk) (aB dc)).length) (((aX dl (aB sk) (aB dc)).map hpE).flatten))),(pI (i0:Int)),(pI 0)]) [],bF,.c (.tup [(.p (aE (gL (aX dl (aB sk) (aB dc)) i0 c3))),(pB (c3.any fun x=>x.2.1)),(pB (c3.any fun x => !x.2.1))]) []]) (l:=[_,_,FC Tp 140 [(.p (.agg (cF dl sk dc))),(pI bib)] [] 1 (.tup [(.p (.sl ((aX dl (aB sk) (aB dc)).length) (((aX dl (aB sk) (aB dc)).map hpE).flatten))),(pI (i0:Int)),(pI 0)]) []]) (by kernel_rfl) (gc (fk 1 (aCr h5 h4 h6) rfl) (gc bHd (gc (FV.fc (bVy h0 h1 h2 h3) rfl) gn)))
end
section
variable {dl:Int}{sk dc:Lqq}

noncomputable abbrev aCq:Code:=sub (cd Tryz.f93) [1,1,1,1,1,1,1,0,1,0,0]
theorem bHb:((0:Int) != (0:Int))=false:=by first | decide | simp
theorem bVr{l:List Int}{a b:Bool}{f x0:Int}{r0:Bool}(h0:b=true)(h1:a=false)(h2:inR ((l.length:Int)-1))(h3:l[((l.length:Int)-1).toNat]? = some x0)(h4:0≤((l.length:Int)-1))(er0:r0=(decide (x0≤f))){base:Nat}:FV Tp 95 [(.p (aE l)),(pB a),(pB b),(.rp [(aA f)] 0)] base (pB r0) []:=by
 subst er0;exact FV.fin Tryz.func95 rfl (o:=[bT,bT,bT,bT,bT,bT,bT,bT,bT,.x (aA x0),bT,.x (aA f),bT,bT]) (l:=[_,_,[(aA f)][0]? = some (aA f),_,(l.map aA)[(((l.length:Int)-1).toNat*1)]? = some (aA x0),_,_,_,_,_,_,_,_,_,_,_]) (by kernel_rfl) (g2c (cL h1) (gc rfl (gc (cL h1) (gc (pC (i:=((l.length:Int)-1).toNat) h3) (gc (cL h1) (gc (pD (g:=aA) h4 h3) (gc (cL h1) (gc h2 (g4c (cL h1) (g3c h0 gn))))))))))
theorem bVs{l:List Int}{a b:Bool}{f:Int}(h0:b=true)(h1:a=true){base:Nat}:FV Tp 95 [(.p (aE l)),(pB a),(pB b),(.rp [(aA f)] 0)] base (pB false) []:=by
 exact FV.fin Tryz.func95 rfl (o:=[bT,bT,bT,bF,bF,bF,bF,bF,bF,bF,bF,bF]) (l:=[_,_,_,_,_,_,_,_,_,_,_,_]) (by kernel_rfl) (g8c (aY h1) (gc (aY h1) (g3c h0 gn)))
theorem bVt{l:List Int}{a b:Bool}{f:Int}(h0:b=false){base:Nat}:FV Tp 95 [(.p (aE l)),(pB a),(pB b),(.rp [(aA f)] 0)] base (pB false) []:=by
 exact FV.fin Tryz.func95 rfl (o:=[bF,bF,bF]) (l:=[_,_,_]) (by kernel_rfl) (g3c h0 gn)
def aIu(l:List Int)(a b:Bool)(f:Int):Bool:=b && (!a && decide (l.getD (l.length-1) 0≤f))
theorem bHc(l:List Int)(a b:Bool)(f:Int)(hl:l.length≤1000000)(hb:b=true→l≠[]){base:Nat}:FV Tp 95 [.p (aE l),.p (blP a),.p (blP b),.rp [aA f] 0] base (pB (aIu l a b f)) []:=by
 cases b with
 | false=>exact bVt rfl
 | true =>
  cases a with
  | true=>exact bVs rfl rfl
  | false =>
   have h0:=hb rfl;have h1:0<l.length:=List.length_pos_iff.2 h0;have h2:l[l.length-1]? = some (l.getD (l.length-1) 0):=by rw [kQ4,kQ0 (by omega)];rfl
   have e:((l.length:Int)-1).toNat=l.length-1:=by omega
   exact bVr (x0:=l.getD (l.length-1) 0) rfl rfl (by unfold inR;omega) (by rw [e];exact h2) (by omega) (by unfold aIu;simp)
def kR(dl:Int)(sk:Lqq)(dc:Lqq)(fi:Int)(on:Nat)(oc:List PV)(i:Nat):St:=⟨fr 58 [(2,(.fn 95 [] [(.rp [(aA fi)] 0)])),(6,(.p cC)),(7,(pI 0)),(10,(.p (.sl ((aX dl (aB sk) (aB dc)).length) (((aX dl (aB sk) (aB dc)).map hpE).flatten)))),(11,(.own 0)),(36,(.p (.sl ((aB sk).length) ((aB sk).flatten.map aA)))),(37,(pI (((aB sk).length:Nat):Int))),(38,(pI (i:Int)))],[some (.row 3 on oc)]⟩
theorem bVu{fi:Int}{o'0:List Int}{i'1:Nat}(h0:bQ dl sk dc)(h1:(1:Int)≤fi)(h2:(aI dl (aB dc)).length≤8)(hl3:aJ Tp 0 aCq (kR dl sk dc fi 0 [] 0) (.exit 0) (kR dl sk dc fi o'0.length (o'0.map aA) i'1)){base:Nat}:FV Tp 93 [(.p (.agg (cF dl sk dc))),(pI fi),(.fn 95 [] [(.rp [(aA fi)] 0)])] base (.tup [(.p (aE o'0)),(pI 0)]) []:=by
 exact FV.frz (FMM.fin (k:=0) (g:=⟨[],[],[0],[]⟩) rfl Tryz.func93 rfl (o:=[.c (.tup [(.rp (aH dl (aB sk) (aB dc)) 0),(pI 0)]) [],bF,bF,.c (.tup [(.own 1),(pI 0)]) [(1,(.row 195 ((aX dl (aB sk) (aB dc)).length) (((aX dl (aB sk) (aB dc)).map hpE).flatten)))],bF,.g 1 ⟨[],[0],[1],[]⟩,.x (.sl ((aB sk).length) ((aB sk).flatten.map aA)),.k 1 ⟨(rng [(0,2),(3,3),(8,2),(12,24),(39,18)]),[1],[],[(11,3)]⟩ (.exit 0) (kR dl sk dc fi o'0.length (o'0.map aA) i'1)]) (l:=[_,(aH dl (aB sk) (aB dc))[1]? = some (.sl ((aB sk).length) ((aB sk).flatten.map aA)),_,_,_,_,_]) (by kernel_rfl) (gc hl3.code (gc rfl (gc bHb (gc (fk 1 (aIv h0 h2) rfl) (gc (bJ h1) (gc bHb (gc (fk 1 (iC dl sk dc h0) rfl) gn)))))))) (by kernel_rfl)
theorem bAz{fi:Int}{o:List Int}{i:Nat}{y100 y101:Int}{c102:List bX}{mn103 mx104:Int}{o':List Int}{i':Nat}(h0:(i:Int)<(((aB sk).length:Nat):Int))(h1:(aB sk)[i]? = some [y100,y101])(h2:uni 2 (aB sk))(h3:(aX dl (aB sk) (aB dc))[i]? = some (c102,mn103,mx104))(h4:(aX dl (aB sk) (aB dc)).length≤1000)(h5:c102.length≤256)(h6:(gL (aX dl (aB sk) (aB dc)) i c102).length≤1000000)(h7:(c102.any fun x => !x.2.1)=true→(gL (aX dl (aB sk) (aB dc)) i c102)≠[])(h8:(aIu (gL (aX dl (aB sk) (aB dc)) i c102) (c102.any fun x=>x.2.1) (c102.any fun x => !x.2.1) fi)=true)(h9:[(aA y100)].length=1*1∧o.length+1≤1000000)(h10:inR (((i+1):Nat):Int))(eo'n:o'.length=(o.length+1))(eo'c:o'.map aA=((o.map aA)++[(aA y100)]))(ei':i'=(i+1)):aC Tp 0 aCq (kR dl sk dc fi o.length (o.map aA) i) .normal (kR dl sk dc fi o'.length (o'.map aA) i'):=by
 subst ei';have raw:aC Tp 0 aCq (kR dl sk dc fi o.length (o.map aA) i) .normal (kR dl sk dc fi (o.length+1) ((o.map aA)++[(aA y100)]) (i+1)):=aC.fin (g:=⟨(rng [(0,2),(3,3),(8,2),(12,24),(39,18)]),[3],[],[]⟩) (o:=[bT,.x (.agg [(aA y100),(aA y101)]),.c (.tup [(.p (aE (gL (aX dl (aB sk) (aB dc)) i c102))),(pB (c102.any fun x=>x.2.1)),(pB (c102.any fun x => !x.2.1))]) [],.c (pB (aIu (gL (aX dl (aB sk) (aB dc)) i c102) (c102.any fun x=>x.2.1) (c102.any fun x => !x.2.1) fi)) [],bT]) (l:=[_,_,_,_,_,_,_,0≤(i:Int)∧(i:Int)<(((aB sk).length:Nat):Int)∧(i*2)<((aB sk).flatten.map aA).length,_]) (by kernel_rfl) (gc h10 (gc h9 (gc h8 (gc (fk 2 (bHc (gL (aX dl (aB sk) (aB dc)) i c102) (c102.any fun x=>x.2.1) (c102.any fun x => !x.2.1) fi h6 h7) rfl) (gc (fk 2 (aCr h4 h3 h5) rfl) (gc (aV (i:=i) h2 h1) (gc (bI (i:=i) h2 h1) (gc (cB (k:=2) (i:=(i:Int)) (by decide) h2 (kQ2 _) h1) (gc (aZ h0) gn)))))))))
 exact raw.cast (by rw [eo'n,eo'c])
theorem bBa{fi:Int}{o:List Int}{i:Nat}{y100 y101:Int}{c102:List bX}{mn103 mx104:Int}{i':Nat}(h0:(i:Int)<(((aB sk).length:Nat):Int))(h1:(aB sk)[i]? = some [y100,y101])(h2:uni 2 (aB sk))(h3:(aX dl (aB sk) (aB dc))[i]? = some (c102,mn103,mx104))(h4:(aX dl (aB sk) (aB dc)).length≤1000)(h5:c102.length≤256)(h6:(gL (aX dl (aB sk) (aB dc)) i c102).length≤1000000)(h7:(c102.any fun x => !x.2.1)=true→(gL (aX dl (aB sk) (aB dc)) i c102)≠[])(h8:(aIu (gL (aX dl (aB sk) (aB dc)) i c102) (c102.any fun x=>x.2.1) (c102.any fun x => !x.2.1) fi)=false)(h9:inR (((i+1):Nat):Int))(ei':i'=(i+1)):aC Tp 0 aCq (kR dl sk dc fi o.length (o.map aA) i) .normal (kR dl sk dc fi o.length (o.map aA) i'):=by
 subst ei';exact aC.fin (g:=⟨(rng [(0,2),(3,3),(8,2),(12,24),(39,18)]),[0],[],[]⟩) (o:=[bT,.x (.agg [(aA y100),(aA y101)]),.c (.tup [(.p (aE (gL (aX dl (aB sk) (aB dc)) i c102))),(pB (c102.any fun x=>x.2.1)),(pB (c102.any fun x => !x.2.1))]) [],.c (pB (aIu (gL (aX dl (aB sk) (aB dc)) i c102) (c102.any fun x=>x.2.1) (c102.any fun x => !x.2.1) fi)) [],bF]) (l:=[_,_,_,_,_,_,0≤(i:Int)∧(i:Int)<(((aB sk).length:Nat):Int)∧(i*2)<((aB sk).flatten.map aA).length,_]) (by kernel_rfl) (gc h9 (gc h8 (gc (fk 2 (bHc (gL (aX dl (aB sk) (aB dc)) i c102) (c102.any fun x=>x.2.1) (c102.any fun x => !x.2.1) fi h6 h7) rfl) (gc (fk 2 (aCr h4 h3 h5) rfl) (gc (aV (i:=i) h2 h1) (gc (bI (i:=i) h2 h1) (gc (cB (k:=2) (i:=(i:Int)) (by decide) h2 (kQ2 _) h1) (gc (aZ h0) gn))))))))
theorem bBb{fi:Int}{o:List Int}{i:Nat}(h0:(((aB sk).length:Nat):Int)≤(i:Int)):aC Tp 0 aCq (kR dl sk dc fi o.length (o.map aA) i) (.exit 0) (kR dl sk dc fi o.length (o.map aA) i):=by
 exact aC.fin (g:=⟨(rng [(0,2),(3,3),(8,2),(12,24),(39,18)]),[0],[],[]⟩) (o:=[bF]) (l:=[_]) (by kernel_rfl) (gc (bJ h0) gn)
abbrev bXt(dl:Int)(sk dc:Lqq)(fi:Int)(o:List Int)(e:Int):Prop:=∀ base:Nat,FV Tp 93 [.p (.agg (cF dl sk dc)),.p (aA fi),.fn 95 [] [.rp [aA fi] 0]] base (.tup [.p (aE o),.p (aA e)]) []
theorem bVv{fi e0:Int}{o1:List Int}(h0:bXt dl sk dc fi o1 e0){base:Nat}:FV Tp 33 [(.p (.agg (cF dl sk dc))),(pI fi)] base (.tup [(.p (aE o1)),(pI e0)]) []:=by
 exact FV.fin Tryz.func33 rfl (o:=[.g 3 ⟨[],[0],[1],[]⟩,.x (aA fi),.c (.tup [(.p (aE o1)),(pI e0)]) []]) (l:=[FC Tp 93 [(.p (.agg (cF dl sk dc))),(pI fi),(.fn 95 [] [(.rp [(aA fi)] 0)])] [] 1 (.tup [(.p (aE o1)),(pI e0)]) [],[(aA fi)][0]? = some (aA fi)]) (by kernel_rfl) (gc (FV.fc (h0 _) rfl) (gc rfl gn))
end
end KV
end Go.Proofs
section
namespace Go.Proofs
open Go.RowKit Go.Lib
namespace KV
theorem aIt(o:List Int):fG o≠[]:=fun h=>by
 have:=vD o;rw [h] at this
 have:=Nat.two_pow_pos o.length;simp at *
 omega
theorem bGy(l:List bX):∀ m,l.foldl (fun m x=>if x.1<m then x.1 else m) m≤m∧∀ x∈l,l.foldl (fun m x=>if x.1<m then x.1 else m) m≤x.1:=by
 induction l with
 | nil=>intro m;exact ⟨aDr _,fun x h=>by cases h⟩
 | cons a l ih =>
  intro m;rw [sG];obtain ⟨h1,h2⟩:=ih (if a.1<m then a.1 else m)
  have ha:(if a.1<m then a.1 else m)≤m∧(if a.1<m then a.1 else m)≤a.1:=by split <;> omega
  exact ⟨by omega,fun x hx=>by
   rcases iW.1 hx with rfl | hx
   ·omega
   ·exact h2 x hx⟩
theorem bGz(l:List bX):∀ m,m≤l.foldl (fun m x=>if x.1 > m then x.1 else m) m∧∀ x∈l,x.1≤l.foldl (fun m x=>if x.1 > m then x.1 else m) m:=by
 induction l with
 | nil=>intro m;exact ⟨aDr _,fun x h=>by cases h⟩
 | cons a l ih =>
  intro m;rw [sG];obtain ⟨h1,h2⟩:=ih (if a.1 > m then a.1 else m)
  have ha:m≤(if a.1 > m then a.1 else m)∧a.1≤(if a.1 > m then a.1 else m):=by split <;> omega
  exact ⟨by omega,fun x hx=>by
   rcases iW.1 hx with rfl | hx
   ·omega
   ·exact h2 x hx⟩
theorem bNs{l:List bX}(h:l≠[]):mnM l≤mxM l:=by
 obtain ⟨x,hx⟩:=List.exists_mem_of_ne_nil l h;exact Int.le_trans ((bGy l far).2 x hx) ((bGz l 0).2 x hx)
theorem bNt(dl:Int)(dc:Lqq)(s0 s1:Int)(o:List Int):(iG dl dc s0 s1 o).2.1≤(iG dl dc s0 s1 o).2.2:=bNs fun h=>aIt o (bJe.1 h)
theorem xH(dl:Int)(sk dc:Lqq):(aX dl sk dc).length=sk.length:=by unfold aX;simp
theorem vW{dl:Int}{sk dc:Lqq}{i:Nat}{s:List Int}(h:sk[i]? = some s):(aX dl sk dc)[i]? = some (iG dl dc (s.getD 0 0) (s.getD 1 0) (lC dl dc (s.getD 0 0))):=by
 unfold aX;rw [iH,h];rfl
theorem aCp{dl:Int}{dc:Lqq}{s0 s1:Int}(b:Int)(ho:(aI dl dc).length≤8):(iG dl dc s0 s1 (lC dl dc b)).1.length≤256:=by
 show ((fG (lC dl dc b)).map _).length≤256;rw [kQ9,vD];have:=bHf dl dc b;exact gK (Nat.pow_le_pow_right (by omega) (show (lC dl dc b).length≤8 by omega)) (by decide)
theorem aUa{al:List fD}(h:∀ x∈al,x.2.1≤x.2.2)(s:Nat)(t:Int):∀ i,(gH al s t i).1≤(gH al s t i).2
 | 0=>dO _
 | i+1=>by
  have ih:=aUa h s t i;unfold gH
  split
  ·rename_i x hx
   have:=h x (kQ5 hx)
   split
   ·exact ih
   ·dsimp only
    split <;> split <;> omega
  ·exact ih
theorem aRt{l:List Int}(h:l≠[]):Lib.compact l≠[]:=fun e=>by
 have:(Lib.compact l).length=0:=by rw [e];rfl
 unfold Lib.compact Lib.compactUpTo at this
 rw [kQ9] at this
 have h0:0∈(List.range l.length).filter (Lib.keeps l.toArray):=vB.2 ⟨nH.2 (List.length_pos_iff.2 h),Lib.keeps_lt_one _ 0 (by omega)⟩
 rw [aBg this] at h0
 cases h0
theorem bHa{al:List fD}(h:∀ x∈al,x.2.1≤x.2.2)(s:Nat){c:List bX}(hc:(c.any fun x => !x.2.1)=true):gL al s c≠[]:=by
 unfold gL;refine aRt fun e => ?_
 have e2:c.flatMap (chL al s)=[]:=by
  have:=bJc (le:=KL.leB) (c.flatMap (chL al s));rw [e] at this
  exact aBg this.symm
 obtain ⟨x,hx,hn⟩:=List.any_eq_true.1 hc;have h1:chL al s x=[]:=List.flatMap_eq_nil_iff.1 e2 x hx;have hf:x.2.1=false:=by simpa using hn
 unfold chL aIy at h1
 rw [hf] at h1
 have:=congrArg List.length h1;have hl:=aUa h s x.1 al.length;simp at this
 have h3:(cQ al s x.1).1≤(cQ al s x.1).2:=hl;omega
theorem aUb{al:List fD}(hal:al.length≤1000)(s:Nat){c:List bX}(hc:c.length≤256):(gL al s c).length≤1000000:=by
 unfold gL;refine gK (aCs _) ?_;rw [bJc];have:=aIz hal s c;omega
theorem aMr(dl:Int)(sk dc:Lqq):∀ x∈aX dl sk dc,x.2.1≤x.2.2:=fun x hx=>by
 obtain ⟨s,_,rfl⟩:=dF.1 hx;exact bNt ..
end KV
end Go.Proofs
end
namespace Go.Proofs
namespace KV
section
def yO(dl:Int)(sk dc:Lqq)(f:Int)(i:Nat):Bool:=match (aX dl sk dc)[i]? with
 | some h=>aIu (gL (aX dl sk dc) i h.1) (h.1.any fun x=>x.2.1) (h.1.any fun x => !x.2.1) f
 | none=>false
def aMq(dl:Int)(sk dc:Lqq)(f:Int):List Int:=((List.range sk.length).filter (yO dl sk dc f)).map fun i=>(sk.getD i []).getD 0 0
theorem bVo{dl:Int}{sk dc:Lqq}(h:bQ dl sk dc){bib:Int}{i:Nat}{s0 s1:Int}(hp:aHs (aB sk) bib=(i:Int))(hs:(aB sk)[i]? = some [s0,s1])(ho:(aI dl (aB dc)).length≤8){base:Nat} :
  FV Tp 71 [.p (.agg (cF dl sk dc)),.p (aA bib)] base (.tup [.p (aE (gL (aX dl (aB sk) (aB dc)) i (iG dl (aB dc) s0 s1 (lC dl (aB dc) s0)).1)),.p (blP ((iG dl (aB dc) s0 s1 (lC dl (aB dc) s0)).1.any fun x=>x.2.1)),.p (aA 0)]) []:=by
 obtain ⟨_,h2,_,_⟩:=pP h;exact bVz h hp hs ho (vW hs) (by rw [xH];omega) (aCp s0 ho) rfl
theorem bVp{dl:Int}{sk dc:Lqq}(h:bQ dl sk dc){f:Int}(hf:1≤f)(ho:(aI dl (aB dc)).length≤8):bXt dl sk dc f (aMq dl (aB sk) (aB dc) f) 0:=fun base=>by
 obtain ⟨h1,h2,_,_⟩:=pP h;obtain ⟨o,hI,hL⟩:=aJ.ex (P:=Tp) (k:=0) (b:=sub (cd Tryz.f93) [1,1,1,1,1,1,1,0,1,0,0]) (e := .exit 0) (fun i (o:List Int)=>kR dl sk dc f o.length (o.map aA) i) (fun o=>kR dl sk dc f o.length (o.map aA) (aB sk).length)
  (fun i o=>o=((List.range i).filter (yO dl (aB sk) (aB dc) f)).map fun i=>((aB sk).getD i []).getD 0 0) (by simp) (aB sk).length
  (fun i o hi hoE=>by
   obtain ⟨y0,y1,hy⟩:=at2 h1 hi;have hat:=vW (dl:=dl) (dc:=aB dc) hy;have hlen:o.length≤i:=by
    rw [hoE,kQ9];have:=uZ (yO dl (aB sk) (aB dc) f) (List.range i);simpa using this
   have hmb:yO dl (aB sk) (aB dc) f i=aIu (gL (aX dl (aB sk) (aB dc)) i (iG dl (aB dc) y0 y1 (lC dl (aB dc) y0)).1) ((iG dl (aB dc) y0 y1 (lC dl (aB dc) y0)).1.any fun x=>x.2.1) ((iG dl (aB dc) y0 y1 (lC dl (aB dc) y0)).1.any fun x => !x.2.1) f:=by
    unfold yO;rw [hat];rfl
   have hal:(aX dl (aB sk) (aB dc)).length≤1000:=by rw [xH];omega
   have hc:=aCp (s0:=y0) (s1:=y1) y0 ho;have hg:((aB sk).getD i []).getD 0 0=y0:=by simp [kQ4,hy]
   cases hb:yO dl (aB sk) (aB dc) f i with
   | true =>
    refine ⟨o++[y0],?_,bAz (by omega) hy h1 hat hal hc (aUb hal i hc) (fun hn=>bHa (aMr _ _ _) i hn) (by rw [← hb,hmb];rfl) ⟨rfl,by omega⟩ (aP (by omega)) (by simp) (by simp) rfl⟩
    rw [hoE,List.range_succ,nG,hZ];simp only [List.filter_cons,hb,if_true,List.filter_nil,iJ,List.map_nil,hg]
   | false =>
    refine ⟨o,?_,bBa (by omega) hy h1 hat hal hc (aUb hal i hc) (fun hn=>bHa (aMr _ _ _) i hn) (by rw [← hb,hmb];rfl) (aP (by omega)) rfl⟩
    rw [hoE,List.range_succ,nG,hZ];simp [List.filter_cons,hb])
  (fun o _=>bBb (by omega)) (acc:=[]) (by simp)
 have e:o=aMq dl (aB sk) (aB dc) f:=hI;rw [← e];exact bVu h hf ho hL
theorem bVq{dl:Int}{sk dc:Lqq}(h:bQ dl sk dc){f:Int}(hf:1≤f)(ho:(aI dl (aB dc)).length≤8){base:Nat}:FV Tp 33 [.p (.agg (cF dl sk dc)),.p (aA f)] base (.tup [.p (aE (aMq dl (aB sk) (aB dc) f)),.p (aA 0)]) []:=bVv (bVp h hf ho)
end
section

noncomputable abbrev xF:Code:=sub (cd Tryz.f51) [1,1,0,1,0,0]
noncomputable abbrev xG:Code:=sub (cd Tryz.f41) [1,1,0,1,0,0]
theorem bVh{dl:Int}{sk dc:Lqq}{bib:Int}{i0:Nat}{s1 s2 n3:Int}{b4:Bool}{T5:Lqb}(h0:bQ dl sk dc)(h1:aHs (aB sk) bib=(i0:Int))(h2:(aB sk)[i0]? = some [s1,s2])(h3:aDt dl (aB sk) (aB dc) cC [s1,s2] n3 b4 ([]:Lqb) T5){base:Nat}:FV Tp 61 [(.p (.agg (cF dl sk dc))),(pI bib)] base (.tup [(pI n3),(pB b4),(pI 0)]) []:=by
 exact FV.fin Tryz.func61 rfl (o:=[.c (.tup [(.rp (aH dl (aB sk) (aB dc)) 0),(.p (.agg [(aA s1),(aA s2)])),(pI 0)]) [],bF,.c (.agg (kVL 6 7 2 4 8 3)) [(2,(vB0 dl (aB sk) (aB dc))),(3,(.box 33 [(.p cC)])),(4,(.box 139 (kVL 6 7 2 4 8 3))),(5,(.mp (aG ([]:Lqb)) 0)),(6,(.box 207 [(.mp 5)])),(7,(vB5 dl (aB sk) (aB dc))),(8,(.box 209 [(.fn 153 [] [(.ptr 2 0),(.ptr 4 0)])]))],.c (.tup [(pI n3),(pB b4)]) [(2,(vB0 dl (aB sk) (aB dc))),(3,(.box 33 [(.p cC)])),(4,(.box 139 (kVL 6 7 2 4 8 3))),(5,(.mp (aG T5) T5.length)),(6,(.box 207 [(.mp 5)])),(7,(vB5 dl (aB sk) (aB dc))),(8,(.box 209 [(.fn 153 [] [(.ptr 2 0),(.ptr 4 0)])]))]]) (l:=[FC Tp 134 [(.rp (aH dl (aB sk) (aB dc)) 0),(.p (.agg [(aA s1),(aA s2)])),(.agg (kVL 6 7 2 4 8 3))] [(6,(.box 207 [(.mp 5)])),(7,(vB5 dl (aB sk) (aB dc))),(2,(vB0 dl (aB sk) (aB dc))),(4,(.box 139 (kVL 6 7 2 4 8 3))),(8,(.box 209 [(.fn 153 [] [(.ptr 2 0),(.ptr 4 0)])])),(3,(.box 33 [(.p cC)])),(5,(.mp (aG ([]:Lqb)) 0))] 10 (.tup [(pI n3),(pB b4)]) [(2,(vB0 dl (aB sk) (aB dc))),(3,(.box 33 [(.p cC)])),(4,(.box 139 (kVL 6 7 2 4 8 3))),(5,(.mp (aG T5) T5.length)),(6,(.box 207 [(.mp 5)])),(7,(vB5 dl (aB sk) (aB dc))),(8,(.box 209 [(.fn 153 [] [(.ptr 2 0),(.ptr 4 0)])]))],FC Tp 87 [(.rp (aH dl (aB sk) (aB dc)) 0),(.p cC)] [] 2 (.agg (kVL 6 7 2 4 8 3)) [(2,(vB0 dl (aB sk) (aB dc))),(3,(.box 33 [(.p cC)])),(4,(.box 139 (kVL 6 7 2 4 8 3))),(5,(.mp (aG ([]:Lqb)) 0)),(6,(.box 207 [(.mp 5)])),(7,(vB5 dl (aB sk) (aB dc))),(8,(.box 209 [(.fn 153 [] [(.ptr 2 0),(.ptr 4 0)])]))],((0:Int) != (0:Int))=false,_]) (by kernel_rfl) (gc (FMM.fc (ids:=[2,3,4,5,6,7,8]) h3 (by kernel_rfl)) (gc (FMM.fcN (k:=7) rfl (ids:=[]) (aId (dl:=dl) (sk:=(aB sk)) (dc:=(aB dc))) (by kernel_rfl)) (gc (by first | decide | simp) (gc (fk 1 (bEv h0 h1 h2) rfl) gn))))
def jA(a:Lqq)(b:Lqq)(i:Nat):St:=⟨fr 26 [(0,(.p (fS a))),(1,(.p (fS b))),(12,(pI (a.length:Int))),(13,(pI (i:Int)))],[]⟩
theorem bVi{a b:Lqq}(h0:(a.length:Int)≠(b.length:Int)){base:Nat}:FV Tp 51 [(.p (fS a)),(.p (fS b))] base (pB false) []:=by
 exact FV.fin Tryz.func51 rfl (o:=[bT]) (l:=[_]) (by kernel_rfl) (gc (oG h0) gn)
theorem bVj{a b:Lqq}{i'0:Nat}(h0:(a.length:Int)=(b.length:Int))(hl1:aJ Tp 0 xF (jA a b 0) (.exit 0) (jA a b i'0)){base:Nat}:FV Tp 51 [(.p (fS a)),(.p (fS b))] base (pB true) []:=by
 exact FV.fin Tryz.func51 rfl (o:=[bF,.k 4 ⟨(rng [(2,10),(14,12)]),[],[],[]⟩ (.exit 0) (jA a b i'0)]) (l:=[_,_]) (by kernel_rfl) (gc hl1.code (gc (mY h0) gn))
theorem bVk{a b:Lqq}{i'0:Nat}(h0:(a.length:Int)=(b.length:Int))(hl1:aJ Tp 0 xF (jA a b 0) .ret (cE (jA a b i'0) [(4,(.kb false))])){base:Nat}:FV Tp 51 [(.p (fS a)),(.p (fS b))] base (pB false) []:=by
 exact FV.fin Tryz.func51 rfl (o:=[bF,.k 4 ⟨(rng [(2,10),(14,12)]),[],[],[]⟩ .ret (cE (jA a b i'0) [(4,(.kb false))])]) (l:=[_,_]) (by kernel_rfl) (gc hl1.code (gc (mY h0) gn))
theorem bAt{a b:Lqq}{i:Nat}{y100 y101 y102 y103 y104 y105:Int}(h0:(i:Int)<(a.length:Int))(h1:a[i]? = some [y100,y101,y102])(h2:uni 3 a)(h3:b[i]? = some [y103,y104,y105])(h4:uni 3 b)(h5:dX [(aA y100),(aA y101),(aA y102)] [(0,3,true),(1,3,true),(2,3,true)]=true∧dX [(aA y103),(aA y104),(aA y105)] [(0,3,true),(1,3,true),(2,3,true)]=true)(h6:(nD [(aA y100),(aA y101),(aA y102)] [(aA y103),(aA y104),(aA y105)] [(0,3,true),(1,3,true),(2,3,true)])=false):aC Tp 0 xF (jA a b i) .ret (cE (jA a b i) [(4,(.kb false))]):=by
 exact aC.fin (g:=⟨(rng [(2,2),(5,7),(14,12)]),[],[],[]⟩) (o:=[bT,.x (.agg [(aA y100),(aA y101),(aA y102)]),.x (.agg [(aA y103),(aA y104),(aA y105)]),bT]) (l:=[_,_,_,_,0≤(i:Int)∧(i:Int)<(b.length:Int)∧(i*3)<(b.flatten.map aA).length,_,_,0≤(i:Int)∧(i:Int)<(a.length:Int)∧(i*3)<(a.flatten.map aA).length,_]) (by kernel_rfl) (gc (cL h6) (gc h5 (gc (aV (i:=i) h4 h3) (gc (bI (i:=i) h4 h3) (gc (cB (k:=3) (i:=(i:Int)) (by decide) h4 (kQ2 _) h3) (gc (aV (i:=i) h2 h1) (gc (bI (i:=i) h2 h1) (gc (cB (k:=3) (i:=(i:Int)) (by decide) h2 (kQ2 _) h1) (gc (aZ h0) gn)))))))))
theorem bAu{a b:Lqq}{i:Nat}{y100 y101 y102 y103 y104 y105:Int}{i':Nat}(h0:(i:Int)<(a.length:Int))(h1:a[i]? = some [y100,y101,y102])(h2:uni 3 a)(h3:b[i]? = some [y103,y104,y105])(h4:uni 3 b)(h5:dX [(aA y100),(aA y101),(aA y102)] [(0,3,true),(1,3,true),(2,3,true)]=true∧dX [(aA y103),(aA y104),(aA y105)] [(0,3,true),(1,3,true),(2,3,true)]=true)(h6:(nD [(aA y100),(aA y101),(aA y102)] [(aA y103),(aA y104),(aA y105)] [(0,3,true),(1,3,true),(2,3,true)])=true)(h7:inR (((i+1):Nat):Int))(ei':i'=(i+1)):aC Tp 0 xF (jA a b i) .normal (jA a b i'):=by
 subst ei';exact aC.fin (g:=⟨(rng [(2,10),(14,12)]),[],[],[]⟩) (o:=[bT,.x (.agg [(aA y100),(aA y101),(aA y102)]),.x (.agg [(aA y103),(aA y104),(aA y105)]),bF]) (l:=[_,_,_,_,_,0≤(i:Int)∧(i:Int)<(b.length:Int)∧(i*3)<(b.flatten.map aA).length,_,_,0≤(i:Int)∧(i:Int)<(a.length:Int)∧(i*3)<(a.flatten.map aA).length,_]) (by kernel_rfl) (gc h7 (gc (aY h6) (gc h5 (gc (aV (i:=i) h4 h3) (gc (bI (i:=i) h4 h3) (gc (cB (k:=3) (i:=(i:Int)) (by decide) h4 (kQ2 _) h3) (gc (aV (i:=i) h2 h1) (gc (bI (i:=i) h2 h1) (gc (cB (k:=3) (i:=(i:Int)) (by decide) h2 (kQ2 _) h1) (gc (aZ h0) gn))))))))))
theorem bAv{a b:Lqq}{i:Nat}(h0:(a.length:Int)≤(i:Int)):aC Tp 0 xF (jA a b i) (.exit 0) (jA a b i):=by
 exact aC.fin (g:=⟨(rng [(2,10),(14,12)]),[],[],[]⟩) (o:=[bF]) (l:=[_]) (by kernel_rfl) (gc (bJ h0) gn)
theorem aRs(a b:Lqq)(ha:uni 3 a)(hb:uni 3 b)(hl:a.length≤1000){base:Nat}:FV Tp 51 [.p (fS a),.p (fS b)] base (pB (decide (a=b))) []:=by
 by_cases hlen:a.length=b.length
 ·have eqx:∀ i,i<a.length→∃ x y,a[i]? = some x∧b[i]? = some y∧x.length=3∧y.length=3:=fun i hi =>
   ⟨a[i],b[i],kQ0 hi,kQ0 (by omega),ha _ (iQ hi),hb _ (iQ (by omega))⟩
  rcases aJ.find (P:=Tp) (k:=0) (b:=xF) (fun i=>jA a b i) (fun i _=>cE (jA a b i) [(4,.kb false)]) (jA a b a.length) .ret (.exit 0) (by simp) (by simp) (fun j=>decide (a.getD j []≠b.getD j [])) (List.range a.length)
   (fun i x hx hp=>by
    have hi:i<a.length:=by have:=bD hx;simpa using this
    obtain ⟨y,z,hy,hz,ly,lz⟩:=eqx i hi;obtain ⟨a,b,c,rfl⟩:=len3 ly;obtain ⟨a',b',c',rfl⟩:=len3 lz;have hxi:x=i:=by rw [aOs hi] at hx;exact (Option.some.inj hx).symm
    subst hxi;have he:=of_decide_eq_false hp;simp only [kQ4,hy,hz,Option.getD_some,ne_eq,Classical.not_not] at he
    cases he;exact bAu (by omega) hy ha hz hb ⟨rfl,rfl⟩ (by simp [nD,aDm]) (aP (by omega)) rfl)
   (fun i x hx hp=>by
    have hi:i<a.length:=by have:=bD hx;simpa using this
    obtain ⟨y,z,hy,hz,ly,lz⟩:=eqx i hi;obtain ⟨a,b,c,rfl⟩:=len3 ly;obtain ⟨a',b',c',rfl⟩:=len3 lz;have hxi:x=i:=by rw [aOs hi] at hx;exact (Option.some.inj hx).symm
    subst hxi;have he:=of_decide_eq_true hp;simp only [kQ4,hy,hz,Option.getD_some] at he
    exact bAt (by omega) hy ha hz hb ⟨rfl,rfl⟩ (by
     rw [Bool.eq_false_iff];intro h;simp [nD,aDm] at h
     exact he (by simp [h])))
   (by rw [bJg];exact bAv (by omega)) with ⟨i,x,h1,h2,h3,h4⟩ | ⟨h1,h2,h3⟩
  ·have hi:i<a.length:=by have:=bD h1;simpa using this
   have hxi:x=i:=by rw [aOs hi] at h1;exact (Option.some.inj h1).symm
   have he:=of_decide_eq_true h3;rw [decide_eq_false (fun e=>he (by rw [e]))]
   exact bVk (by omega) h4
  ·have hall:∀ i,i<a.length→a.getD i []=b.getD i []:=fun i hi=>by
    have:=List.any_eq_false.1 h2 i (nH.2 hi);simpa using this
   have e:a=b:=by
    apply List.ext_getElem hlen;intro i h1 h2;have:=hall i h1;simpa [kQ4,kQ0 h1,kQ0 h2] using this
   rw [decide_eq_true e];exact bVj (by omega) h3
 ·rw [decide_eq_false (fun e=>hlen (by rw [e]))]
  exact bVi (by omega)
def jB(a:List Int)(b:List Int)(i:Nat):St:=⟨fr 26 [(0,(.p (aE a))),(1,(.p (aE b))),(12,(pI (a.length:Int))),(13,(pI (i:Int)))],[]⟩
theorem bVl{a b:List Int}(h0:(a.length:Int)≠(b.length:Int)){base:Nat}:FV Tp 41 [(.p (aE a)),(.p (aE b))] base (pB false) []:=by
 exact FV.fin Tryz.func41 rfl (o:=[bT]) (l:=[_]) (by kernel_rfl) (gc (oG h0) gn)
theorem bVm{a b:List Int}{i'0:Nat}(h0:(a.length:Int)=(b.length:Int))(hl1:aJ Tp 0 xG (jB a b 0) (.exit 0) (jB a b i'0)){base:Nat}:FV Tp 41 [(.p (aE a)),(.p (aE b))] base (pB true) []:=by
 exact FV.fin Tryz.func41 rfl (o:=[bF,.k 4 ⟨(rng [(2,10),(14,12)]),[],[],[]⟩ (.exit 0) (jB a b i'0)]) (l:=[_,_]) (by kernel_rfl) (gc hl1.code (gc (mY h0) gn))
theorem bVn{a b:List Int}{i'0:Nat}(h0:(a.length:Int)=(b.length:Int))(hl1:aJ Tp 0 xG (jB a b 0) .ret (cE (jB a b i'0) [(4,(.kb false))])){base:Nat}:FV Tp 41 [(.p (aE a)),(.p (aE b))] base (pB false) []:=by
 exact FV.fin Tryz.func41 rfl (o:=[bF,.k 4 ⟨(rng [(2,10),(14,12)]),[],[],[]⟩ .ret (cE (jB a b i'0) [(4,(.kb false))])]) (l:=[_,_]) (by kernel_rfl) (gc hl1.code (gc (mY h0) gn))
theorem bAw{a b:List Int}{i:Nat}{x100 x101:Int}(h0:(i:Int)<(a.length:Int))(h1:a[i]? = some x100)(h2:b[i]? = some x101)(h3:x100≠x101):aC Tp 0 xG (jB a b i) .ret (cE (jB a b i) [(4,(.kb false))]):=by
 exact aC.fin (g:=⟨(rng [(2,2),(5,7),(14,12)]),[],[],[]⟩) (o:=[bT,.x (aA x100),.x (aA x101),bT]) (l:=[_,_,_,_,_,_]) (by kernel_rfl) (gc (oG h3) (gc (atm aA h2) (gc (ixn aA h2) (gc (atm aA h1) (gc (ixn aA h1) (gc (aZ h0) gn))))))
theorem bAx{a b:List Int}{i:Nat}{x100 x101:Int}{i':Nat}(h0:(i:Int)<(a.length:Int))(h1:a[i]? = some x100)(h2:b[i]? = some x101)(h3:x100=x101)(h4:inR (((i+1):Nat):Int))(ei':i'=(i+1)):aC Tp 0 xG (jB a b i) .normal (jB a b i'):=by
 subst ei';exact aC.fin (g:=⟨(rng [(2,10),(14,12)]),[],[],[]⟩) (o:=[bT,.x (aA x100),.x (aA x101),bF]) (l:=[_,_,_,_,_,_,_]) (by kernel_rfl) (gc h4 (gc (mY h3) (gc (atm aA h2) (gc (ixn aA h2) (gc (atm aA h1) (gc (ixn aA h1) (gc (aZ h0) gn)))))))
theorem bAy{a b:List Int}{i:Nat}(h0:(a.length:Int)≤(i:Int)):aC Tp 0 xG (jB a b i) (.exit 0) (jB a b i):=by
 exact aC.fin (g:=⟨(rng [(2,10),(14,12)]),[],[],[]⟩) (o:=[bF]) (l:=[_]) (by kernel_rfl) (gc (bJ h0) gn)
theorem bGx(a b:List Int)(hl:a.length≤1000){base:Nat}:FV Tp 41 [.p (aE a),.p (aE b)] base (pB (decide (a=b))) []:=by
 by_cases hlen:a.length=b.length
 ·rcases aJ.find (P:=Tp) (k:=0) (b:=xG) (fun i=>jB a b i) (fun i _=>cE (jB a b i) [(4,.kb false)]) (jB a b a.length) .ret (.exit 0) (by simp) (by simp) (fun j=>decide (a.getD j 0≠b.getD j 0)) (List.range a.length)
   (fun i x hx hp=>by
    have hi:i<a.length:=by have:=bD hx;simpa using this
    have hxi:x=i:=by rw [aOs hi] at hx;exact (Option.some.inj hx).symm
    subst hxi;have h1:a[x]? = some (a.getD x 0):=by rw [kQ4,kQ0 hi];rfl
    have h2:b[x]? = some (b.getD x 0):=by rw [kQ4,kQ0 (by omega)];rfl
    have he:=of_decide_eq_false hp;exact bAx (by omega) h1 h2 (Classical.not_not.1 he) (aP (by omega)) rfl)
   (fun i x hx hp=>by
    have hi:i<a.length:=by have:=bD hx;simpa using this
    have hxi:x=i:=by rw [aOs hi] at hx;exact (Option.some.inj hx).symm
    subst hxi;have h1:a[x]? = some (a.getD x 0):=by rw [kQ4,kQ0 hi];rfl
    have h2:b[x]? = some (b.getD x 0):=by rw [kQ4,kQ0 (by omega)];rfl
    exact bAw (by omega) h1 h2 (of_decide_eq_true hp))
   (by rw [bJg];exact bAy (by omega)) with ⟨i,x,h1,h2,h3,h4⟩ | ⟨h1,h2,h3⟩
  ·have he:=of_decide_eq_true h3
   rw [decide_eq_false (fun e=>he (by rw [e]))]
   exact bVn (by omega) h4
  ·have hall:∀ i,i<a.length→a.getD i 0=b.getD i 0:=fun i hi=>by
    have:=List.any_eq_false.1 h2 i (nH.2 hi);simpa using this
   have e:a=b:=by
    apply List.ext_getElem hlen;intro i h1 h2;have:=hall i h1
    rwa [kQ4,kQ4,kQ0 h1,kQ0 h2] at this
   rw [decide_eq_true e];exact bVm (by omega) h3
 ·rw [decide_eq_false (fun e=>hlen (by rw [e]))]
  exact bVl (by omega)
theorem aIs{a b c:Int}{base:Nat}:FV Tp 23 [(pI a),(pI b),(pI c)] base (.p (dcE a 0 0 b c 0)) []:=by
 exact FV.fin Tryz.func23 rfl (o:=[]) (l:=[]) (by kernel_rfl) (gn)
theorem iM{a b c d e:Int}{base:Nat}:FV Tp 49 [(pI a),(pI b),(pI c),(pI d),(pI e)] base (.p (dcE a b d 0 e c)) []:=by
 exact FV.fin Tryz.func49 rfl (o:=[]) (l:=[]) (by kernel_rfl) (gn)
end
section
theorem ofO(l:List Int):FMM Tp 17 [.p (.sl l.length (l.map aO))] [] (.ptr 0 0) [some (iS l 0 17)]:=bXp
def bVa(ns nd:Int)(l:List Int)(nx st:Int)(r:Lqq × Lqq × Int × Int):Prop :=
 bQ 30 r.1 r.2.1∧(r.1.length:Int)≤ns∧(r.2.1.length:Int)≤nd∧(0≤r.2.2.1∧r.2.2.1≤4000)∧(r.1.Pairwise fun a b=>a.getD 0 0<b.getD 0 0)∧(r.2.1.Pairwise fun a b=>a.getD 0 0<b.getD 0 0)∧(∀ x∈r.2.1,x.getD 0 0≤80)∧(∀ x∈r.1,x.getD 0 0≤88∧x.getD 1 0≤16000) ∧
  FMM Tp 16 [.ptr 0 0,.p (aA ns),.p (aA nd)] [some (iS l nx st)] (.p (.agg (cF 30 r.1 r.2.1))) [some (iS l r.2.2.1 r.2.2.2)]
open Classical in
noncomputable def aRp(ns nd:Int)(l:List Int)(nx st:Int):Lqq × Lqq × Int × Int:=if h:∃ r,bVa ns nd l nx st r then Classical.choose h else ([],[],0,0)
theorem aMp{ns nd:Int}{l:List Int}{nx st:Int}(hns:1≤ns∧ns≤30)(hnd:0≤nd∧nd≤40)(hnx:0≤nx∧nx≤900):bVa ns nd l nx st (aRp ns nd l nx st):=by
 obtain ⟨sk,dc,mx,tt,h⟩:=bVd (ns:=ns) (nd:=nd) (l:=l) (nx:=nx) (st:=st) hns hnd hnx;have hex:∃ r,bVa ns nd l nx st r:=⟨(sk,dc,mx,tt),h⟩;unfold aRp;rw [dif_pos hex];exact Classical.choose_spec hex
theorem aRq{sk dc:Lqq}{nx' st':Int}(ns nd:Int)(l:List Int)(nx st:Int)(h:0≤nx∧nx≤900)(hs:1≤ns∧ns≤30)(hd:0≤nd∧nd≤40)(e:aRp ns nd l nx st=(sk,dc,nx',st')):FMM Tp 16 [.ptr 0 0,.p (aA ns),.p (aA nd)] [some (iS l nx st)] (.p (.agg (cF 30 sk dc))) [some (iS l nx' st')]:=by
 have:=(aMp (l:=l) (st:=st) hs hd h).2.2.2.2.2.2.2.2;rw [e] at this
 exact this
end
section

noncomputable abbrev aCn:Code:=sub (cd Tryz.f20) [1,1,0,1,0,0]
def kP(op:List Int)(l:List Int)(i:Nat)(on:Nat)(oc:List PV)(mx:Int)(tt:Int):St:=⟨fr 22 [(0,(.ptr 0 0)),(4,(.p cC)),(5,(.own 1)),(8,(.p (aE op))),(9,(pI (op.length:Int))),(10,(pI (i:Int)))],[some (.box 129 [(.p (.sl l.length (l.map aO))),(pI mx),(.p (.v (.int .u32 tt)))]),some (.row 3 on oc)]⟩
theorem bUz{op l:List Int}{nx st:Int}{i'0:Nat}{o'1:List Int}{mx'2 tt'3:Int}(hl0:aJ Tp 1 aCn (kP op l 0 0 [] nx st) (.exit 0) (kP op l i'0 o'1.length (o'1.map aA) mx'2 tt'3)):FMM Tp 20 [(.ptr 0 0),(.p (aE op))] [some (.box 129 [(.p (.sl l.length (l.map aO))),(pI nx),(.p (.v (.int .u32 st)))])] (.own 1) [some (.box 129 [(.p (.sl l.length (l.map aO))),(pI mx'2),(.p (.v (.int .u32 tt'3)))]),some (.row 3 o'1.length (o'1.map aA))]:=by
 exact FMM.fin (k:=1) (g:=⟨[],[1],[],[]⟩) rfl Tryz.func20 rfl (o:=[.k 8 ⟨(rng [(1,3),(6,2),(11,10)]),[1],[],[(5,3)]⟩ (.exit 0) (kP op l i'0 o'1.length (o'1.map aA) mx'2 tt'3)]) (l:=[_]) (by kernel_rfl) (gc hl0.code gn)
theorem bAb{op l:List Int}{i:Nat}{o:List Int}{mx tt x100:Int}{r101:Bool}{m102 t103:Int}{i':Nat}{o':List Int}(h0:(i:Int)<(op.length:Int))(h1:op[i]? = some x100)(h2:0≤mx∧mx≤1000000000)(h3:iF (2:Int) l mx tt=(r101,m102,t103))(h4:r101=true)(h5:[(aA x100)].length=1*1∧o.length+1≤1000000)(h6:inR (((i+1):Nat):Int))(ei':i'=(i+1))(eo'n:o'.length=(o.length+1))(eo'c:o'.map aA=((o.map aA)++[(aA x100)])):aC Tp 1 aCn (kP op l i o.length (o.map aA) mx tt) .normal (kP op l i' o'.length (o'.map aA) m102 t103):=by
 subst ei';have raw:aC Tp 1 aCn (kP op l i o.length (o.map aA) mx tt) .normal (kP op l (i+1) (o.length+1) ((o.map aA)++[(aA x100)]) m102 t103):=aC.fin (g:=⟨(rng [(1,3),(6,2),(11,10)]),[3],[],[]⟩) (o:=[bT,.x (aA x100),.c (pB r101) [(0,(.box 129 [(.p (.sl l.length (l.map aO))),(pI m102),(.p (.v (.int .u32 t103)))]))],bT]) (l:=[_,_,_,FC Tp 81 [(.ptr 0 0),(pI 2)] [(0,(.box 129 [(.p (.sl l.length (l.map aO))),(pI mx),(.p (.v (.int .u32 tt)))]))] 2 (pB r101) [(0,(.box 129 [(.p (.sl l.length (l.map aO))),(pI m102),(.p (.v (.int .u32 t103)))]))],_,_,_]) (by kernel_rfl) (gc h6 (gc h5 (gc h4 (gc (FMM.fc (ids:=[0]) (sA (2:Int) l mx tt h2 h3) (by kernel_rfl)) (gc (atm aA h1) (gc (ixn aA h1) (gc (aZ h0) gn)))))))
 exact raw.cast (by rw [eo'n,eo'c])
theorem bAc{op l:List Int}{i:Nat}{o:List Int}{mx tt x100:Int}{r101:Bool}{m102 t103:Int}{i':Nat}(h0:(i:Int)<(op.length:Int))(h1:op[i]? = some x100)(h2:0≤mx∧mx≤1000000000)(h3:iF (2:Int) l mx tt=(r101,m102,t103))(h4:r101=false)(h5:inR (((i+1):Nat):Int))(ei':i'=(i+1)):aC Tp 1 aCn (kP op l i o.length (o.map aA) mx tt) .normal (kP op l i' o.length (o.map aA) m102 t103):=by
 subst ei';exact aC.fin (g:=⟨(rng [(1,3),(6,2),(11,10)]),[1],[],[]⟩) (o:=[bT,.x (aA x100),.c (pB r101) [(0,(.box 129 [(.p (.sl l.length (l.map aO))),(pI m102),(.p (.v (.int .u32 t103)))]))],bF]) (l:=[_,_,FC Tp 81 [(.ptr 0 0),(pI 2)] [(0,(.box 129 [(.p (.sl l.length (l.map aO))),(pI mx),(.p (.v (.int .u32 tt)))]))] 2 (pB r101) [(0,(.box 129 [(.p (.sl l.length (l.map aO))),(pI m102),(.p (.v (.int .u32 t103)))]))],_,_,_]) (by kernel_rfl) (gc h5 (gc h4 (gc (FMM.fc (ids:=[0]) (sA (2:Int) l mx tt h2 h3) (by kernel_rfl)) (gc (atm aA h1) (gc (ixn aA h1) (gc (aZ h0) gn))))))
theorem bAd{op l:List Int}{i:Nat}{o:List Int}{mx tt:Int}(h0:(op.length:Int)≤(i:Int)):aC Tp 1 aCn (kP op l i o.length (o.map aA) mx tt) (.exit 0) (kP op l i o.length (o.map aA) mx tt):=by
 exact aC.fin (g:=⟨(rng [(1,3),(6,2),(11,10)]),[1],[],[]⟩) (o:=[bF]) (l:=[_]) (by kernel_rfl) (gc (bJ h0) gn)
end
section
def lB(l:List Int)(a:List Int × Int × Int)(x:Int):List Int × Int × Int:=(if (iF 2 l a.2.1 a.2.2).1 then a.1++[x] else a.1,(iF 2 l a.2.1 a.2.2).2)
def aCm(op l:List Int)(nx st:Int):List Int × Int × Int:=op.foldl (lB l) ([],nx,st)
theorem aMo(l:List Int):∀ (op:List Int) (a:List Int × Int × Int),∃ r,r.Sublist op∧(op.foldl (lB l) a).1=a.1++r∧a.2.1≤(op.foldl (lB l) a).2.1∧(op.foldl (lB l) a).2.1≤a.2.1+(op.length:Int)
 | [],a=>⟨[],.slnil,by simp,by simp,by simp⟩
 | x::op,a=>by
  obtain ⟨r,h1,h2,h3,h4⟩:=aMo l op (lB l a x);have hc:=vL 2 l a.2.1 a.2.2;rw [sG,pY];have e1:(lB l a x).2.1=(iF 2 l a.2.1 a.2.2).2.1:=rfl;rw [e1] at h3 h4
  cases hb:(iF 2 l a.2.1 a.2.2).1 with
  | true =>
   have e2:(lB l a x).1=a.1++[x]:=by unfold lB;rw [hb];rfl
   rw [e2] at h2
   exact ⟨x::r,List.Sublist.cons_cons x h1,by rw [h2];simp,by omega,by omega⟩
  | false =>
   have e2:(lB l a x).1=a.1:=by unfold lB;rw [hb];rfl
   rw [e2] at h2
   exact ⟨r,h1.cons x,h2,by omega,by omega⟩
theorem aRo(op l:List Int)(nx st:Int):(aCm op l nx st).1.Sublist op∧nx≤(aCm op l nx st).2.1∧(aCm op l nx st).2.1≤nx+(op.length:Int):=by
 obtain ⟨r,h1,h2,h3,h4⟩:=aMo l op ([],nx,st);rw [List.nil_append] at h2
 unfold aCm;rw [h2];exact ⟨h1,h3,h4⟩
theorem bUy{r:List Int}{nx' st':Int}(op l:List Int)(nx st:Int)(h:0≤nx∧nx≤1000000)(hl:op.length≤1000)(e:aCm op l nx st=(r,nx',st')):FMM Tp 20 [.ptr 0 0,.p (aE op)] [some (iS l nx st)] (.own 1) [some (iS l nx' st'),some (.row 3 r.length (r.map aA))]:=by
 have hL:=aJ.range (P:=Tp) (k:=1) (b:=sub (cd Tryz.f20) [1,1,0,1,0,0]) (e := .exit 0) (fun i (a:List Int × Int × Int)=>kP op l i a.1.length (a.1.map aA) a.2.1 a.2.2) (fun a=>kP op l op.length a.1.length (a.1.map aA) a.2.1 a.2.2) (lB l) (fun i a=>a.1.length≤i∧0≤a.2.1∧a.2.1≤nx+(i:Int)) (by simp) op (a0:=([],nx,st)) ⟨by simp,h.1,by simp⟩
  (fun i x a hx hI=>by
   obtain ⟨h1,h2,h3⟩:=hI;have hi:=bD hx;have hc:=vL 2 l a.2.1 a.2.2;have hs2:(lB l a x).2=(iF 2 l a.2.1 a.2.2).2:=rfl;cases hb:(iF 2 l a.2.1 a.2.2).1 with
   | true =>
    have e2:(lB l a x).1=a.1++[x]:=by unfold lB;rw [hb];rfl
    rw [hs2,e2];exact ⟨⟨by simp;omega,by omega,by omega⟩,bAb (r101:=(iF 2 l a.2.1 a.2.2).1) (by omega) hx (by omega) rfl hb ⟨rfl,by omega⟩ (aP (by omega)) rfl (by simp) (by simp)⟩
   | false =>
    have e2:(lB l a x).1=a.1:=by unfold lB;rw [hb];rfl
    rw [hs2,e2];exact ⟨⟨by omega,by omega,by omega⟩,bAc (r101:=(iF 2 l a.2.1 a.2.2).1) (by omega) hx (by omega) rfl hb (aP (by omega)) rfl⟩)
  (fun a hI=>bAd (by omega))
 have e':op.foldl (lB l) ([],nx,st)=(r,nx',st'):=e;rw [e'] at hL
 exact bUz hL
end
section

theorem aBo:∀ l:List Int,xP (l.map aA)=true
 | []=>rfl
 | x::r=>aBo r
theorem aFf{id ty n:Nat}{l:List Int}:aJm [(id,.row ty n (l.map aA))]=true:=by
 show (match xP (l.map aA) with | true=>aJm [] | false=>false)=true
 rw [aBo];rfl
end
section

end
section
structure aDw (p:List Int→Bool) (l:Lqq) (j:Nat) (x:Lqq × Nat):Prop where
 len:x.1.length=l.length
 le:x.2<j
 kept:x.1.take x.2=(l.take j).filter fun n => !p n
 rest:x.1.drop j=l.drop j
theorem aDw.skip{p:List Int→Bool}{l:Lqq}{j:Nat}{x:Lqq × Nat}(h:aDw p l j x)(hj:j<l.length){n:List Int}(hn:x.1[j]? = some n)(hp:p n=true):aDw p l (j+1) x:=by
 have hl:l[j]? = some n:=by
  have:=congrArg (·[0]?) h.rest
  simp only [List.getElem?_drop,Nat.add_zero] at this
  rw [← this];exact hn
 refine ⟨h.len,by have:=h.le;omega,?_,?_⟩
 ·rw [h.kept,List.take_add_one,hl]
  simp [nG,hp]
 ·rw [← List.drop_drop,h.rest,List.drop_drop]
theorem aDw.keep{p:List Int→Bool}{l:Lqq}{j:Nat}{x:Lqq × Nat}(h:aDw p l j x)(hj:j<l.length){n:List Int}(hn:x.1[j]? = some n)(hp:p n=false):aDw p l (j+1) (x.1.set x.2 n,x.2+1):=by
 have hl:l[j]? = some n:=by
  have:=congrArg (·[0]?) h.rest
  simp only [List.getElem?_drop,Nat.add_zero] at this
  rw [← this];exact hn
 have hle:=h.le;have hlen:=h.len;refine ⟨by simp [h.len],by simpa using hle,?_,?_⟩
 ·show (x.1.set x.2 n).take (x.2+1)=_
  rw [List.take_add_one,List.take_set_of_le (dO _),h.kept,bDw (by omega),List.take_add_one,hl]
  simp [nG,hp]
 ·show (x.1.set x.2 n).drop (j+1)=_
  rw [List.drop_set_of_lt (by omega),← List.drop_drop,h.rest,List.drop_drop]
theorem aDw.start{p:List Int→Bool}{l:Lqq}{i:Nat}{n:List Int}(hi:l[i]? = some n)(hp:p n=true)(hb:∀ m∈l.take i,p m=false):aDw p l (i+1) (l,i):=by
 refine ⟨rfl,Nat.lt_succ_self _,?_,rfl⟩;show l.take i=_;rw [List.take_add_one,hi];simp only [nG];rw [List.filter_eq_self.2 fun m hm=>by simp [hb m hm]]
 simp [hp]
theorem aJd{p:List Int→Bool}{l:Lqq}{i:Nat}(h:l.findIdx? p=some i):∀ m∈l.take i,p m=false:=fun m hm=>by
 obtain ⟨hi,h1,h2⟩:=List.findIdx?_eq_some_iff_getElem.1 h;obtain ⟨j,hj,rfl⟩:=List.getElem_of_mem hm;rw [List.getElem_take];rw [kY] at hj
 have:=h2 j (by omega)
 simpa using this
end
section
variable {P:Program}
theorem FC.close1{f base id ty n:Nat}{cs:List PV}{args args':List AV}{y:AV}{L:Upd}(h:FC P f args' [] base y L)(ha:fzL id n cs args=args'):FC P f args [(id,.row ty n cs)] base y ((id,.dead)::L):=fun M hb hf h8=>by
 have hoM:=hb _ (gZ ..);subst ha;have fre:∀ j,eZ M (base+j)=true→eZ (aW M id (some .dead)) (base+j)=true:=fun j hj=>by
  have hne:id≠base+j:=fun e=>by
   have:=cP hj;rw [← e] at this
   exact this _ (bE.1 hoM)
  unfold eZ at hj ⊢
  rw [cV,if_neg hne];exact hj
 exact FM.close1 hoM (h _ (fun p hp=>by cases hp) (by have:=fre 0 (by simpa using hf);simpa using this) (fun j hj=>fre j (h8 j hj)))
end
section
variable {dl:Int}{sk dc:Lqq}

noncomputable abbrev xN:Code:=sub (cd Tryz.f58) [1,1,1,1,1,1,1,1,1,0,1,0,1,0,0]
noncomputable abbrev aJg:Code:=sub (cd Tryz.f58) [1,1,1,1,1,1,1,1,1,0,1,0]
noncomputable abbrev aRz:Code:=sub (cd Tryz.f58) [1,1,1,1,1,1,1,1,1,0,1,0,1]
theorem aCx:((0:Int) != (0:Int))=false:=by first | decide | simp
def eV(dl:Int)(sk dc:Lqq)(r:Int)(x:List Int):Int × Bool:=dJ dl x (aB dc) (((aB sk).getD (bC (fun x=>decide (r=x)) (aL (aB sk) 0)).toNat []).getD 0 0) (((aB sk).getD (bC (fun x=>decide (r=x)) (aL (aB sk) 0)).toNat []).getD 1 0)
def mH(dl:Int)(sk:Lqq)(dc:Lqq)(num:Int)(r6:Int)  : St:=⟨fr 102 [(3,(.rp [(aA num)] 0)),(4,(.ptr 0 0)),(5,(.ptr 1 0)),(6,(.rp [(PV.rp (aH dl (aB sk) (aB dc)) 0)] 0)),(9,(.rp [(aA r6)] 0)),(10,(.rp [(aA (bC (fun x=>decide (r6=x)) (aL (aB sk) 0)))] 0)),(53,(.fn 182 [] [(.rp [(aE ((aI dl (aB dc)).filter fun n => !(n == num)))] 0)]))],[some (.box 4 [(pB false)]),some (.box 34 [(pI 0)])]⟩
def tY(dl:Int)(sk:Lqq)(dc:Lqq)(num:Int)(r6:Int):St:=⟨fr 102 [(3,(.rp [(aA num)] 0)),(4,(.ptr 0 0)),(5,(.ptr 1 0)),(6,(.rp [(PV.rp (aH dl (aB sk) (aB dc)) 0)] 0)),(9,(.rp [(aA r6)] 0)),(10,(.rp [(aA (bC (fun x=>decide (r6=x)) (aL (aB sk) 0)))] 0)),(53,(.fn 182 [] [(.rp [(aE ((aI dl (aB dc)).filter fun n => !(n == num)))] 0)]))],[some (.box 4 [(pB false)]),some (.box 34 [(pI 0)])]⟩
def aCy(dl:Int)(sk:Lqq)(dc:Lqq)(num:Int)(r6:Int):St:=⟨fr 102 [(3,(.rp [(aA num)] 0)),(4,(.ptr 0 0)),(5,(.ptr 1 0)),(6,(.rp [(PV.rp (aH dl (aB sk) (aB dc)) 0)] 0)),(9,(.rp [(aA r6)] 0)),(10,(.rp [(aA (bC (fun x=>decide (r6=x)) (aL (aB sk) 0)))] 0)),(53,(.fn 182 [] [(.rp [(aE ((aI dl (aB dc)).filter fun n => !(n == num)))] 0)]))],[some (.box 4 [(.kb true)]),some (.box 34 [(pI 0)])]⟩
theorem bWo{num:Int}(h0:bQ dl sk dc)(h1:bZ (aB dc))(h2:(aI dl (aB dc)).length≤1000)(h3:((aI dl (aB dc)).contains num)=false){base:Nat}:FV Tp 58 [(.p (.agg (cF dl sk dc))),(pI num)] base (.tup [(pB false),(pI 1)]) []:=by
 exact FV.fin Tryz.func58 rfl (o:=[.c (.tup [(.rp (aH dl (aB sk) (aB dc)) 0),(pI 0)]) [],bF,.g 1 ⟨[],[0,2,3],[4,1],[]⟩,.x (PV.rp (aH dl (aB sk) (aB dc)) 0),.c (.own 3) [(3,(.row 3 ((aI dl (aB dc)).length) ((aI dl (aB dc)).map aA)))],.x (aA num),.c (pB ((aI dl (aB dc)).contains num)) [],bT]) (l:=[_,FC Tp 52 [(.own 3),(pI num)] [(3,(.row 3 ((aI dl (aB dc)).length) ((aI dl (aB dc)).map aA)))] 4 (pB ((aI dl (aB dc)).contains num)) [],[(aA num)][0]? = some (aA num),_,[(PV.rp (aH dl (aB sk) (aB dc)) 0)][0]? = some (PV.rp (aH dl (aB sk) (aB dc)) 0),_,_]) (by kernel_rfl) (gc (cL h3) (gc (fv (nM (aI dl (aB dc)) num h2)) (gc rfl (gc (fk 3 (qY (dl:=dl) (sk:=(aB sk)) (dc:=(aB dc)) h1) rfl) (gc rfl (gc aCx (gc (fk 4 (iC dl sk dc h0) rfl) gn)))))))
theorem bWp{num:Int}(h0:bQ dl sk dc)(h1:bZ (aB dc))(h2:(aI dl (aB dc)).length≤1000)(h3:((aI dl (aB dc)).contains num)=true)(h4:(8:Int)<(((aI dl (aB dc)).length:Nat):Int)){base:Nat}:FV Tp 58 [(.p (.agg (cF dl sk dc))),(pI num)] base (.tup [(pB false),(pI 10)]) []:=by
 exact FV.fin Tryz.func58 rfl (o:=[.c (.tup [(.rp (aH dl (aB sk) (aB dc)) 0),(pI 0)]) [],bF,.g 1 ⟨[],[0,2,3],[4,1],[]⟩,.x (PV.rp (aH dl (aB sk) (aB dc)) 0),.c (.own 3) [(3,(.row 3 ((aI dl (aB dc)).length) ((aI dl (aB dc)).map aA)))],.x (aA num),.c (pB ((aI dl (aB dc)).contains num)) [],bF,bT]) (l:=[_,_,FC Tp 52 [(.own 3),(pI num)] [(3,(.row 3 ((aI dl (aB dc)).length) ((aI dl (aB dc)).map aA)))] 4 (pB ((aI dl (aB dc)).contains num)) [],[(aA num)][0]? = some (aA num),_,[(PV.rp (aH dl (aB sk) (aB dc)) 0)][0]? = some (PV.rp (aH dl (aB sk) (aB dc)) 0),_,_]) (by kernel_rfl) (gc (aZ h4) (gc (aY h3) (gc (fv (nM (aI dl (aB dc)) num h2)) (gc rfl (gc (fk 3 (qY (dl:=dl) (sk:=(aB sk)) (dc:=(aB dc)) h1) rfl) (gc rfl (gc aCx (gc (fk 4 (iC dl sk dc h0) rfl) gn))))))))
theorem bWq{num y0 y1 y2 y3 y4 y5 r6:Int}(h0:bQ dl sk dc)(h1:bZ (aB dc))(h2:(aI dl (aB dc)).length≤1000)(h3:((aI dl (aB dc)).contains num)=true)(h4:(((aI dl (aB dc)).length:Nat):Int)≤8)(h5:cH .i64 (atF (aB dc).reverse) (.int .i64 num))(h6:(dH (atF (aB dc).reverse) (.int .i64 num))=true)(h7:eY (atF (aB dc).reverse) (.int .i64 num)=some (dcE y0 y1 y2 y3 y4 y5))(h8:aLm dl (aB sk) (aB dc) [y0,y1,y2,y3,y4,y5] r6)(h9:uni 2 (aB sk)∧(aB sk).length≤1000)(h10:(aL (aB sk) 0).length≤1000)(h11:(bC (fun x=>decide (r6=x)) (aL (aB sk) 0))<0){base:Nat}:FV Tp 58 [(.p (.agg (cF dl sk dc))),(pI num)] base (.tup [(pB false),(pI 0)]) []:=by
 exact FV.fin Tryz.func58 rfl (o:=[.c (.tup [(.rp (aH dl (aB sk) (aB dc)) 0),(pI 0)]) [],bF,.g 1 ⟨[],[0,2,3],[4,1],[]⟩,.x (PV.rp (aH dl (aB sk) (aB dc)) 0),.c (.own 3) [(3,(.row 3 ((aI dl (aB dc)).length) ((aI dl (aB dc)).map aA)))],.x (aA num),.c (pB ((aI dl (aB dc)).contains num)) [],bF,bF,.x (PV.rp (aH dl (aB sk) (aB dc)) 0),.x (PV.rp (aH dl (aB sk) (aB dc)) 0),.x (.mp (atF (aB dc).reverse)),.x (aA num),bT,.x (dcE y0 y1 y2 y3 y4 y5),.c (pI r6) [],.x (PV.rp (aH dl (aB sk) (aB dc)) 0),.x (.agg (cF dl (aB sk) (aB dc))),.c (.own 13) [(13,(.row 3 ((aL (aB sk) 0).length) ((aL (aB sk) 0).map aA)))],.c (pI (bC (fun x=>decide (r6=x)) (aL (aB sk) 0))) [],.g 2 ⟨[],[0,1,2,3,13],[12,29],[]⟩,.x (aA (bC (fun x=>decide (r6=x)) (aL (aB sk) 0))),bT]) (l:=[_,[(aA (bC (fun x=>decide (r6=x)) (aL (aB sk) 0)))][0]? = some (aA (bC (fun x=>decide (r6=x)) (aL (aB sk) 0))),FC Tp 126 [(.own 13),(pI r6)] [(13,(.row 3 ((aL (aB sk) 0).length) ((aL (aB sk) 0).map aA)))] 21 (pI (bC (fun x=>decide (r6=x)) (aL (aB sk) 0))) [],_,some (.agg (((aH dl (aB sk) (aB dc)).drop 0).take 3):PV)=some (.agg (cF dl (aB sk) (aB dc))),0+3≤(aH dl (aB sk) (aB dc)).length,[(PV.rp (aH dl (aB sk) (aB dc)) 0)][0]? = some (PV.rp (aH dl (aB sk) (aB dc)) 0),FC Tp 128 [(.rp (aH dl (aB sk) (aB dc)) 0),(.p (dcE y0 y1 y2 y3 y4 y5))] [] 4 (pI r6) [],_,_,_,[(aA num)][0]? = some (aA num),(aH dl (aB sk) (aB dc))[3]? = some (.mp (atF (aB dc).reverse)),[(PV.rp (aH dl (aB sk) (aB dc)) 0)][0]? = some (PV.rp (aH dl (aB sk) (aB dc)) 0),[(PV.rp (aH dl (aB sk) (aB dc)) 0)][0]? = some (PV.rp (aH dl (aB sk) (aB dc)) 0),_,_,FC Tp 52 [(.own 3),(pI num)] [(3,(.row 3 ((aI dl (aB dc)).length) ((aI dl (aB dc)).map aA)))] 4 (pB ((aI dl (aB dc)).contains num)) [],[(aA num)][0]? = some (aA num),_,[(PV.rp (aH dl (aB sk) (aB dc)) 0)][0]? = some (PV.rp (aH dl (aB sk) (aB dc)) 0),_,_]) (by kernel_rfl) (gc (aZ h11) (gc rfl (gc (fv (aCe (aL (aB sk) 0) r6 h10)) (gc (fk 13 (nN dl (aB sk) (aB dc) h9) rfl) (gc rfl (gc (by first | decide | simp) (gc rfl (gc (FV.fc (h8 _) rfl) (gc h7 (gc h6 (gc h5 (gc rfl (gc rfl (gc rfl (gc rfl (gc (bJ h4) (gc (aY h3) (gc (fv (nM (aI dl (aB dc)) num h2)) (gc rfl (gc (fk 3 (qY (dl:=dl) (sk:=(aB sk)) (dc:=(aB dc)) h1) rfl) (gc rfl (gc aCx (gc (fk 4 (iC dl sk dc h0) rfl) gn)))))))))))))))))))))))
theorem bWr{num y0 y1 y2 y3 y4 y5 r6:Int}(h0:bQ dl sk dc)(h1:bZ (aB dc))(h2:(aI dl (aB dc)).length≤1000)(h3:((aI dl (aB dc)).contains num)=true)(h4:(((aI dl (aB dc)).length:Nat):Int)≤8)(h5:cH .i64 (atF (aB dc).reverse) (.int .i64 num))(h6:(dH (atF (aB dc).reverse) (.int .i64 num))=true)(h7:eY (atF (aB dc).reverse) (.int .i64 num)=some (dcE y0 y1 y2 y3 y4 y5))(h8:aLm dl (aB sk) (aB dc) [y0,y1,y2,y3,y4,y5] r6)(h9:uni 2 (aB sk)∧(aB sk).length≤1000)(h10:(aL (aB sk) 0).length≤1000)(h11:(0:Int)≤(bC (fun x=>decide (r6=x)) (aL (aB sk) 0)))(hl12:aC Tp 0 aJg (tY dl sk dc num r6) .normal (mH dl sk dc num r6 )){base:Nat}:FV Tp 58 [(.p (.agg (cF dl sk dc))),(pI num)] base (.tup [(pB false),(pI 0)]) []:=by
 exact FV.fin Tryz.func58 rfl (o:=[.c (.tup [(.rp (aH dl (aB sk) (aB dc)) 0),(pI 0)]) [],bF,.g 1 ⟨[],[0,2,3],[4,1],[]⟩,.x (PV.rp (aH dl (aB sk) (aB dc)) 0),.c (.own 3) [(3,(.row 3 ((aI dl (aB dc)).length) ((aI dl (aB dc)).map aA)))],.x (aA num),.c (pB ((aI dl (aB dc)).contains num)) [],bF,bF,.x (PV.rp (aH dl (aB sk) (aB dc)) 0),.x (PV.rp (aH dl (aB sk) (aB dc)) 0),.x (.mp (atF (aB dc).reverse)),.x (aA num),bT,.x (dcE y0 y1 y2 y3 y4 y5),.c (pI r6) [],.x (PV.rp (aH dl (aB sk) (aB dc)) 0),.x (.agg (cF dl (aB sk) (aB dc))),.c (.own 13) [(13,(.row 3 ((aL (aB sk) 0).length) ((aL (aB sk) 0).map aA)))],.c (pI (bC (fun x=>decide (r6=x)) (aL (aB sk) 0))) [],.g 2 ⟨[],[0,1,2,3,13],[12,29],[]⟩,.x (aA (bC (fun x=>decide (r6=x)) (aL (aB sk) 0))),bF,.c (.p (aE ((aI dl (aB dc)).filter fun n => !(n == num)))) [(3,.dead)],.c (.fn 182 [] [(.rp [(aE ((aI dl (aB dc)).filter fun n => !(n == num)))] 0)]) [],.k 1 ⟨(rng [(0,3),(7,2),(11,42),(54,48)]),[1,2],[],[]⟩ .normal (mH dl sk dc num r6 )]) (l:=[aC Tp 0 aJg (tY dl sk dc num r6) .normal (mH dl sk dc num r6 ),FC Tp 132 [(.p (aE ((aI dl (aB dc)).filter fun n => !(n == num))))] [] 5 (.fn 182 [] [(.rp [(aE ((aI dl (aB dc)).filter fun n => !(n == num)))] 0)]) [],FC Tp 54 [(.own 3),(.fn 133 [] [(.rp [(aA num)] 0)])] [(3,(.row 3 ((aI dl (aB dc)).length) ((aI dl (aB dc)).map aA)))] 5 (.p (aE ((aI dl (aB dc)).filter fun n => !(n == num)))) [(3,.dead)],_,[(aA (bC (fun x=>decide (r6=x)) (aL (aB sk) 0)))][0]? = some (aA (bC (fun x=>decide (r6=x)) (aL (aB sk) 0))),FC Tp 126 [(.own 13),(pI r6)] [(13,(.row 3 ((aL (aB sk) 0).length) ((aL (aB sk) 0).map aA)))] 21 (pI (bC (fun x=>decide (r6=x)) (aL (aB sk) 0))) [],_,some (.agg (((aH dl (aB sk) (aB dc)).drop 0).take 3):PV)=some (.agg (cF dl (aB sk) (aB dc))),0+3≤(aH dl (aB sk) (aB dc)).length,[(PV.rp (aH dl (aB sk) (aB dc)) 0)][0]? = some (PV.rp (aH dl (aB sk) (aB dc)) 0),FC Tp 128 [(.rp (aH dl (aB sk) (aB dc)) 0),(.p (dcE y0 y1 y2 y3 y4 y5))] [] 4 (pI r6) [],_,_,_,[(aA num)][0]? = some (aA num),(aH dl (aB sk) (aB dc))[3]? = some (.mp (atF (aB dc).reverse)),[(PV.rp (aH dl (aB sk) (aB dc)) 0)][0]? = some (PV.rp (aH dl (aB sk) (aB dc)) 0),[(PV.rp (aH dl (aB sk) (aB dc)) 0)][0]? = some (PV.rp (aH dl (aB sk) (aB dc)) 0),_,_,FC Tp 52 [(.own 3),(pI num)] [(3,(.row 3 ((aI dl (aB dc)).length) ((aI dl (aB dc)).map aA)))] 4 (pB ((aI dl (aB dc)).contains num)) [],[(aA num)][0]? = some (aA num),_,[(PV.rp (aH dl (aB sk) (aB dc)) 0)][0]? = some (PV.rp (aH dl (aB sk) (aB dc)) 0),_,_]) (by kernel_rfl) (gc hl12 (gc (FV.fc (aPc (q:=((aI dl (aB dc)).filter fun n => !(n == num)))) rfl) (gc (FMM.fc (ids:=[3]) (bEj (l:=(aI dl (aB dc))) (m:=num) h2 (fun _ _=>rfl)) (by kernel_rfl)) (gc (bJ h11) (gc rfl (gc (fv (aCe (aL (aB sk) 0) r6 h10)) (gc (fk 13 (nN dl (aB sk) (aB dc) h9) rfl) (gc rfl (gc (by first | decide | simp) (gc rfl (gc (FV.fc (h8 _) rfl) (gc h7 (gc h6 (gc h5 (gc rfl (gc rfl (gc rfl (gc rfl (gc (bJ h4) (gc (aY h3) (gc (fv (nM (aI dl (aB dc)) num h2)) (gc rfl (gc (fk 3 (qY (dl:=dl) (sk:=(aB sk)) (dc:=(aB dc)) h1) rfl) (gc rfl (gc aCx (gc (fk 4 (iC dl sk dc h0) rfl) gn))))))))))))))))))))))))))
theorem bWs{num y0 y1 y2 y3 y4 y5 r6:Int}(h0:bQ dl sk dc)(h1:bZ (aB dc))(h2:(aI dl (aB dc)).length≤1000)(h3:((aI dl (aB dc)).contains num)=true)(h4:(((aI dl (aB dc)).length:Nat):Int)≤8)(h5:cH .i64 (atF (aB dc).reverse) (.int .i64 num))(h6:(dH (atF (aB dc).reverse) (.int .i64 num))=true)(h7:eY (atF (aB dc).reverse) (.int .i64 num)=some (dcE y0 y1 y2 y3 y4 y5))(h8:aLm dl (aB sk) (aB dc) [y0,y1,y2,y3,y4,y5] r6)(h9:uni 2 (aB sk)∧(aB sk).length≤1000)(h10:(aL (aB sk) 0).length≤1000)(h11:(0:Int)≤(bC (fun x=>decide (r6=x)) (aL (aB sk) 0)))(hl12:aC Tp 0 aJg (tY dl sk dc num r6) .ret (aCy dl sk dc num r6)){base:Nat}:FV Tp 58 [(.p (.agg (cF dl sk dc))),(pI num)] base (.tup [(pB true),(pI 0)]) []:=by
 exact FV.fin Tryz.func58 rfl (o:=[.c (.tup [(.rp (aH dl (aB sk) (aB dc)) 0),(pI 0)]) [],bF,.g 1 ⟨[],[0,2,3],[4,1],[]⟩,.x (PV.rp (aH dl (aB sk) (aB dc)) 0),.c (.own 3) [(3,(.row 3 ((aI dl (aB dc)).length) ((aI dl (aB dc)).map aA)))],.x (aA num),.c (pB ((aI dl (aB dc)).contains num)) [],bF,bF,.x (PV.rp (aH dl (aB sk) (aB dc)) 0),.x (PV.rp (aH dl (aB sk) (aB dc)) 0),.x (.mp (atF (aB dc).reverse)),.x (aA num),bT,.x (dcE y0 y1 y2 y3 y4 y5),.c (pI r6) [],.x (PV.rp (aH dl (aB sk) (aB dc)) 0),.x (.agg (cF dl (aB sk) (aB dc))),.c (.own 13) [(13,(.row 3 ((aL (aB sk) 0).length) ((aL (aB sk) 0).map aA)))],.c (pI (bC (fun x=>decide (r6=x)) (aL (aB sk) 0))) [],.g 2 ⟨[],[0,1,2,3,13],[12,29],[]⟩,.x (aA (bC (fun x=>decide (r6=x)) (aL (aB sk) 0))),bF,.c (.p (aE ((aI dl (aB dc)).filter fun n => !(n == num)))) [(3,.dead)],.c (.fn 182 [] [(.rp [(aE ((aI dl (aB dc)).filter fun n => !(n == num)))] 0)]) [],.k 1 ⟨(rng [(0,3),(7,2),(11,42),(54,48)]),[1,2],[],[]⟩ .ret (aCy dl sk dc num r6)]) (l:=[aC Tp 0 aJg (tY dl sk dc num r6) .ret (aCy dl sk dc num r6),FC Tp 132 [(.p (aE ((aI dl (aB dc)).filter fun n => !(n == num))))] [] 5 (.fn 182 [] [(.rp [(aE ((aI dl (aB dc)).filter fun n => !(n == num)))] 0)]) [],FC Tp 54 [(.own 3),(.fn 133 [] [(.rp [(aA num)] 0)])] [(3,(.row 3 ((aI dl (aB dc)).length) ((aI dl (aB dc)).map aA)))] 5 (.p (aE ((aI dl (aB dc)).filter fun n => !(n == num)))) [(3,.dead)],_,[(aA (bC (fun x=>decide (r6=x)) (aL (aB sk) 0)))][0]? = some (aA (bC (fun x=>decide (r6=x)) (aL (aB sk) 0))),FC Tp 126 [(.own 13),(pI r6)] [(13,(.row 3 ((aL (aB sk) 0).length) ((aL (aB sk) 0).map aA)))] 21 (pI (bC (fun x=>decide (r6=x)) (aL (aB sk) 0))) [],_,some (.agg (((aH dl (aB sk) (aB dc)).drop 0).take 3):PV)=some (.agg (cF dl (aB sk) (aB dc))),0+3≤(aH dl (aB sk) (aB dc)).length,[(PV.rp (aH dl (aB sk) (aB dc)) 0)][0]? = some (PV.rp (aH dl (aB sk) (aB dc)) 0),FC Tp 128 [(.rp (aH dl (aB sk) (aB dc)) 0),(.p (dcE y0 y1 y2 y3 y4 y5))] [] 4 (pI r6) [],_,_,_,[(aA num)][0]? = some (aA num),(aH dl (aB sk) (aB dc))[3]? = some (.mp (atF (aB dc).reverse)),[(PV.rp (aH dl (aB sk) (aB dc)) 0)][0]? = some (PV.rp (aH dl (aB sk) (aB dc)) 0),[(PV.rp (aH dl (aB sk) (aB dc)) 0)][0]? = some (PV.rp (aH dl (aB sk) (aB dc)) 0),_,_,FC Tp 52 [(.own 3),(pI num)] [(3,(.row 3 ((aI dl (aB dc)).length) ((aI dl (aB dc)).map aA)))] 4 (pB ((aI dl (aB dc)).contains num)) [],[(aA num)][0]? = some (aA num),_,[(PV.rp (aH dl (aB sk) (aB dc)) 0)][0]? = some (PV.rp (aH dl (aB sk) (aB dc)) 0),_,_]) (by kernel_rfl) (gc hl12 (gc (FV.fc (aPc (q:=((aI dl (aB dc)).filter fun n => !(n == num)))) rfl) (gc (FMM.fc (ids:=[3]) (bEj (l:=(aI dl (aB dc))) (m:=num) h2 (fun _ _=>rfl)) (by kernel_rfl)) (gc (bJ h11) (gc rfl (gc (fv (aCe (aL (aB sk) 0) r6 h10)) (gc (fk 13 (nN dl (aB sk) (aB dc) h9) rfl) (gc rfl (gc (by first | decide | simp) (gc rfl (gc (FV.fc (h8 _) rfl) (gc h7 (gc h6 (gc h5 (gc rfl (gc rfl (gc rfl (gc rfl (gc (bJ h4) (gc (aY h3) (gc (fv (nM (aI dl (aB dc)) num h2)) (gc rfl (gc (fk 3 (qY (dl:=dl) (sk:=(aB sk)) (dc:=(aB dc)) h1) rfl) (gc rfl (gc aCx (gc (fk 4 (iC dl sk dc h0) rfl) gn))))))))))))))))))))))))))
def gW(dl:Int)(sk:Lqq)(dc:Lqq)(num:Int)(r6:Int)(x:List Int)  : St:=⟨fr 102 [(3,(.rp [(aA num)] 0)),(4,(.ptr 0 0)),(5,(.ptr 1 0)),(6,(.rp [(PV.rp (aH dl (aB sk) (aB dc)) 0)] 0)),(9,(.rp [(aA r6)] 0)),(10,(.rp [(aA (bC (fun x=>decide (r6=x)) (aL (aB sk) 0)))] 0)),(11,(.own 2)),(53,(.fn 182 [] [(.rp [(aE ((aI dl (aB dc)).filter fun n => !(n == num)))] 0)])),(54,(.own 2))],[some (.box 4 [(pB false)]),some (.box 34 [(pI 0)]),some (.row 3 x.length (x.map aA))]⟩
def aJh(dl:Int)(sk:Lqq)(dc:Lqq)(num:Int)(r6:Int)  : St:=⟨fr 102 [],[some (.box 4 [(.kb true)]),some (.box 34 [(pI 0)]),some .dead]⟩
theorem bCd{num r6:Int}{x:List Int}{y100 y101 n102:Int}{b103:Bool}{T104:Lqb}(hl0:aC Tp 3 xN (gW dl sk dc num r6 x ) .normal (cE (gW dl sk dc num r6 x ) [(12,(pI ((eV dl sk dc r6 x).1))),(13,(pB ((eV dl sk dc r6 x).2)))]))(h1:(aB sk)[(bC (fun x=>decide (r6=x)) (aL (aB sk) 0)).toNat]? = some [y100,y101])(h2:0≤(bC (fun x=>decide (r6=x)) (aL (aB sk) 0)))(h3:uni 2 (aB sk))(h4:[(aA num)].length=1*1∧x.length+1≤1000000)(h5:aDt dl (aB sk) (aB dc) (.sl (x.length+1) ((x.map aA)++[(aA num)])) [y100,y101] n102 b103 ([]:Lqb) T104)(h6:dX [(aA r6),(aA 0),(aA ((eV dl sk dc r6 x).1))] [(0,3,true),(1,3,true),(2,3,true)]=true∧dX [(aA r6),(aA 0),(aA n102)] [(0,3,true),(1,3,true),(2,3,true)]=true)(h7:(nD [(aA r6),(aA 0),(aA ((eV dl sk dc r6 x).1))] [(aA r6),(aA 0),(aA n102)] [(0,3,true),(1,3,true),(2,3,true)])=false):aC Tp 3 aRz (rfO (mH dl sk dc num r6 ) 54 11 x) .ret (aJh dl sk dc num r6 ):=by
 exact aC.fin (g:=⟨(rng [(0,102)]),[],[],[]⟩) (o:=[.k 2 ⟨(rng [(0,3),(7,2),(12,2),(16,37),(55,16)]),[],[],[]⟩ .normal (cE (gW dl sk dc num r6 x ) [(12,(pI ((eV dl sk dc r6 x).1))),(13,(pB ((eV dl sk dc r6 x).2)))]),.x (PV.rp (aH dl (aB sk) (aB dc)) 0),.x (PV.rp (aH dl (aB sk) (aB dc)) 0),.x (.sl ((aB sk).length) ((aB sk).flatten.map aA)),.x (aA (bC (fun x=>decide (r6=x)) (aL (aB sk) 0))),.x (.agg [(aA y100),(aA y101)]),.x (PV.rp (aH dl (aB sk) (aB dc)) 0),.x (aA num),.c (.agg (kVL 9 10 5 7 11 6)) [(4,.dead),(5,(vB0 dl (aB sk) (aB dc))),(6,(.box 33 [(.p (.sl (x.length+1) ((x.map aA)++[(aA num)])))])),(7,(.box 139 (kVL 9 10 5 7 11 6))),(8,(.mp (aG ([]:Lqb)) 0)),(9,(.box 207 [(.mp 8)])),(10,(vB5 dl (aB sk) (aB dc))),(11,(.box 209 [(.fn 153 [] [(.ptr 5 0),(.ptr 7 0)])]))],.c (.tup [(pI n102),(pB b103)]) [(5,(vB0 dl (aB sk) (aB dc))),(6,(.box 33 [(.p (.sl (x.length+1) ((x.map aA)++[(aA num)])))])),(7,(.box 139 (kVL 9 10 5 7 11 6))),(8,(.mp (aG T104) T104.length)),(9,(.box 207 [(.mp 8)])),(10,(vB5 dl (aB sk) (aB dc))),(11,(.box 209 [(.fn 153 [] [(.ptr 5 0),(.ptr 7 0)])]))],.x (aA r6),.x (aA r6),bT,bT,bT,bT]) (l:=[_,_,_,_,_,[(aA r6)][0]? = some (aA r6),[(aA r6)][0]? = some (aA r6),FC Tp 134 [(.rp (aH dl (aB sk) (aB dc)) 0),(.p (.agg [(aA y100),(aA y101)])),(.agg (kVL 9 10 5 7 11 6))] [(9,(.box 207 [(.mp 8)])),(10,(vB5 dl (aB sk) (aB dc))),(5,(vB0 dl (aB sk) (aB dc))),(7,(.box 139 (kVL 9 10 5 7 11 6))),(11,(.box 209 [(.fn 153 [] [(.ptr 5 0),(.ptr 7 0)])])),(6,(.box 33 [(.p (.sl (x.length+1) ((x.map aA)++[(aA num)])))])),(8,(.mp (aG ([]:Lqb)) 0))] 13 (.tup [(pI n102),(pB b103)]) [(5,(vB0 dl (aB sk) (aB dc))),(6,(.box 33 [(.p (.sl (x.length+1) ((x.map aA)++[(aA num)])))])),(7,(.box 139 (kVL 9 10 5 7 11 6))),(8,(.mp (aG T104) T104.length)),(9,(.box 207 [(.mp 8)])),(10,(vB5 dl (aB sk) (aB dc))),(11,(.box 209 [(.fn 153 [] [(.ptr 5 0),(.ptr 7 0)])]))],FC Tp 87 [(.rp (aH dl (aB sk) (aB dc)) 0),(.own 4)] [(4,(.row 3 (x.length+1) ((x.map aA)++[(aA num)])))] 5 (.agg (kVL 9 10 5 7 11 6)) [(4,.dead),(5,(vB0 dl (aB sk) (aB dc))),(6,(.box 33 [(.p (.sl (x.length+1) ((x.map aA)++[(aA num)])))])),(7,(.box 139 (kVL 9 10 5 7 11 6))),(8,(.mp (aG ([]:Lqb)) 0)),(9,(.box 207 [(.mp 8)])),(10,(vB5 dl (aB sk) (aB dc))),(11,(.box 209 [(.fn 153 [] [(.ptr 5 0),(.ptr 7 0)])]))],_,[(aA num)][0]? = some (aA num),[(PV.rp (aH dl (aB sk) (aB dc)) 0)][0]? = some (PV.rp (aH dl (aB sk) (aB dc)) 0),_,_,0≤(bC (fun x=>decide (r6=x)) (aL (aB sk) 0))∧(bC (fun x=>decide (r6=x)) (aL (aB sk) 0))<(((aB sk).length:Nat):Int)∧((bC (fun x=>decide (r6=x)) (aL (aB sk) 0)).toNat*2)<((aB sk).flatten.map aA).length,[(aA (bC (fun x=>decide (r6=x)) (aL (aB sk) 0)))][0]? = some (aA (bC (fun x=>decide (r6=x)) (aL (aB sk) 0))),(aH dl (aB sk) (aB dc))[1]? = some (.sl ((aB sk).length) ((aB sk).flatten.map aA)),[(PV.rp (aH dl (aB sk) (aB dc)) 0)][0]? = some (PV.rp (aH dl (aB sk) (aB dc)) 0),[(PV.rp (aH dl (aB sk) (aB dc)) 0)][0]? = some (PV.rp (aH dl (aB sk) (aB dc)) 0),aC Tp 3 xN (gW dl sk dc num r6 x ) .normal (cE (gW dl sk dc num r6 x ) [(12,(pI ((eV dl sk dc r6 x).1))),(13,(pB ((eV dl sk dc r6 x).2)))])]) (by kernel_rfl) (g4c (cL h7) (gc h6 (gc rfl (gc rfl (gc (FMM.fc (ids:=[5,6,7,8,9,10,11]) h5 (by kernel_rfl)) (gc (FC.close1 (args':=[(.rp (aH dl (aB sk) (aB dc)) 0),(.p (.sl (x.length+1) ((x.map aA)++[(aA num)])))]) (FMM.fcN (k:=7) rfl (ids:=[]) (pM (dl:=dl) (sk:=(aB sk)) (dc:=(aB dc)) (on:=(x.length+1)) (ol:=((x.map aA)++[(aA num)]))) (by kernel_rfl)) (by kernel_rfl)) (gc h4 (gc rfl (gc rfl (gc (aV (i:=(bC (fun x=>decide (r6=x)) (aL (aB sk) 0)).toNat) h3 h1) (gc (bI (i:=(bC (fun x=>decide (r6=x)) (aL (aB sk) 0)).toNat) h3 h1) (gc (cB (k:=2) (i:=(bC (fun x=>decide (r6=x)) (aL (aB sk) 0))) (by decide) h3 h2 h1) (gc rfl (gc rfl (gc rfl (gc rfl (gc hl0 gn)))))))))))))))))
theorem bCe{num r6:Int}{x:List Int}{y100 y101 n102:Int}{b103:Bool}{T104:Lqb}(hl0:aC Tp 3 xN (gW dl sk dc num r6 x ) .normal (cE (gW dl sk dc num r6 x ) [(12,(pI ((eV dl sk dc r6 x).1))),(13,(pB ((eV dl sk dc r6 x).2)))]))(h1:(aB sk)[(bC (fun x=>decide (r6=x)) (aL (aB sk) 0)).toNat]? = some [y100,y101])(h2:0≤(bC (fun x=>decide (r6=x)) (aL (aB sk) 0)))(h3:uni 2 (aB sk))(h4:[(aA num)].length=1*1∧x.length+1≤1000000)(h5:aDt dl (aB sk) (aB dc) (.sl (x.length+1) ((x.map aA)++[(aA num)])) [y100,y101] n102 b103 ([]:Lqb) T104)(h6:dX [(aA r6),(aA 0),(aA ((eV dl sk dc r6 x).1))] [(0,3,true),(1,3,true),(2,3,true)]=true∧dX [(aA r6),(aA 0),(aA n102)] [(0,3,true),(1,3,true),(2,3,true)]=true)(h7:(nD [(aA r6),(aA 0),(aA ((eV dl sk dc r6 x).1))] [(aA r6),(aA 0),(aA n102)] [(0,3,true),(1,3,true),(2,3,true)])=true)(h8:(((eV dl sk dc r6 x).2) == b103)=false):aC Tp 3 aRz (rfO (mH dl sk dc num r6 ) 54 11 x) .ret (aJh dl sk dc num r6 ):=by
 exact aC.fin (g:=⟨(rng [(0,102)]),[],[],[]⟩) (o:=[.k 2 ⟨(rng [(0,3),(7,2),(12,2),(16,37),(55,16)]),[],[],[]⟩ .normal (cE (gW dl sk dc num r6 x ) [(12,(pI ((eV dl sk dc r6 x).1))),(13,(pB ((eV dl sk dc r6 x).2)))]),.x (PV.rp (aH dl (aB sk) (aB dc)) 0),.x (PV.rp (aH dl (aB sk) (aB dc)) 0),.x (.sl ((aB sk).length) ((aB sk).flatten.map aA)),.x (aA (bC (fun x=>decide (r6=x)) (aL (aB sk) 0))),.x (.agg [(aA y100),(aA y101)]),.x (PV.rp (aH dl (aB sk) (aB dc)) 0),.x (aA num),.c (.agg (kVL 9 10 5 7 11 6)) [(4,.dead),(5,(vB0 dl (aB sk) (aB dc))),(6,(.box 33 [(.p (.sl (x.length+1) ((x.map aA)++[(aA num)])))])),(7,(.box 139 (kVL 9 10 5 7 11 6))),(8,(.mp (aG ([]:Lqb)) 0)),(9,(.box 207 [(.mp 8)])),(10,(vB5 dl (aB sk) (aB dc))),(11,(.box 209 [(.fn 153 [] [(.ptr 5 0),(.ptr 7 0)])]))],.c (.tup [(pI n102),(pB b103)]) [(5,(vB0 dl (aB sk) (aB dc))),(6,(.box 33 [(.p (.sl (x.length+1) ((x.map aA)++[(aA num)])))])),(7,(.box 139 (kVL 9 10 5 7 11 6))),(8,(.mp (aG T104) T104.length)),(9,(.box 207 [(.mp 8)])),(10,(vB5 dl (aB sk) (aB dc))),(11,(.box 209 [(.fn 153 [] [(.ptr 5 0),(.ptr 7 0)])]))],.x (aA r6),.x (aA r6),bF,bF,bF,bF,bT]) (l:=[_,_,_,_,_,_,[(aA r6)][0]? = some (aA r6),[(aA r6)][0]? = some (aA r6),FC Tp 134 [(.rp (aH dl (aB sk) (aB dc)) 0),(.p (.agg [(aA y100),(aA y101)])),(.agg (kVL 9 10 5 7 11 6))] [(9,(.box 207 [(.mp 8)])),(10,(vB5 dl (aB sk) (aB dc))),(5,(vB0 dl (aB sk) (aB dc))),(7,(.box 139 (kVL 9 10 5 7 11 6))),(11,(.box 209 [(.fn 153 [] [(.ptr 5 0),(.ptr 7 0)])])),(6,(.box 33 [(.p (.sl (x.length+1) ((x.map aA)++[(aA num)])))])),(8,(.mp (aG ([]:Lqb)) 0))] 13 (.tup [(pI n102),(pB b103)]) [(5,(vB0 dl (aB sk) (aB dc))),(6,(.box 33 [(.p (.sl (x.length+1) ((x.map aA)++[(aA num)])))])),(7,(.box 139 (kVL 9 10 5 7 11 6))),(8,(.mp (aG T104) T104.length)),(9,(.box 207 [(.mp 8)])),(10,(vB5 dl (aB sk) (aB dc))),(11,(.box 209 [(.fn 153 [] [(.ptr 5 0),(.ptr 7 0)])]))],FC Tp 87 [(.rp (aH dl (aB sk) (aB dc)) 0),(.own 4)] [(4,(.row 3 (x.length+1) ((x.map aA)++[(aA num)])))] 5 (.agg (kVL 9 10 5 7 11 6)) [(4,.dead),(5,(vB0 dl (aB sk) (aB dc))),(6,(.box 33 [(.p (.sl (x.length+1) ((x.map aA)++[(aA num)])))])),(7,(.box 139 (kVL 9 10 5 7 11 6))),(8,(.mp (aG ([]:Lqb)) 0)),(9,(.box 207 [(.mp 8)])),(10,(vB5 dl (aB sk) (aB dc))),(11,(.box 209 [(.fn 153 [] [(.ptr 5 0),(.ptr 7 0)])]))],_,[(aA num)][0]? = some (aA num),[(PV.rp (aH dl (aB sk) (aB dc)) 0)][0]? = some (PV.rp (aH dl (aB sk) (aB dc)) 0),_,_,0≤(bC (fun x=>decide (r6=x)) (aL (aB sk) 0))∧(bC (fun x=>decide (r6=x)) (aL (aB sk) 0))<(((aB sk).length:Nat):Int)∧((bC (fun x=>decide (r6=x)) (aL (aB sk) 0)).toNat*2)<((aB sk).flatten.map aA).length,[(aA (bC (fun x=>decide (r6=x)) (aL (aB sk) 0)))][0]? = some (aA (bC (fun x=>decide (r6=x)) (aL (aB sk) 0))),(aH dl (aB sk) (aB dc))[1]? = some (.sl ((aB sk).length) ((aB sk).flatten.map aA)),[(PV.rp (aH dl (aB sk) (aB dc)) 0)][0]? = some (PV.rp (aH dl (aB sk) (aB dc)) 0),[(PV.rp (aH dl (aB sk) (aB dc)) 0)][0]? = some (PV.rp (aH dl (aB sk) (aB dc)) 0),aC Tp 3 xN (gW dl sk dc num r6 x ) .normal (cE (gW dl sk dc num r6 x ) [(12,(pI ((eV dl sk dc r6 x).1))),(13,(pB ((eV dl sk dc r6 x).2)))])]) (by kernel_rfl) (gc (cL h8) (g4c (aY h7) (gc h6 (gc rfl (gc rfl (gc (FMM.fc (ids:=[5,6,7,8,9,10,11]) h5 (by kernel_rfl)) (gc (FC.close1 (args':=[(.rp (aH dl (aB sk) (aB dc)) 0),(.p (.sl (x.length+1) ((x.map aA)++[(aA num)])))]) (FMM.fcN (k:=7) rfl (ids:=[]) (pM (dl:=dl) (sk:=(aB sk)) (dc:=(aB dc)) (on:=(x.length+1)) (ol:=((x.map aA)++[(aA num)]))) (by kernel_rfl)) (by kernel_rfl)) (gc h4 (gc rfl (gc rfl (gc (aV (i:=(bC (fun x=>decide (r6=x)) (aL (aB sk) 0)).toNat) h3 h1) (gc (bI (i:=(bC (fun x=>decide (r6=x)) (aL (aB sk) 0)).toNat) h3 h1) (gc (cB (k:=2) (i:=(bC (fun x=>decide (r6=x)) (aL (aB sk) 0))) (by decide) h3 h2 h1) (gc rfl (gc rfl (gc rfl (gc rfl (gc hl0 gn))))))))))))))))))
def aSa(dl:Int)(sk:Lqq)(dc:Lqq)(num:Int)(r6:Int)  : St:=⟨fr 102 [(3,(.rp [(aA num)] 0)),(4,(.ptr 0 0)),(5,(.ptr 1 0)),(6,(.rp [(PV.rp (aH dl (aB sk) (aB dc)) 0)] 0)),(9,(.rp [(aA r6)] 0)),(10,(.rp [(aA (bC (fun x=>decide (r6=x)) (aL (aB sk) 0)))] 0)),(53,(.fn 182 [] [(.rp [(aE ((aI dl (aB dc)).filter fun n => !(n == num)))] 0)]))],[some (.box 4 [(pB false)]),some (.box 34 [(pI 0)]),some .dead]⟩
theorem bCf{num r6:Int}{x:List Int}{y100 y101 n102:Int}{b103:Bool}{T104:Lqb}(hl0:aC Tp 3 xN (gW dl sk dc num r6 x ) .normal (cE (gW dl sk dc num r6 x ) [(12,(pI ((eV dl sk dc r6 x).1))),(13,(pB ((eV dl sk dc r6 x).2)))]))(h1:(aB sk)[(bC (fun x=>decide (r6=x)) (aL (aB sk) 0)).toNat]? = some [y100,y101])(h2:0≤(bC (fun x=>decide (r6=x)) (aL (aB sk) 0)))(h3:uni 2 (aB sk))(h4:[(aA num)].length=1*1∧x.length+1≤1000000)(h5:aDt dl (aB sk) (aB dc) (.sl (x.length+1) ((x.map aA)++[(aA num)])) [y100,y101] n102 b103 ([]:Lqb) T104)(h6:dX [(aA r6),(aA 0),(aA ((eV dl sk dc r6 x).1))] [(0,3,true),(1,3,true),(2,3,true)]=true∧dX [(aA r6),(aA 0),(aA n102)] [(0,3,true),(1,3,true),(2,3,true)]=true)(h7:(nD [(aA r6),(aA 0),(aA ((eV dl sk dc r6 x).1))] [(aA r6),(aA 0),(aA n102)] [(0,3,true),(1,3,true),(2,3,true)])=true)(h8:(((eV dl sk dc r6 x).2) == b103)=true):aC Tp 3 aRz (rfO (mH dl sk dc num r6 ) 54 11 x) .normal (aSa dl sk dc num r6 ):=by
 exact aC.fin (g:=⟨(rng [(0,3),(7,2),(11,42),(54,48)]),[],[],[]⟩) (o:=[.k 2 ⟨(rng [(0,3),(7,2),(12,2),(16,37),(55,16)]),[],[],[]⟩ .normal (cE (gW dl sk dc num r6 x ) [(12,(pI ((eV dl sk dc r6 x).1))),(13,(pB ((eV dl sk dc r6 x).2)))]),.x (PV.rp (aH dl (aB sk) (aB dc)) 0),.x (PV.rp (aH dl (aB sk) (aB dc)) 0),.x (.sl ((aB sk).length) ((aB sk).flatten.map aA)),.x (aA (bC (fun x=>decide (r6=x)) (aL (aB sk) 0))),.x (.agg [(aA y100),(aA y101)]),.x (PV.rp (aH dl (aB sk) (aB dc)) 0),.x (aA num),.c (.agg (kVL 9 10 5 7 11 6)) [(4,.dead),(5,(vB0 dl (aB sk) (aB dc))),(6,(.box 33 [(.p (.sl (x.length+1) ((x.map aA)++[(aA num)])))])),(7,(.box 139 (kVL 9 10 5 7 11 6))),(8,(.mp (aG ([]:Lqb)) 0)),(9,(.box 207 [(.mp 8)])),(10,(vB5 dl (aB sk) (aB dc))),(11,(.box 209 [(.fn 153 [] [(.ptr 5 0),(.ptr 7 0)])]))],.c (.tup [(pI n102),(pB b103)]) [(5,(vB0 dl (aB sk) (aB dc))),(6,(.box 33 [(.p (.sl (x.length+1) ((x.map aA)++[(aA num)])))])),(7,(.box 139 (kVL 9 10 5 7 11 6))),(8,(.mp (aG T104) T104.length)),(9,(.box 207 [(.mp 8)])),(10,(vB5 dl (aB sk) (aB dc))),(11,(.box 209 [(.fn 153 [] [(.ptr 5 0),(.ptr 7 0)])]))],.x (aA r6),.x (aA r6),bF,bF,bF,bF,bF]) (l:=[_,_,_,_,_,_,[(aA r6)][0]? = some (aA r6),[(aA r6)][0]? = some (aA r6),FC Tp 134 [(.rp (aH dl (aB sk) (aB dc)) 0),(.p (.agg [(aA y100),(aA y101)])),(.agg (kVL 9 10 5 7 11 6))] [(9,(.box 207 [(.mp 8)])),(10,(vB5 dl (aB sk) (aB dc))),(5,(vB0 dl (aB sk) (aB dc))),(7,(.box 139 (kVL 9 10 5 7 11 6))),(11,(.box 209 [(.fn 153 [] [(.ptr 5 0),(.ptr 7 0)])])),(6,(.box 33 [(.p (.sl (x.length+1) ((x.map aA)++[(aA num)])))])),(8,(.mp (aG ([]:Lqb)) 0))] 13 (.tup [(pI n102),(pB b103)]) [(5,(vB0 dl (aB sk) (aB dc))),(6,(.box 33 [(.p (.sl (x.length+1) ((x.map aA)++[(aA num)])))])),(7,(.box 139 (kVL 9 10 5 7 11 6))),(8,(.mp (aG T104) T104.length)),(9,(.box 207 [(.mp 8)])),(10,(vB5 dl (aB sk) (aB dc))),(11,(.box 209 [(.fn 153 [] [(.ptr 5 0),(.ptr 7 0)])]))],FC Tp 87 [(.rp (aH dl (aB sk) (aB dc)) 0),(.own 4)] [(4,(.row 3 (x.length+1) ((x.map aA)++[(aA num)])))] 5 (.agg (kVL 9 10 5 7 11 6)) [(4,.dead),(5,(vB0 dl (aB sk) (aB dc))),(6,(.box 33 [(.p (.sl (x.length+1) ((x.map aA)++[(aA num)])))])),(7,(.box 139 (kVL 9 10 5 7 11 6))),(8,(.mp (aG ([]:Lqb)) 0)),(9,(.box 207 [(.mp 8)])),(10,(vB5 dl (aB sk) (aB dc))),(11,(.box 209 [(.fn 153 [] [(.ptr 5 0),(.ptr 7 0)])]))],_,[(aA num)][0]? = some (aA num),[(PV.rp (aH dl (aB sk) (aB dc)) 0)][0]? = some (PV.rp (aH dl (aB sk) (aB dc)) 0),_,_,0≤(bC (fun x=>decide (r6=x)) (aL (aB sk) 0))∧(bC (fun x=>decide (r6=x)) (aL (aB sk) 0))<(((aB sk).length:Nat):Int)∧((bC (fun x=>decide (r6=x)) (aL (aB sk) 0)).toNat*2)<((aB sk).flatten.map aA).length,[(aA (bC (fun x=>decide (r6=x)) (aL (aB sk) 0)))][0]? = some (aA (bC (fun x=>decide (r6=x)) (aL (aB sk) 0))),(aH dl (aB sk) (aB dc))[1]? = some (.sl ((aB sk).length) ((aB sk).flatten.map aA)),[(PV.rp (aH dl (aB sk) (aB dc)) 0)][0]? = some (PV.rp (aH dl (aB sk) (aB dc)) 0),[(PV.rp (aH dl (aB sk) (aB dc)) 0)][0]? = some (PV.rp (aH dl (aB sk) (aB dc)) 0),aC Tp 3 xN (gW dl sk dc num r6 x ) .normal (cE (gW dl sk dc num r6 x ) [(12,(pI ((eV dl sk dc r6 x).1))),(13,(pB ((eV dl sk dc r6 x).2)))])]) (by kernel_rfl) (gc (aY h8) (g4c (aY h7) (gc h6 (gc rfl (gc rfl (gc (FMM.fc (ids:=[5,6,7,8,9,10,11]) h5 (by kernel_rfl)) (gc (FC.close1 (args':=[(.rp (aH dl (aB sk) (aB dc)) 0),(.p (.sl (x.length+1) ((x.map aA)++[(aA num)])))]) (FMM.fcN (k:=7) rfl (ids:=[]) (pM (dl:=dl) (sk:=(aB sk)) (dc:=(aB dc)) (on:=(x.length+1)) (ol:=((x.map aA)++[(aA num)]))) (by kernel_rfl)) (by kernel_rfl)) (gc h4 (gc rfl (gc rfl (gc (aV (i:=(bC (fun x=>decide (r6=x)) (aL (aB sk) 0)).toNat) h3 h1) (gc (bI (i:=(bC (fun x=>decide (r6=x)) (aL (aB sk) 0)).toNat) h3 h1) (gc (cB (k:=2) (i:=(bC (fun x=>decide (r6=x)) (aL (aB sk) 0))) (by decide) h3 h2 h1) (gc rfl (gc rfl (gc rfl (gc rfl (gc hl0 gn))))))))))))))))))
end
section
variable {F:Fence} {n:Nat} {P:Program}
theorem aRy{o:Oper}{a:Act}{next next':Act→World→Prop}{Q Q':Exit→Act→World→Prop}{r:Result Next}(h:o.uponIn F n P a next Q r)
  (hn:∀ v d w',next (({ a with defers:=d }:Act).put o.dst v) w'→next' (({ a with defers:=d }:Act).put o.dst v) w') (hQ:∀ e a' w',e ≠ .normal→Q e a' w'→Q' e a' w') (hL:LetsOut Q→LetsOut Q'):o.uponIn F n P a next' Q' r:=by
 have hn':∀ v w',next (a.put o.dst v) w'→next' (a.put o.dst v) w':=fun v w'=>hn v a.defers w'
 cases r with
 | halt x w' =>
  cases x <;> first | exact hQ _ _ _ (by simp) h | exact h
 | ok nx w' =>
  cases nx with
  | value v=>exact hn' _ _ h
  | skip=>exact hn' _ _ h
  | defer d=>exact hn _ _ _ h
  | enter f us =>
   refine ⟨h.1,h.2.mono ?_⟩;intro e w'' he;cases e with
   | returned v=>exact hn' _ _ he
   | panicked c=>exact hQ _ _ _ (by simp) he
   | outgrown=>exact hL he
  | row r us=>exact ⟨h.1,h.2.mono fun v w'' he=>hn' _ _ he⟩
  | round l f tmps as1 bd =>
   refine ⟨h.1,h.2.mono ?_⟩;intro e w'' he;cases e with
   | returned v=>exact hn' _ _ he
   | panicked c=>exact hQ _ _ _ (by simp) he
   | outgrown=>exact hL he
  | _=>exact h
def Kps(ops:Array Oper)(a0 a:Act):Prop:=∀ i,(∀ o∈ops.toList,o.dst≠some i)→a.tmps.getD i undef=a0.tmps.getD i undef
theorem bCc{ops:Array Oper}{Q Q':Exit→Act→World→Prop}{i:Nat}{K K':Act→World→Prop}{a0 a:Act}{w:World}(h:wpOpIn F n P ops Q i K a w)(ha:Kps ops a0 a)(hK:∀ a' w',Kps ops a0 a'→K a' w'→K' a' w')
  (hQ:∀ e a' w',e ≠ .normal→Q e a' w'→Q' e a' w') (hL:LetsOut Q→LetsOut Q'):wpOpIn F n P ops Q' i K' a w:=by
 unfold wpOpIn at h ⊢
 split
 ·rename_i hi
  simp only [hi] at h
  exact hK _ _ ha h
 ·rename_i o hi
  simp only [hi] at h
  have hm:o∈ops.toList:=by
   obtain ⟨hl,he⟩:=lP.1 hi;rw [← he];exact Array.mem_toList_iff.2 (Array.getElem_mem hl)
  have hput:∀ v (d:List Deferred),Kps ops a0 (({ a with defers:=d }:Act).put o.dst v):=fun v d i hd=>by
   rw [oH (a:={ a with defers:=d }) (hd o hm)]
   exact ha i hd
  split at h
  ·rename_i hw
   rw [if_pos hw];exact ⟨h.1,aRy h.2 (fun v d w' hn=>hK _ _ (hput v d) hn) hQ hL⟩
  ·rename_i hw
   rw [if_neg hw];exact ⟨h.1,hK _ _ (hput undef a.defers) h.2⟩
theorem aCw{md:Region.Mode}{ops:Array Oper}{Q:Exit→Act→World→Prop}{a0:Act}:∀ (fuel:Nat) (listed:Array Bool) (a:Act) (w:World),wpAnyIn F n P md ops Q fuel listed a w→Kps ops a0 a →
  wpAnyIn F n P md ops (fun e a' w'=>Q e a' w'∧(e = .normal→Kps ops a0 a')) fuel listed a w
 | 0,listed,a,w,h,ha=>⟨h.1,h.2,fun _=>ha⟩
 | fuel+1,listed,a,w,h,ha=>by
  refine ⟨fun h0=>⟨h.1 h0,fun _=>ha⟩,fun j hj => ?_⟩
  exact bCc (h.2 j hj) ha (fun a' w' hk h'=>aCw fuel _ a' w' h' hk) (fun e a' w' hne hq=>⟨hq,fun he=>absurd he hne⟩) (fun ⟨a',w',hq⟩=>⟨a',w',hq,fun he=>by cases he⟩)
end
section
section
variable {F:Fence} {n:Nat} {P:Program}
def bkD(ds:List Deferred)(a:Act):Act:={ a with defers:=a.defers++ds }
theorem aJf(ds:List Deferred)(a:Act)(d:Option Nat)(v:Value):(bkD ds a).put d v=bkD ds (a.put d v):=by cases d <;> rfl
theorem aCv(ds:List Deferred)(a:Act):(bkD ds a).eval=a.eval:=by funext x;cases x <;> rfl
theorem bCa(ds:List Deferred){o:Oper}{a:Act}{next next':Act→World→Prop}{Q Q':Exit→Act→World→Prop}{r:Result Next}(h:o.uponIn F n P a next Q r)
  (hn:∀ a' w',next a' w'→next' (bkD ds a') w') (hQ:∀ e a' w',Q e a' w'→Q' e (bkD ds a') w') (hL:LetsOut Q→LetsOut Q'):o.uponIn F n P (bkD ds a) next' Q' r:=by
 have hv:∀ v w',next (a.put o.dst v) w'→next' ((bkD ds a).put o.dst v) w':=fun v w' h=>by rw [aJf];exact hn _ _ h
 cases r with
 | halt x w' =>
  cases x <;> first | exact hQ _ _ _ h | exact h
 | ok nx w' =>
  cases nx with
  | value v=>exact hv _ _ h
  | skip=>exact hv _ _ h
  | defer d =>
   have:=hn _ _ h;rw [← aJf] at this
   exact this
  | enter f us =>
   refine ⟨h.1,h.2.mono ?_⟩;intro e w'' he;cases e with
   | returned v=>exact hv _ _ he
   | panicked c=>exact hQ _ _ _ he
   | outgrown=>exact hL he
  | row r us=>exact ⟨h.1,h.2.mono fun v w'' he=>hv _ _ he⟩
  | round l f tmps as1 bd =>
   refine ⟨h.1,h.2.mono ?_⟩;intro e w'' he;cases e with
   | returned v=>exact hv _ _ he
   | panicked c=>exact hQ _ _ _ he
   | outgrown=>exact hL he
  | _=>exact h
theorem bOm(ds:List Deferred){ops:Array Oper}{Q Q':Exit→Act→World→Prop}{i:Nat}{K K':Act→World→Prop}{a:Act}{w:World}(h:wpOpIn F n P ops Q i K a w)(hK:∀ a' w',K a' w'→K' (bkD ds a') w')
  (hQ:∀ e a' w',Q e a' w'→Q' e (bkD ds a') w') (hL:LetsOut Q→LetsOut Q'):wpOpIn F n P ops Q' i K' (bkD ds a) w:=by
 unfold wpOpIn at h ⊢
 split
 ·rename_i hi
  simp only [hi] at h
  exact hK _ _ h
 ·rename_i o hi
  simp only [hi] at h
  have e1:(bkD ds a).tmps=a.tmps:=rfl;rw [e1]
  split at h
  ·rename_i hw
   rw [if_pos hw];refine ⟨by rw [aCv];exact h.1,?_⟩
   rw [aCv];exact bCa ds h.2 hK hQ hL
  ·rename_i hw
   rw [if_neg hw];exact ⟨by rw [aCv];exact h.1,by rw [aJf];exact hK _ _ h.2⟩
theorem aMw(ds:List Deferred){md:Region.Mode}{ops:Array Oper}{Q Q':Exit→Act→World→Prop}(hQ:∀ e a' w',Q e a' w'→Q' e (bkD ds a') w')(hL:LetsOut Q→LetsOut Q'):∀ (fuel:Nat) (listed:Array Bool) (a:Act) (w:World),wpAnyIn F n P md ops Q fuel listed a w→wpAnyIn F n P md ops Q' fuel listed (bkD ds a) w
 | 0,listed,a,w,h=>⟨h.1,hQ _ _ _ h.2⟩
 | fuel+1,listed,a,w,h=>⟨fun h0=>hQ _ _ _ (h.1 h0),fun j hj=>bOm ds (h.2 j hj) (fun a' w' h'=>aMw ds hQ hL fuel _ a' w' h') hQ hL⟩
end
variable {P:Program} {T:TT} {E:Env}
theorem bCb(ds:List Deferred)(hT:∀ t i,T t=some i→cI P t=some i)(hE:lI P E)(hm:P.follows .mixedOrders=true){id:Nat}{ops:Array Oper}{st st':St}{s s':AS}(h:aJt P T E ops true st s=some (st',s'))(g:bB s')
  (C0:Cx) (M0:Mem) (w0:World) (a:Act) (w:World) (hs:Sim P C0 M0 w0 st a w) (ro:Option Nat) (n:Nat):(Code.region id ops true).wpIn (Fen ro) n P (fun e' a' w'=>e'=Ex.normal.toExit∧∃ a2,a'=bkD ds a2∧Sim P C0 M0 w0 st' a2 w'∧Kps ops a a2) (bkD ds a) w:=by
 obtain ⟨_,s1,h1,k1⟩:=aD h;obtain ⟨e1,rfl⟩:=aF h1;obtain ⟨r,s2,h2,k2⟩:=aD k1;obtain ⟨_,s3,h3,k3⟩:=aD k2;obtain ⟨e3,rfl⟩:=aF h3;obtain ⟨rfl,rfl⟩:=aK k3;obtain ⟨hB,_⟩:=bL e1;obtain ⟨hA,_⟩:=bL e3;obtain ⟨os,hfts,hlex⟩:=qD ops.toList _ (fts:=r.1) (fin:=r.2) h2 g
 replace hB:=wB hB
 unfold Region.lexB at hB
 rw [kQ7] at hB
 have hlen:os.length=ops.toList.length:=by
  have:∀ {l:List Oper} {id:Nat} {st:St} {os:List uF} {fin:St},aJu P T E ops.toList id l st os fin→os.length=l.length:=by
   intro l
   induction l with
   | nil=>intro id st os fin h;cases h;rfl
   | cons o l ih=>intro id st os fin h;cases h with | cons _ _ _ _ q os _ h hr=>simp [ih hr]
  exact this hlex
 have key:nZ P T E ops.toList st.m.length (fun k=>os.getD k (.any,[],none)) r.2 ops.toList.length (Array.replicate ops.size false) st:=by
  refine nZ.lex ops.toList 0 _ st os (fun j=>by simp) (fun j q hj=>by simp [kQ4,hj]) (fun j hj=>absurd hj (aOt _)) (fun j oj hj hl => ?_) (fun i j _ hij hj => ?_) (by simpa using hB.2) (by simpa [ido] using hlex)
  ·exfalso
   rcases Nat.lt_or_ge j ops.size with h' | h'
   ·simp [h'] at hl
   ·simp [Nat.not_lt.2 h'] at hl
  have hj2:j<os.length:=by
   rw [hlen];obtain ⟨o,ho⟩:=Option.isSome_iff_exists.1 hj;exact (kQ3.1 ho).1
  have:=mN r.1 0 hA i j (zX os[i]) (zX os[j]) hij (by rw [hfts,iH,kQ0 (by omega)];rfl) (by rw [hfts,iH,kQ0 hj2];rfl)
  rw [gJ,gJ] at this
  simp only [kQ4,kQ0 hj2,kQ0 (show i<os.length by omega),Option.getD_some,Array.toArray_toList]
  exact this
 refine wpIn_region_any hm ?_;have:=nZ.sound hT hE (C0:=C0) (M0:=M0) (w0:=w0) (ro:=ro) (n:=n) (Q:=fun e' a' w'=>e'=Ex.normal.toExit∧Sim P C0 M0 w0 r.2 a' w') (fun a' w' h'=>⟨rfl,h'⟩) _ _ _ a _ key (hs.drawn (w.drawn+1))
 have h2:=aCw (a0:=a) _ _ _ _ (by simpa using this) (fun _ _=>rfl)
 exact aMw ds (fun e a' w' h=>⟨h.1.1,a',rfl,h.1.2,h.2 h.1.1⟩) (fun ⟨a',w',h⟩=>by cases h.1.1) _ _ _ _ h2

end
section
def aCu(P:Program)(k:Nat)(c:Code)(st:St)(e:Ex)(st':St):Prop:=∀ (C0:Cx) (M0:Mem) (w0:World) (a:Act) (w:World),M0.length≤k→Sim P C0 M0 w0 st a w→∀ (ds:List Deferred) (ro:Option Nat) (n:Nat),c.wpIn (Fen ro) n P (fun e' a' w'=>e'=e.toExit∧∃ a2,a'=bkD ds a2∧Sim P C0 M0 w0 st' a2 w'∧(∀ i,wrR c i=false→a2.tmps.getD i undef=a.tmps.getD i undef)) (bkD ds a) w
noncomputable def bPi(c:Code)(st:St):Ask (Ex × St):=match c with
 | .region _ ops true=>do
  let st' ← aJt Tp tT EO ops true st
  pure (.normal,st')
 | _=>fail
theorem aCu.fin{k:Nat}{c:Code}{st st':St}{e:Ex}{g:Gh}{o:List OI}{l:List Prop}(h:aLj k g (bPi c st (asg o))=some (e,st',l,[]))(gd:bB (out l)):aCu Tp k c st e st':=by
 unfold aLj at h
 split at h
 ·rename_i e1 st1 s hr
  split at h
  ·rename_i st2 hg
   simp only [Option.some.injEq,Prod.mk.injEq] at h
   obtain ⟨rfl,rfl,rfl,hs⟩:=h;unfold bPi at hr
   split at hr
   ·rename_i id ops
    obtain ⟨st3,s1,h1,k1⟩:=aD hr;obtain ⟨he,rfl⟩:=aK k1;cases he;intro C0 M0 w0 a w hk hsm ds ro n;refine wpIn_mono (bCb ds aFc aFb mixed h1 (fun p hp=>gd p hp) C0 M0 w0 a w hsm ro n) ?_
    rintro e' a' w' ⟨rfl,a2,rfl,h',hkp⟩;exact ⟨rfl,a2,rfl,eK hk hg h',fun i hi=>hkp i fun o ho e=>by
     unfold wrR at hi
     have:=List.any_eq_false.1 hi o ho;rw [e] at this
     exact this (Nat.beq_refl i)⟩
   ·cases hr
  ·cases h
 ·cases h
end
section

theorem bWn{dl:Int}{sk dc:Lqq}{num r6:Int}{x:List Int}{y0 y1 n2:Int}{b3:Bool}{T4:Lqb}(h0:(aB sk)[(bC (fun x=>decide (r6=x)) (aL (aB sk) 0)).toNat]? = some [y0,y1])(h1:0≤(bC (fun x=>decide (r6=x)) (aL (aB sk) 0)))(h2:uni 2 (aB sk))(h3:aDt dl (aB sk) (aB dc) (aE x) [y0,y1] n2 b3 ([]:Lqb) T4):aCu Tp 0 (sub (cd Tryz.f58) [1,1,1,1,1,1,1,1,1,0,1,0,1,0,0]) ⟨fr 102 [(3,(.rp [(aA num)] 0)),(6,(.rp [(PV.rp (aH dl (aB sk) (aB dc)) 0)] 0)),(9,(.rp [(aA r6)] 0)),(10,(.rp [(aA (bC (fun x=>decide (r6=x)) (aL (aB sk) 0)))] 0)),(11,(.p (aE x)))],[]⟩ .normal ⟨fr 102 [(3,(.rp [(aA num)] 0)),(6,(.rp [(PV.rp (aH dl (aB sk) (aB dc)) 0)] 0)),(9,(.rp [(aA r6)] 0)),(10,(.rp [(aA (bC (fun x=>decide (r6=x)) (aL (aB sk) 0)))] 0)),(11,(.p (aE x))),(12,(pI n2)),(13,(pB b3))],[]⟩:=by
 exact aCu.fin (g:=⟨(rng [(0,3),(4,2),(7,2),(14,88)]),[],[],[]⟩) (o:=[.x (PV.rp (aH dl (aB sk) (aB dc)) 0),.x (PV.rp (aH dl (aB sk) (aB dc)) 0),.x (.sl ((aB sk).length) ((aB sk).flatten.map aA)),.x (aA (bC (fun x=>decide (r6=x)) (aL (aB sk) 0))),.x (.agg [(aA y0),(aA y1)]),.x (PV.rp (aH dl (aB sk) (aB dc)) 0),.c iB (vU dl (aB sk) (aB dc) (aE x) ([]:Lqb)),.c (.tup [(pI n2),(pB b3)]) (vU dl (aB sk) (aB dc) (aE x) T4)]) (l:=[FC Tp 134 [(.rp (aH dl (aB sk) (aB dc)) 0),(.p (.agg [(aA y0),(aA y1)])),iB] [(4,(.box 207 [(.mp 3)])),(5,(vB5 dl (aB sk) (aB dc))),(0,(vB0 dl (aB sk) (aB dc))),(2,vB2),(6,vB6),(1,(.box 33 [(.p (aE x))])),(3,(.mp (aG ([]:Lqb)) 0))] 8 (.tup [(pI n2),(pB b3)]) (vU dl (aB sk) (aB dc) (aE x) T4),FC Tp 87 [(.rp (aH dl (aB sk) (aB dc)) 0),(.p (aE x))] [] 0 iB (vU dl (aB sk) (aB dc) (aE x) ([]:Lqb)),[(PV.rp (aH dl (aB sk) (aB dc)) 0)][0]? = some (PV.rp (aH dl (aB sk) (aB dc)) 0),_,_,0≤(bC (fun x=>decide (r6=x)) (aL (aB sk) 0))∧(bC (fun x=>decide (r6=x)) (aL (aB sk) 0))<(((aB sk).length:Nat):Int)∧((bC (fun x=>decide (r6=x)) (aL (aB sk) 0)).toNat*2)<((aB sk).flatten.map aA).length,[(aA (bC (fun x=>decide (r6=x)) (aL (aB sk) 0)))][0]? = some (aA (bC (fun x=>decide (r6=x)) (aL (aB sk) 0))),(aH dl (aB sk) (aB dc))[1]? = some (.sl ((aB sk).length) ((aB sk).flatten.map aA)),[(PV.rp (aH dl (aB sk) (aB dc)) 0)][0]? = some (PV.rp (aH dl (aB sk) (aB dc)) 0),[(PV.rp (aH dl (aB sk) (aB dc)) 0)][0]? = some (PV.rp (aH dl (aB sk) (aB dc)) 0)]) (by kernel_rfl) (gc (FMM.fc (ids:=[0,1,2,3,4,5,6]) h3 (by kernel_rfl)) (gc (FMM.fcN (k:=7) rfl (ids:=[]) (pM (dl:=dl) (sk:=(aB sk)) (dc:=(aB dc)) (on:=x.length) (ol:=(x.map aA))) (by kernel_rfl)) (gc rfl (gc (aV (i:=(bC (fun x=>decide (r6=x)) (aL (aB sk) 0)).toNat) h2 h0) (gc (bI (i:=(bC (fun x=>decide (r6=x)) (aL (aB sk) 0)).toNat) h2 h0) (gc (cB (k:=2) (i:=(bC (fun x=>decide (r6=x)) (aL (aB sk) 0))) (by decide) h2 h1 h0) (gc rfl (gc rfl (gc rfl (gc rfl gn))))))))))
end
end KV
end Go.Proofs
section
namespace Go.Proofs
open Go.RowKit
namespace KV
theorem bHt{P:Program}{C:Cx}{st:St}{a:Act}{w:World}(hS:eB C st.m w st.t a.tmps)(hM:aR P C st.m w)(hp:fO st.m=true)(hn:aNp st.m) :
  Sim P (cxF fun _=>False) [] { w with heap := #[] } st { a with defers:=[] } w :=
 ⟨C,hS,hM,⟨rfl,rfl,rfl,Nat.zero_le _,fun b hb=>absurd hb (aOt _),fun _ _ h=>by simp at h,fun _ _ h=>by simp at h,fun _ _ h=>by simp at h,fun _ _ b _ _ _ => .inl (Nat.zero_le _),fun _ h=>h.elim,fun b _ => .inr (.inl (Nat.zero_le _))⟩,.nil rfl hn⟩
theorem bBz{P:Program}{C:Cx}{M:Mem}{W W':World}(hM:aR P C M W)(hg:W.grownBy W' none):aR P C M W'∧Fr C M W C M W':=by
 have hsame:∀ b,b<W.heap.size→W'.heap[b]? = W.heap[b]? := fun b hb=>hg.block b hb (fun e=>by cases e)
 have hL:Le C C M M W W':=⟨fun _ o h=>⟨o,h⟩,fun _ _ _ _ _ cs h=>⟨cs,h⟩,fun _ o h o' h' hl=>by rw [h] at h';cases h';exact ⟨hl,rfl,rfl⟩,fun _ h=>h,fun b hb=>hsame b (hM.Fs b hb)⟩
 refine ⟨⟨fun i ty n cs hm => ?_,fun i ty cs hm => ?_,fun i es cl hm => ?_,hM.inj,hM.nF,fun b hb=>kQ8 (hM.Fs b hb) hg.size,fun i o b ho hl hb=>kQ8 (hM.lt i o b ho hl hb) hg.size⟩,
  ⟨hg.os,hg.tape,hg.output,hg.size,fun b hb _=>hsame b hb,fun i o h=>⟨⟨o,h⟩,rfl,rfl⟩,fun _ _ _ _ _ cs h=>⟨cs,h⟩,fun _ o h o' h' hl=>by rw [h] at h';cases h';exact hl,fun i o b ho hl hb => .inr ⟨i,o,ho,hl,hb⟩,fun _ h=>h,fun _ h => .inl h⟩⟩
 ·rcases hM.row _ _ _ _ hm with h4 | ⟨b,arr,inf,q0,q1,q2,q3,q4,q5,q6,q7,q8⟩
  ·exact .inl h4
  ·exact .inr ⟨b,arr,inf,q0,(hsame b (lP.1 q1).1).trans q1,q2,q3,q4,q5,q6,fun j hj=>(q7 j hj).mono hL.F hL.fz,q8⟩
 ·obtain ⟨b,arr,q0,q1,q2,q3,q4⟩:=hM.box _ _ _ hm
  exact ⟨b,arr,q0,(hsame b (lP.1 q1).1).trans q1,q2,fun j hj=>(q3 j hj).mono hL,q4⟩
 ·obtain ⟨b,arr,q0,q1,q2,q3⟩:=hM.mp _ _ _ hm
  refine ⟨b,arr,q0,(hsame b (lP.1 q1).1).trans q1,q2,fun j hj => ?_⟩
  obtain ⟨en,r1,r2,r3,r4⟩:=q3 j hj;exact ⟨en,r1,r2,r3,r4.mono hL.F hL.fz⟩
def bHu(t:List AV)(i:Nat):Bool:=match t[i]? with
 | some .any=>true
 | _=>false
theorem aUg{C:Cx}{M:Mem}{w:World}{v u:Value}(h:Rep C M w (.p (.v v)) u):u=v:=by
 cases h with
 | p _ _ h=>cases h;rfl
theorem bWm{P:Program}{k:Nat}{c:Code}{tA tB:List AV}{S:St}{g:Gh}{i1 i2:Nat}{v1 v2:Value}(hk:aCu P 0 c ⟨tA,[]⟩ .normal ⟨tB,[]⟩)(hg:gh 0 g S=some ⟨tA,[]⟩)(hn:fO S.m=true)
  (h1:tB[i1]? = some (.p (.v v1))) (h2:tB[i2]? = some (.p (.v v2))) (hne:i1≠i2) (hl:tB.length=S.t.length) (hall:((List.range S.t.length).all fun i => !wrR c i || Nat.beq i i1 || Nat.beq i i2 || bHu S.t i)=true) :
  aC P k c S .normal (cE S [(i1,.p (.v v1)),(i2,.p (.v v2))]):=by
 intro C0 M0 w0 a w hk0 hs ro _ n;obtain ⟨C,hS,hM,hF,hD⟩:=hs;obtain ⟨C1,hS1,hM1,_,_⟩:=eK (dO 0) hg (bHt hS hM hn (dZ hn).2);have hs1:Sim P (C1.with []) [] w ⟨tA,[]⟩ { a with defers:=[] } w:=⟨C1,hS1,hM1,(Fr.refl _ _ _).based [],.nil rfl (dZ (m:=[]) rfl).2⟩
 have:=hk (C1.with []) [] w _ w (dO 0) hs1 a.defers ro n
 refine wpIn_mono this ?_;rintro e' a' w' ⟨rfl,a2,rfl,⟨C2,hS2,hM2,hF2,⟨l2,d1,d2,d3⟩,_⟩,hkp⟩;have hg2:w.grownBy w' none:=aLo hF2;obtain ⟨hM3,hF3⟩:=bBz hM hg2;have hS3:=hS.le (hM.le hF3);refine ⟨rfl,C,⟨?_,fun i hi => ?_⟩,hM3,hF.trans hF3,?_⟩
 ·have e0:=hS2.size
  show a2.tmps.size=((S.t.set i1 _).set i2 _).length;rw [tL,tL];exact e0.trans hl
 ·have hi':i<S.t.length:=by
   have:i<((S.t.set i1 (.p (.v v1))).set i2 (.p (.v v2))).length:=hi
   rwa [tL,tL] at this
  have key:∀ x,((S.t.set i1 (.p (.v v1))).set i2 (.p (.v v2)))[i]? = some x→Rep C S.m w' x (a2.tmps.getD i undef):=by
   intro x hx
   by_cases e2:i2=i
   ·subst e2
    rw [bDw (by rw [tL];exact hi')] at hx
    cases hx;rw [aUg (hS2.at h2)]
    exact .p _ _ (.v _)
   rw [bJd e2] at hx
   by_cases e1:i1=i
   ·subst e1
    rw [bDw hi'] at hx
    cases hx;rw [aUg (hS2.at h1)]
    exact .p _ _ (.v _)
   rw [bJd e1] at hx
   have hc:=fV.1 hall i (nH.2 hi');cases hw:wrR c i with
   | false =>
    rw [hkp i hw];exact hS3.at hx
   | true =>
    have n1:Nat.beq i i1=false:=by
     cases h:Nat.beq i i1 with
     | false=>rfl
     | true=>exact absurd (Nat.eq_of_beq_eq_true h).symm e1
    have n2:Nat.beq i i2=false:=by
     cases h:Nat.beq i i2 with
     | false=>rfl
     | true=>exact absurd (Nat.eq_of_beq_eq_true h).symm e2
    rw [hw,n1,n2] at hc
    have hc:bHu S.t i=true:=hc;unfold bHu at hc
    rw [hx] at hc
    cases x <;> first | exact .any _ | cases hc
  exact key _ (kQ0 hi)
 ·obtain ⟨⟨l,e1,e2,e3⟩,hR⟩:=hD.fr hM .refl hF3
  obtain ⟨⟨l',e1',_,e3'⟩,_⟩:=hD;have hll:l=l':=by
   have:=e1.symm.trans e1';exact (List.map_inj_right (fun x y h=>by simpa [mark] using h)).1 this
  refine ⟨⟨l2++l,?_,?_,?_⟩,hR⟩
  ·show a2.defers++a.defers=_
   rw [d1,e1,hZ]
  ·refine List.nodup_append.2 ⟨d2,e2,fun x hx y hy hxy => ?_⟩
   have:=(d3 x hx).2.1;have:=(lP.1 (e3' y (hll ▸ hy)).1).1;subst hxy;omega
  ·intro D hD2
   rcases iI.1 hD2 with h | h
   ·exact ⟨(d3 D h).1,gK hF.size (d3 D h).2.1,fun hf=>by
     have:=hM.Fs D hf;have:=(d3 D h).2.1;omega⟩
   ·exact e3 D h
end KV
end Go.Proofs
end
namespace Go.Proofs
namespace KV
section
variable {dl:Int}{sk dc:Lqq}
theorem bOi(l:List Int)(v:Int)(hl:l.length≤1000000){base:Nat}:FV Tp 126 [.p (aE l),.p (aA v)] base (pI (bC (fun x=>decide (v=x)) l)) []:=by
 rcases aJ.find (P:=Tp) (k:=0) (b:=(sub (cd Tryz.f126) [1,0,1,0,0])) (fun i=>gE l v i) (fun i _=>cE (gE l v i) [(4,.p (aA (i:Int)))]) (gE l v l.length) .ret (.exit 0) (by simp) (by simp) (fun x=>decide (v=x)) l
  (fun i x hx hp=>aFq (by have:=bD hx;omega) hx (by simpa using hp) (aP (by have:=bD hx;omega)) rfl)
  (fun i x hx hp=>aFp (by have:=bD hx;omega) hx (by simpa using hp))
  (aFr (l:=l) (i:=l.length) (by omega)) with ⟨i,x,h1,h2,h3,h4⟩ | ⟨h1,h2,h3⟩
 ·rw [jH h2];exact bFu h4
 ·rw [jI h1];exact bFt h3
theorem bOj(l:List Int)(v:Int)(hl:l.length≤1000000){base:Nat}:FV Tp 52 [.p (aE l),.p (aA v)] base (pB (l.contains v)) []:=by
 rw [← vH];exact FV.fin Tryz.func52 rfl (o:=[.c (pI (bC (fun x=>decide (v=x)) l)) []]) (l:=[_]) (by kernel_rfl) (gc (fk 0 (bOi l v hl) rfl) gn)
theorem bOk{l:List Int}(hl:l.length≤1000000)(n:Int):sJ (aE l) n (l.contains n):=fun base=>bOj l n hl
def zD(dl:Int)(sk dc:Lqq)(num r6:Int)(x:List Int):Bool := !(((eV dl sk dc r6 x).1 == (eV dl sk dc r6 (x++[num])).1) && ((eV dl sk dc r6 x).2 == (eV dl sk dc r6 (x++[num])).2))
theorem bXv(r t t':Int):nD [aA r,aA 0,aA t] [aA r,aA 0,aA t'] [(0,3,true),(1,3,true),(2,3,true)]=(t == t'):=by
 rw [Bool.eq_iff_iff];simp [nD,aDm]
theorem aUf{r6 y0 y1:Int}(h:(aB sk)[(bC (fun x=>decide (r6=x)) (aL (aB sk) 0)).toNat]? = some [y0,y1])(x:List Int):eV dl sk dc r6 x=dJ dl x (aB dc) y0 y1:=by
 have e:(aB sk).getD (bC (fun x=>decide (r6=x)) (aL (aB sk) 0)).toNat []=[y0,y1]:=by
  rw [kQ4,h];rfl
 unfold eV;rw [e];rfl
theorem bHr{dl:Int}{sk dc:Lqq}{num r6:Int}{x:List Int}(hd:bZ (aB dc))(hu:uni 2 (aB sk))(hs:∀ s∈aB sk,-1≤s.getD 1 0∧s.getD 1 0≤360000)(hx:x.length≤1000){y0 y1:Int}(h0:(aB sk)[(bC (fun x=>decide (r6=x)) (aL (aB sk) 0)).toNat]? = some [y0,y1])(h1:0≤(bC (fun x=>decide (r6=x)) (aL (aB sk) 0))) :
  aC Tp 3 (sub (cd Tryz.f58) [1,1,1,1,1,1,1,1,1,0,1,0,1,0,0]) (gW dl sk dc num r6 x) .normal (cE (gW dl sk dc num r6 x) [(12,(pI ((eV dl sk dc r6 x).1))),(13,(pB ((eV dl sk dc r6 x).2)))]):=by
 obtain ⟨T',_,hT⟩:=bEx (sk:=aB sk) hd (fun n=>aBw hx n) y0 y1 (hs _ (kQ5 h0)) (T:=[]) cK.nil
 rw [aUf h0];exact bWm (bWn (num:=num) h0 h1 hu hT) (g:=⟨(rng [(0,3),(4,2),(7,2),(12,90)]),[],[2],[]⟩) (by kernel_rfl) rfl (by rfl) (by rfl) (by decide) (by rfl) (by kernel_rfl)
theorem bBx{dl:Int}{sk dc:Lqq}{num r6:Int}{x:List Int}(hd:bZ (aB dc))(hu:uni 2 (aB sk))(hs:∀ s∈aB sk,-1≤s.getD 1 0∧s.getD 1 0≤360000)(hx:x.length≤1000){y0 y1:Int}(h0:(aB sk)[(bC (fun x=>decide (r6=x)) (aL (aB sk) 0)).toNat]? = some [y0,y1])(h1:0≤(bC (fun x=>decide (r6=x)) (aL (aB sk) 0))) :
  (zD dl sk dc num r6 x=false→aC Tp 3 (sub (cd Tryz.f58) [1,1,1,1,1,1,1,1,1,0,1,0,1]) (rfO (mH dl sk dc num r6) 54 11 x) .normal (aSa dl sk dc num r6)) ∧
  (zD dl sk dc num r6 x=true→aC Tp 3 (sub (cd Tryz.f58) [1,1,1,1,1,1,1,1,1,0,1,0,1]) (rfO (mH dl sk dc num r6) 54 11 x) .ret (aJh dl sk dc num r6)):=by
 have hn:=bHr (dl:=dl) (num:=num) hd hu hs hx h0 h1;obtain ⟨T',_,hT⟩:=bEx (dl:=dl) (sk:=aB sk) hd (fun n=>bOk (l:=x++[num]) (by rw [lG];show x.length+1≤_;omega) n) y0 y1 (hs _ (kQ5 h0)) (T:=[]) cK.nil
 rw [← aUf h0] at hT
 have hov:aE (x++[num]) = .sl (x.length+1) (x.map aA++[aA num]):=by
  show PV.sl (x++[num]).length ((x++[num]).map aA)=_;rw [lG,hZ];rfl
 rw [hov] at hT
 have hq:=bXv r6 (eV dl sk dc r6 x).1 (eV dl sk dc r6 (x++[num])).1;unfold zD;cases ha:((eV dl sk dc r6 x).1 == (eV dl sk dc r6 (x++[num])).1) with
 | false =>
  refine ⟨fun h=>(by cases h),fun _ => ?_⟩
  rw [ha] at hq
  exact bCd hn h0 h1 hu ⟨rfl,by omega⟩ hT ⟨rfl,rfl⟩ hq
 | true =>
  rw [ha] at hq
  cases hb:((eV dl sk dc r6 x).2 == (eV dl sk dc r6 (x++[num])).2) with
  | false =>
   refine ⟨fun h=>(by cases h),fun _ => ?_⟩
   exact bCe hn h0 h1 hu ⟨rfl,by omega⟩ hT ⟨rfl,rfl⟩ hq hb
  | true =>
   refine ⟨fun _ => ?_,fun h=>(by cases h)⟩
   exact bCf hn h0 h1 hu ⟨rfl,by omega⟩ hT ⟨rfl,rfl⟩ hq hb
theorem bBy{num r6:Int}(hd:bZ (aB dc))(hu:uni 2 (aB sk))(hs:∀ s∈aB sk,-1≤s.getD 1 0∧s.getD 1 0≤360000){y0 y1:Int}(h0:(aB sk)[(bC (fun x=>decide (r6=x)) (aL (aB sk) 0)).toNat]? = some [y0,y1])(h1:0≤(bC (fun x=>decide (r6=x)) (aL (aB sk) 0)))(ho:((aI dl (aB dc)).filter fun n => !(n == num)).length≤60) :
  ((fG ((aI dl (aB dc)).filter fun n => !(n == num))).any (zD dl sk dc num r6)=false→aC Tp 0 (sub (cd Tryz.f58) [1,1,1,1,1,1,1,1,1,0,1,0]) (tY dl sk dc num r6) .normal (mH dl sk dc num r6)) ∧
  ((fG ((aI dl (aB dc)).filter fun n => !(n == num))).any (zD dl sk dc num r6)=true→aC Tp 0 (sub (cd Tryz.f58) [1,1,1,1,1,1,1,1,1,0,1,0]) (tY dl sk dc num r6) .ret (aCy dl sk dc num r6)):=by
 have main:=aFi (P:=Tp) (k:=0) (kb:=3) (kk:=2) (g0:=⟨[],[],[],[]⟩) (g1:=⟨[],[],[],[]⟩) (gR:=⟨[],[],[],[]⟩) (tY dl sk dc num r6) (fun _=>mH dl sk dc num r6) (fun _ _=>aSa dl sk dc num r6) (fun _ _=>aJh dl sk dc num r6) (mH dl sk dc num r6).t (aCy dl sk dc num r6).m (fun _=>zD dl sk dc num r6)
  (cc := sub (cd Tryz.f58) [1, 1, 1, 1, 1, 1, 1, 1, 1, 0, 1, 0]) (gi := 53) (p1 := 54) (d := 11) (id := 14) (ty := 33) (pos := "outcome.go:200") (body := sub (cd Tryz.f58) [1, 1, 1, 1, 1, 1, 1, 1, 1, 0, 1, 0, 1]) (by kernel_rfl)
  rfl (fun _=>rfl) (g := .fn 182 [] [.rp [aE ((aI dl (aB dc)).filter fun n => !(n == num))] 0]) (by rfl) (aFg _ ho) (fun args w=>rfl) (fun _=>rfl) (fun _=>rfl) (fun _ _=>rfl) (fun _ _=>rfl) rfl rfl (fun _=>by show 2<3;omega) (by kernel_rfl) (fun x=>rfl) (by show 2≤2;omega) rfl (by kernel_rfl) (fun pre l=>by kernel_rfl) (fun _ _ _=>by kernel_rfl) (fun pre l _ hx=>bBx hd hu hs hx h0 h1)
 refine ⟨fun h=>main.1 fun pre l hp => ?_,fun h=>main.2 ?_⟩
 ·have:=List.any_eq_false.1 h l (hp.subset (by simp))
  simpa using this
 ·obtain ⟨l,hl,hb⟩:=List.any_eq_true.1 h
  obtain ⟨s,t,e⟩:=List.append_of_mem hl;exact ⟨s,l,⟨t,by rw [e];simp⟩,hb⟩
def jX(dl:Int)(sk dc:Lqq)(num:Int):Bool × Int :=
 if (aI dl (aB dc)).contains num=false then (false,1) else if 8<(aI dl (aB dc)).length then (false,10) else
 if bC (fun x=>decide (zC (aB dc) num=x)) (aL (aB sk) 0)<0 then (false,0) else ((fG ((aI dl (aB dc)).filter fun n => !(n == num))).any (zD dl sk dc num (zC (aB dc) num)),0)
theorem bOl{α:Type}{p:α→Bool}{l:List α}(h:0≤bC p l):(bC p l).toNat<l.length:=by
 unfold bC at h ⊢
 cases e:l.findIdx? p with
 | none=>rw [e] at h;simp at h
 | some i =>
  obtain ⟨hi,_⟩:=List.findIdx?_eq_some_iff_getElem.1 e;simpa using hi
theorem bHs(h:bQ dl sk dc)(num:Int){base:Nat}:FV Tp 58 [.p (.agg (cF dl sk dc)),.p (aA num)] base (.tup [.p (blP (jX dl sk dc num).1),.p (aA (jX dl sk dc num).2)]) []:=by
 have hd:=eF h;obtain ⟨hu,hl,hs,_⟩:=pP h;have hol:(aI dl (aB dc)).length≤1000:=by
  unfold aI;rw [kQ9];exact gK (uZ _ _) hd.len
 unfold jX;cases hc:(aI dl (aB dc)).contains num with
 | false=>exact bWo h hd hol hc
 | true =>
  rw [if_neg (by simp)]
  by_cases h8:8<(aI dl (aB dc)).length
  ·rw [if_pos h8];exact bWp h hd hol hc (by omega)
  ·rw [if_neg h8]
   have hm:num∈aI dl (aB dc):=by simpa using hc
   have hm2:=hm;unfold aI at hm2
   obtain ⟨x,hx,rfl⟩:=dF.1 hm2;have hx:=(vB.1 hx).1;have hr:=dS hd hx;have hsb:zC (aB dc) (dN x)=eO (aB dc) x:=by unfold zC;rw [rY hd hx]
   obtain ⟨q1,q2⟩:=aHt hd hx;have hk:=pJ hd (n:=dN x) (by unfold inR;omega)
   have hab:=kM hd x hx;rw [hsb];obtain ⟨a,b,c,d,e,f,rfl⟩:=len6 (hd.ud x hx);have hf:inR f:=by
    have:=(iV.1 (hd.rng _ hx));unfold inR;simp [dAb] at this hab ⊢;omega
   have hsbj:aLm dl (aB sk) (aB dc) [a,b,c,d,e,f] (eO (aB dc) [a,b,c,d,e,f]):=fun base=>aPp hd hf (.inl hx) hr.2
   have hcl:(aL (aB sk) 0).length≤1000:=by rw [vG];omega
   by_cases h0:bC (fun x=>decide (eO (aB dc) [a,b,c,d,e,f]=x)) (aL (aB sk) 0)<0
   ·rw [if_pos h0]
    exact bWq h hd hol hc (by omega) hk q1 q2 hsbj ⟨hu,by omega⟩ hcl h0
   ·rw [if_neg h0]
    have hi:=bOl (p:=fun x=>decide (eO (aB dc) [a,b,c,d,e,f]=x)) (l:=aL (aB sk) 0) (by omega)
    rw [vG] at hi
    obtain ⟨y0,y1,hy⟩:=at2 hu hi;have hrg:=bBy (dl:=dl) (num:=dN [a,b,c,d,e,f]) hd hu hs hy (by omega) (gK (uZ _ _) (by omega))
    cases hb:(fG ((aI dl (aB dc)).filter fun n => !(n == dN [a,b,c,d,e,f]))).any (zD dl sk dc (dN [a,b,c,d,e,f]) (eO (aB dc) [a,b,c,d,e,f])) with
    | false=>exact bWr h hd hol hc (by omega) hk q1 q2 hsbj ⟨hu,by omega⟩ hcl (by omega) (hrg.1 hb)
    | true=>exact bWs h hd hol hc (by omega) hk q1 q2 hsbj ⟨hu,by omega⟩ hcl (by omega) (hrg.2 hb)
end
section

theorem aRw:((0:Int) == (0:Int))=true:=by first | decide | simp
theorem aRx:((0:Int) != (0:Int))=false:=by first | decide | simp
theorem aJe:((3:Int) != (3:Int))=false:=by first | decide | simp
theorem bWk:((15100:Int) == (15100:Int))=true:=by first | decide | simp
abbrev thD:List PV:=[(aA 1),(aA 0),(aA 0),(aA 1),(aA 300),(aA 0),(aA 2),(aA 7),(aA 10),(aA 0),(aA 0),(aA 1),(aA 3),(aA 9),(aA 40),(aA 0),(aA 0),(aA 2),(aA 4),(aA 5),(aA 50),(aA 0),(aA 0),(aA 3),(aA 5),(aA 6),(aA 60),(aA 0),(aA 100),(aA 1)]
abbrev thS:List PV:=[(aA 1),(aA 15000),(aA 2),(aA 15100),(aA 3),(aA 15200)]
abbrev mK:AV:=(.p (.agg [(aA 30),(.sl 3 thS),(.sl 2 [(aA 1),(aA 0),(aA 0),(aA 1),(aA 300),(aA 0),(aA 2),(aA 7),(aA 10),(aA 0),(aA 0),(aA 1)])]))
abbrev bHo:AV:=(.p (.agg [(aA 30),(.sl 3 thS),(.sl 3 [(aA 1),(aA 0),(aA 0),(aA 1),(aA 300),(aA 0),(aA 2),(aA 7),(aA 10),(aA 0),(aA 0),(aA 1),(aA 3),(aA 9),(aA 40),(aA 0),(aA 0),(aA 2)])]))
abbrev bHp:AV:=(.p (.agg [(aA 30),(.sl 3 thS),(.sl 4 [(aA 1),(aA 0),(aA 0),(aA 1),(aA 300),(aA 0),(aA 2),(aA 7),(aA 10),(aA 0),(aA 0),(aA 1),(aA 3),(aA 9),(aA 40),(aA 0),(aA 0),(aA 2),(aA 4),(aA 5),(aA 50),(aA 0),(aA 0),(aA 3)])]))
abbrev bHq:AV:=(.p (.agg [(aA 30),(.sl 3 thS),(.sl 5 [(aA 1),(aA 0),(aA 0),(aA 1),(aA 300),(aA 0),(aA 2),(aA 7),(aA 10),(aA 0),(aA 0),(aA 1),(aA 3),(aA 9),(aA 40),(aA 0),(aA 0),(aA 2),(aA 4),(aA 5),(aA 50),(aA 0),(aA 0),(aA 3),(aA 5),(aA 6),(aA 60),(aA 0),(aA 100),(aA 1)])]))
theorem bOb{r0c:List PV}(h0:0≤(0:Int)∧(0:Int)≤2∧(2:Int)≤5)(er0c:r0c=((thD.drop 0).take (2*(thD.length / 5)))){base:Nat}:FV Tp 88 [(pI 2)] base (.p (.agg [(aA 30),(.sl 3 [(aA 1),(aA 15000),(aA 2),(aA 15100),(aA 3),(aA 15200)]),(.sl 2 r0c)])) []:=by
 subst er0c;exact FV.frz (FMM.fin (k:=0) (g:=⟨[],[],[2,1],[]⟩) rfl Tryz.func88 rfl (o:=[.c (.p (dcE 1 0 0 1 300 0)) [],.c (.p (dcE 2 7 10 0 0 1)) [],.c (.p (dcE 3 9 40 0 0 2)) [],.c (.p (dcE 4 5 50 0 0 3)) [],.c (.p (dcE 5 6 60 0 100 1)) []]) (l:=[_,FC Tp 49 [(pI 5),(pI 6),(pI 1),(pI 60),(pI 100)] [] 1 (.p (dcE 5 6 60 0 100 1)) [],FC Tp 49 [(pI 4),(pI 5),(pI 3),(pI 50),(pI 0)] [] 1 (.p (dcE 4 5 50 0 0 3)) [],FC Tp 49 [(pI 3),(pI 9),(pI 2),(pI 40),(pI 0)] [] 1 (.p (dcE 3 9 40 0 0 2)) [],FC Tp 49 [(pI 2),(pI 7),(pI 1),(pI 10),(pI 0)] [] 1 (.p (dcE 2 7 10 0 0 1)) [],FC Tp 23 [(pI 1),(pI 1),(pI 300)] [] 1 (.p (dcE 1 0 0 1 300 0)) []]) (by kernel_rfl) (gc h0 (gc (FV.fc (iM (a:=(5:Int)) (b:=(6:Int)) (c:=(1:Int)) (d:=(60:Int)) (e:=(100:Int))) rfl) (gc (FV.fc (iM (a:=(4:Int)) (b:=(5:Int)) (c:=(3:Int)) (d:=(50:Int)) (e:=(0:Int))) rfl) (gc (FV.fc (iM (a:=(3:Int)) (b:=(9:Int)) (c:=(2:Int)) (d:=(40:Int)) (e:=(0:Int))) rfl) (gc (FV.fc (iM (a:=(2:Int)) (b:=(7:Int)) (c:=(1:Int)) (d:=(10:Int)) (e:=(0:Int))) rfl) (gc (FV.fc (aIs (a:=(1:Int)) (b:=(1:Int)) (c:=(300:Int))) rfl) gn))))))) (by kernel_rfl)
theorem bOc{r0c:List PV}(h0:0≤(0:Int)∧(0:Int)≤3∧(3:Int)≤5)(er0c:r0c=((thD.drop 0).take (3*(thD.length / 5)))){base:Nat}:FV Tp 88 [(pI 3)] base (.p (.agg [(aA 30),(.sl 3 [(aA 1),(aA 15000),(aA 2),(aA 15100),(aA 3),(aA 15200)]),(.sl 3 r0c)])) []:=by
 subst er0c;exact FV.frz (FMM.fin (k:=0) (g:=⟨[],[],[2,1],[]⟩) rfl Tryz.func88 rfl (o:=[.c (.p (dcE 1 0 0 1 300 0)) [],.c (.p (dcE 2 7 10 0 0 1)) [],.c (.p (dcE 3 9 40 0 0 2)) [],.c (.p (dcE 4 5 50 0 0 3)) [],.c (.p (dcE 5 6 60 0 100 1)) []]) (l:=[_,FC Tp 49 [(pI 5),(pI 6),(pI 1),(pI 60),(pI 100)] [] 1 (.p (dcE 5 6 60 0 100 1)) [],FC Tp 49 [(pI 4),(pI 5),(pI 3),(pI 50),(pI 0)] [] 1 (.p (dcE 4 5 50 0 0 3)) [],FC Tp 49 [(pI 3),(pI 9),(pI 2),(pI 40),(pI 0)] [] 1 (.p (dcE 3 9 40 0 0 2)) [],FC Tp 49 [(pI 2),(pI 7),(pI 1),(pI 10),(pI 0)] [] 1 (.p (dcE 2 7 10 0 0 1)) [],FC Tp 23 [(pI 1),(pI 1),(pI 300)] [] 1 (.p (dcE 1 0 0 1 300 0)) []]) (by kernel_rfl) (gc h0 (gc (FV.fc (iM (a:=(5:Int)) (b:=(6:Int)) (c:=(1:Int)) (d:=(60:Int)) (e:=(100:Int))) rfl) (gc (FV.fc (iM (a:=(4:Int)) (b:=(5:Int)) (c:=(3:Int)) (d:=(50:Int)) (e:=(0:Int))) rfl) (gc (FV.fc (iM (a:=(3:Int)) (b:=(9:Int)) (c:=(2:Int)) (d:=(40:Int)) (e:=(0:Int))) rfl) (gc (FV.fc (iM (a:=(2:Int)) (b:=(7:Int)) (c:=(1:Int)) (d:=(10:Int)) (e:=(0:Int))) rfl) (gc (FV.fc (aIs (a:=(1:Int)) (b:=(1:Int)) (c:=(300:Int))) rfl) gn))))))) (by kernel_rfl)
theorem bOd{r0c:List PV}(h0:0≤(0:Int)∧(0:Int)≤4∧(4:Int)≤5)(er0c:r0c=((thD.drop 0).take (4*(thD.length / 5)))){base:Nat}:FV Tp 88 [(pI 4)] base (.p (.agg [(aA 30),(.sl 3 [(aA 1),(aA 15000),(aA 2),(aA 15100),(aA 3),(aA 15200)]),(.sl 4 r0c)])) []:=by
 subst er0c;exact FV.frz (FMM.fin (k:=0) (g:=⟨[],[],[2,1],[]⟩) rfl Tryz.func88 rfl (o:=[.c (.p (dcE 1 0 0 1 300 0)) [],.c (.p (dcE 2 7 10 0 0 1)) [],.c (.p (dcE 3 9 40 0 0 2)) [],.c (.p (dcE 4 5 50 0 0 3)) [],.c (.p (dcE 5 6 60 0 100 1)) []]) (l:=[_,FC Tp 49 [(pI 5),(pI 6),(pI 1),(pI 60),(pI 100)] [] 1 (.p (dcE 5 6 60 0 100 1)) [],FC Tp 49 [(pI 4),(pI 5),(pI 3),(pI 50),(pI 0)] [] 1 (.p (dcE 4 5 50 0 0 3)) [],FC Tp 49 [(pI 3),(pI 9),(pI 2),(pI 40),(pI 0)] [] 1 (.p (dcE 3 9 40 0 0 2)) [],FC Tp 49 [(pI 2),(pI 7),(pI 1),(pI 10),(pI 0)] [] 1 (.p (dcE 2 7 10 0 0 1)) [],FC Tp 23 [(pI 1),(pI 1),(pI 300)] [] 1 (.p (dcE 1 0 0 1 300 0)) []]) (by kernel_rfl) (gc h0 (gc (FV.fc (iM (a:=(5:Int)) (b:=(6:Int)) (c:=(1:Int)) (d:=(60:Int)) (e:=(100:Int))) rfl) (gc (FV.fc (iM (a:=(4:Int)) (b:=(5:Int)) (c:=(3:Int)) (d:=(50:Int)) (e:=(0:Int))) rfl) (gc (FV.fc (iM (a:=(3:Int)) (b:=(9:Int)) (c:=(2:Int)) (d:=(40:Int)) (e:=(0:Int))) rfl) (gc (FV.fc (iM (a:=(2:Int)) (b:=(7:Int)) (c:=(1:Int)) (d:=(10:Int)) (e:=(0:Int))) rfl) (gc (FV.fc (aIs (a:=(1:Int)) (b:=(1:Int)) (c:=(300:Int))) rfl) gn))))))) (by kernel_rfl)
theorem bOe{r0c:List PV}(h0:0≤(0:Int)∧(0:Int)≤5∧(5:Int)≤5)(er0c:r0c=((thD.drop 0).take (5*(thD.length / 5)))){base:Nat}:FV Tp 88 [(pI 5)] base (.p (.agg [(aA 30),(.sl 3 [(aA 1),(aA 15000),(aA 2),(aA 15100),(aA 3),(aA 15200)]),(.sl 5 r0c)])) []:=by
 subst er0c;exact FV.frz (FMM.fin (k:=0) (g:=⟨[],[],[2,1],[]⟩) rfl Tryz.func88 rfl (o:=[.c (.p (dcE 1 0 0 1 300 0)) [],.c (.p (dcE 2 7 10 0 0 1)) [],.c (.p (dcE 3 9 40 0 0 2)) [],.c (.p (dcE 4 5 50 0 0 3)) [],.c (.p (dcE 5 6 60 0 100 1)) []]) (l:=[_,FC Tp 49 [(pI 5),(pI 6),(pI 1),(pI 60),(pI 100)] [] 1 (.p (dcE 5 6 60 0 100 1)) [],FC Tp 49 [(pI 4),(pI 5),(pI 3),(pI 50),(pI 0)] [] 1 (.p (dcE 4 5 50 0 0 3)) [],FC Tp 49 [(pI 3),(pI 9),(pI 2),(pI 40),(pI 0)] [] 1 (.p (dcE 3 9 40 0 0 2)) [],FC Tp 49 [(pI 2),(pI 7),(pI 1),(pI 10),(pI 0)] [] 1 (.p (dcE 2 7 10 0 0 1)) [],FC Tp 23 [(pI 1),(pI 1),(pI 300)] [] 1 (.p (dcE 1 0 0 1 300 0)) []]) (by kernel_rfl) (gc h0 (gc (FV.fc (iM (a:=(5:Int)) (b:=(6:Int)) (c:=(1:Int)) (d:=(60:Int)) (e:=(100:Int))) rfl) (gc (FV.fc (iM (a:=(4:Int)) (b:=(5:Int)) (c:=(3:Int)) (d:=(50:Int)) (e:=(0:Int))) rfl) (gc (FV.fc (iM (a:=(3:Int)) (b:=(9:Int)) (c:=(2:Int)) (d:=(40:Int)) (e:=(0:Int))) rfl) (gc (FV.fc (iM (a:=(2:Int)) (b:=(7:Int)) (c:=(1:Int)) (d:=(10:Int)) (e:=(0:Int))) rfl) (gc (FV.fc (aIs (a:=(1:Int)) (b:=(1:Int)) (c:=(300:Int))) rfl) gn))))))) (by kernel_rfl)
theorem vY{base:Nat}:FV Tp 88 [.p (aA 2)] base mK []:=bOb (by decide) rfl
theorem bOf{base:Nat}:FV Tp 88 [.p (aA 3)] base bHo []:=bOc (by decide) rfl
theorem bOg{base:Nat}:FV Tp 88 [.p (aA 4)] base bHp []:=bOd (by decide) rfl
theorem bOh{base:Nat}:FV Tp 88 [.p (aA 5)] base bHq []:=bOe (by decide) rfl
theorem bWl(h28_0:∀ base:Nat,FV Tp 28 [mK] base (.tup [(.own base),(pI 0)]) [(base,(.row 48 3 [(aA 2),(aA 1),(aA 15100),(aA 3),(aA 2),(aA 15200),(aA 1),(aA 3),(aA 15300)]))])(h21_1:∀ base:Nat,FV Tp 21 [mK,(.p (.sl 1 [(aA 2)]))] base (.tup [(.own base),(pI 0)]) [(base,(.row 48 3 [(aA 1),(aA 1),(aA 15000),(aA 2),(aA 2),(aA 15100),(aA 3),(aA 3),(aA 15200)]))])(h71_2:∀ base:Nat,FV Tp 71 [mK,(pI 1)] base (.tup [(.p (.sl 2 [(aA 1),(aA 3)])),(pB false),(pI 0)]) [])(h33_3:∀ base:Nat,FV Tp 33 [mK,(pI 2)] base (.tup [(.p (.sl 1 [(aA 2)])),(pI 0)]) [])(h51_4:∀ base:Nat,FV Tp 51 [(.p (.sl 3 [(aA 2),(aA 1),(aA 15100),(aA 3),(aA 2),(aA 15200),(aA 1),(aA 3),(aA 15300)])),(.p (.sl 3 [(aA 2),(aA 1),(aA 15100),(aA 3),(aA 2),(aA 15200),(aA 1),(aA 3),(aA 15300)]))] base (pB true) [])(h5:dX [(aA 1),(aA 1),(aA 15000)] [(0,3,true),(1,3,true),(2,3,true)]=true∧dX [(aA 1),(aA 1),(aA 15000)] [(0,3,true),(1,3,true),(2,3,true)]=true)(h6:(nD [(aA 1),(aA 1),(aA 15000)] [(aA 1),(aA 1),(aA 15000)] [(0,3,true),(1,3,true),(2,3,true)])=true)(h41_7:∀ base:Nat,FV Tp 41 [(.p (.sl 2 [(aA 1),(aA 3)])),(.p (.sl 2 [(aA 1),(aA 3)]))] base (pB true) [])(h41_8:∀ base:Nat,FV Tp 41 [(.p (.sl 1 [(aA 2)])),(.p (.sl 1 [(aA 2)]))] base (pB true) [])(h19_9:∀ base:Nat,FV Tp 19 [bHo] base (.tup [(.p (.sl 0 [])),(pI 0)]) [])(h19_10:∀ base:Nat,FV Tp 19 [bHp] base (.tup [(.p (.sl 1 [(aA 2)])),(pI 0)]) [])(h61_11:∀ base:Nat,FV Tp 61 [bHq,(pI 1)] base (.tup [(pI 15100),(pB false),(pI 0)]) [])(h58_12:∀ base:Nat,FV Tp 58 [mK,(pI 2)] base (.tup [(pB true),(pI 0)]) []){base:Nat}:FV Tp 26 [] base (pB true) []:=by
 exact FV.fin Tryz.func26 rfl (o:=[.c mK [],.c (.tup [(.own 0),(pI 0)]) [(0,(.row 48 3 [(aA 2),(aA 1),(aA 15100),(aA 3),(aA 2),(aA 15200),(aA 1),(aA 3),(aA 15300)]))],.c mK [],.c (.tup [(.own 2),(pI 0)]) [(1,.dead),(2,(.row 48 3 [(aA 1),(aA 1),(aA 15000),(aA 2),(aA 2),(aA 15100),(aA 3),(aA 3),(aA 15200)]))],.c mK [],.c (.tup [(.p (.sl 2 [(aA 1),(aA 3)])),(pB false),(pI 0)]) [],.c mK [],.c (.tup [(.p (.sl 1 [(aA 2)])),(pI 0)]) [],bF,bF,bF,bF,bF,bF,bF,bF,bF,bF,bF,bF,bF,bF,bF,.c (pB true) [],bF,bF,bF,bF,bF,bF,bF,bF,bF,.x (.agg [(aA 1),(aA 1),(aA 15000)]),bF,bF,bF,bF,bF,bF,.c (pB true) [],bF,bF,bF,bF,bF,.c (pB true) [],bF,bF,bF,.c bHo [],.c (.tup [(.p (.sl 0 [])),(pI 0)]) [],.c bHp [],.c (.tup [(.p (.sl 1 [(aA 2)])),(pI 0)]) [],.c bHq [],.c (.tup [(pI 15100),(pB false),(pI 0)]) [],.c mK [],.c (.tup [(pB true),(pI 0)]) [],bT,bT,bT,bT,bT,bT,bT,bT,bT,bT,bT,bT,bT,bT,bT,bT,.c (pB true) [],bT,bT,bT,bT,bT,bT]) (l:=[_,_,true=true,true=true,true=true,_,FC Tp 41 [(.p (.sl 1 [(aA 2)])),(.own 6)] [(6,(.row 3 1 [(aA 2)]))] 7 (pB true) [],_,_,_,_,_,_,_,_,_,_,_,_,_,_,_,_,FC Tp 58 [mK,(pI 2)] [] 6 (.tup [(pB true),(pI 0)]) [],FC Tp 88 [(pI 2)] [] 6 mK [],FC Tp 61 [bHq,(pI 1)] [] 6 (.tup [(pI 15100),(pB false),(pI 0)]) [],FC Tp 88 [(pI 5)] [] 6 bHq [],FC Tp 19 [bHp] [] 6 (.tup [(.p (.sl 1 [(aA 2)])),(pI 0)]) [],FC Tp 88 [(pI 4)] [] 6 bHp [],FC Tp 19 [bHo] [] 6 (.tup [(.p (.sl 0 [])),(pI 0)]) [],FC Tp 88 [(pI 3)] [] 6 bHo [],false=false,false=false,false=false,FC Tp 41 [(.p (.sl 1 [(aA 2)])),(.own 5)] [(5,(.row 3 1 [(aA 2)]))] 6 (pB true) [],false=false,false=false,false=false,_,_,FC Tp 41 [(.p (.sl 2 [(aA 1),(aA 3)])),(.own 4)] [(4,(.row 3 2 [(aA 1),(aA 3)]))] 5 (pB true) [],_,_,_,_,_,_,_,some (.agg (([(aA 1),(aA 1),(aA 15000),(aA 2),(aA 2),(aA 15100),(aA 3),(aA 3),(aA 15200)].drop 0).take 3):PV)=some (.agg [(aA 1),(aA 1),(aA 15000)]),0+3≤[(aA 1),(aA 1),(aA 15000),(aA 2),(aA 2),(aA 15100),(aA 3),(aA 3),(aA 15200)].length,_,0≤(0:Int)∧(0:Int)<3,_,_,false=false,false=false,false=false,false=false,_,_,FC Tp 51 [(.own 0),(.own 3)] [(0,(.row 48 3 [(aA 2),(aA 1),(aA 15100),(aA 3),(aA 2),(aA 15200),(aA 1),(aA 3),(aA 15300)])),(3,(.row 48 3 [(aA 2),(aA 1),(aA 15100),(aA 3),(aA 2),(aA 15200),(aA 1),(aA 3),(aA 15300)]))] 4 (pB true) [],_,_,_,_,_,_,_,_,_,_,_,_,_,_,_,FC Tp 33 [mK,(pI 2)] [] 3 (.tup [(.p (.sl 1 [(aA 2)])),(pI 0)]) [],FC Tp 88 [(pI 2)] [] 3 mK [],FC Tp 71 [mK,(pI 1)] [] 3 (.tup [(.p (.sl 2 [(aA 1),(aA 3)])),(pB false),(pI 0)]) [],FC Tp 88 [(pI 2)] [] 3 mK [],FC Tp 21 [mK,(.own 1)] [(1,(.row 3 1 [(aA 2)]))] 2 (.tup [(.own 2),(pI 0)]) [(1,.dead),(2,(.row 48 3 [(aA 1),(aA 1),(aA 15000),(aA 2),(aA 2),(aA 15100),(aA 3),(aA 3),(aA 15200)]))],FC Tp 88 [(pI 2)] [] 1 mK [],FC Tp 28 [mK] [] 0 (.tup [(.own 0),(pI 0)]) [(0,(.row 48 3 [(aA 2),(aA 1),(aA 15100),(aA 3),(aA 2),(aA 15200),(aA 1),(aA 3),(aA 15300)]))],FC Tp 88 [(pI 2)] [] 0 mK []]) (by kernel_rfl) (g2c bWk (gc rfl (gc rfl (gc rfl (gc aRw (gc (fv (h41_8 _)) (g8c aRw (g8c aRw (gc (FV.fc (h58_12 _) rfl) (gc (FV.fc vY (by kernel_rfl)) (gc (FV.fc (h61_11 _) rfl) (gc (FV.fc bOh (by kernel_rfl)) (gc (FV.fc (h19_10 _) rfl) (gc (FV.fc bOg (by kernel_rfl)) (gc (FV.fc (h19_9 _) rfl) (gc (FV.fc bOf (by kernel_rfl)) (gc rfl (gc rfl (gc rfl (gc (fv (h41_8 _)) (gc rfl (gc rfl (gc rfl (g2c (aY h6) (gc (fv (h41_7 _)) (g3c (aY h6) (gc aJe (gc h5 (g2c aJe (gc rfl (gc (by first | decide | simp) (gc aJe (gc (by first | decide | simp) (g2c aJe (gc rfl (gc rfl (gc rfl (gc rfl (g2c aRx (gc (fv (h51_4 _)) (g8c aRx (g7c aRx (gc (FV.fc (h33_3 _) rfl) (gc (FV.fc vY (by kernel_rfl)) (gc (FV.fc (h71_2 _) rfl) (gc (FV.fc vY (by kernel_rfl)) (gc (FV.close (ids:=[1]) (args':=[mK,(.p (.sl 1 [(aA 2)]))]) (h21_1 _) (by kernel_rfl)) (gc (FV.fc vY (by kernel_rfl)) (gc (FV.fc (h28_0 _) rfl) (gc (FV.fc vY (by kernel_rfl)) gn))))))))))))))))))))))))))))))))))))))))))))))))))
end
section
abbrev sB(s:List Int):Int:=s.getD 0 0
abbrev sT(s:List Int):Int:=s.getD 1 0
def gI(dl:Int)(oc:List Int)(dc sk:Lqq):Lqq:=(sk.filter fun s => !(dJ dl oc dc (sB s) (sT s)).2).map fun s=>[sB s,0,(dJ dl oc dc (sB s) (sT s)).1]
def fE(dl:Int)(oc:List Int)(dc sk:Lqq):Lqq:=(sk.filter fun s=>(dJ dl oc dc (sB s) (sT s)).2).map fun s=>[sB s,-1,0]
def plN(A:Lqq)(t:Int):Int:=match A.getLast? with
 | some y=>if y.getD 2 0=t then y.getD 1 0 else (A.length:Int)+1
 | none=>(A.length:Int)+1
def plS(A:Lqq)(x:List Int):Lqq:=A++[[x.getD 0 0,plN A (x.getD 2 0),x.getD 2 0]]
def jC(l:Lqq):Lqq:=l.foldl plS []
def bY(dl:Int)(oc:List Int)(dc sk:Lqq):Lqq:=jC (isort (ltK 2) (gI dl oc dc sk))++fE dl oc dc sk

theorem bOn(A D:List PV)(a b c v:PV):(A++[a,b,c]++D).set (A.length+1) v=A++[a,v,c]++D:=by
 induction A with
 | nil=>rfl
 | cons x A ih=>simp
theorem zN{L:Lqq}{j:Nat}{a b c:Int}(hu:uni 3 L)(hj:L[j]? = some [a,b,c])(v:Int):(L.flatten.map aA).set (j*3+1) (aA v)=((L.set j [a,v,c]).flatten.map aA):=by
 obtain ⟨hlt,he⟩:=kQ3.1 hj;have h0:=qT (k:=3) (i:=j) (x:=[a,b,c]) hu hlt rfl;have h1:=qT (k:=3) (i:=j) (x:=[a,v,c]) hu hlt rfl;have hs:L.set j [a,b,c]=L:=by rw [← he];exact List.set_getElem_self hlt
 rw [hs] at h0
 rw [← h1];have hl:((L.flatten.map aA).take (j*3)).length=j*3:=by
  have:=bI hu hj;rw [kY];omega
 have:=bOn ((L.flatten.map aA).take (j*3)) ((L.flatten.map aA).drop (j*3+3)) (aA a) (aA b) (aA c) (aA v);rw [hl] at this
 conv=>lhs;rw [← h0]
 exact this
theorem bOo(A:Lqq)(x:List Int):(plS A x).length=A.length+1:=by simp [plS]
theorem aUh(l:Lqq):∀ A:Lqq,(l.foldl plS A).length=A.length+l.length:=by
 induction l with
 | nil=>intro A;simp
 | cons x l ih=>intro A;rw [sG,ih,bOo];simp;omega
theorem aJi(l:Lqq):∀ A:Lqq,uni 3 A→uni 3 (l.foldl plS A):=by
 induction l with
 | nil=>intro A h;exact h
 | cons x l ih =>
  intro A h;rw [sG];refine ih _ fun y hy => ?_
  unfold plS at hy
  rcases iI.1 hy with hy | hy
  ·exact h y hy
  ·rw [List.mem_singleton.1 hy];rfl
section
variable {dl:Int} {sk dc:Lqq} {oc:List Int} {ov:PV}
theorem aSb(l:Lqq)(hu:uni 3 l)(hl:l.length<1000)(p q:Lqq)(hp:(isort (ltK 2) p).length=l.length)(t:Lqb) :
  aJ Tp 7 (sub (cd Tryz.f86) [1,1,1,1,0,1,0,0]) (eT dl sk dc ov p q t l.length (l.flatten.map aA) 0) (.exit 2) (eT dl sk dc ov p q t (jC l).length ((jC l).flatten.map aA) l.length):=by
 let St (j:Nat):Lqq:=(l.take j).foldl plS []++l.drop j
 have hlen:∀ j,j≤l.length→((l.take j).foldl plS []).length=j:=fun j hj=>by rw [aUh];simp;omega
 have hlS:∀ j,j≤l.length→(St j).length=l.length:=fun j hj=>by
  show (_++_:Lqq).length=_;rw [lG,hlen j hj,aWd];omega
 have huS:∀ j,uni 3 (St j):=fun j y hy=>by
  rcases iI.1 hy with hy | hy
  ·exact aJi _ [] (fun z hz=>by cases hz) y hy
  ·exact hu y (List.mem_of_mem_drop hy)
 have:=aJ.count (P:=Tp) (k:=7) (b:=sub (cd Tryz.f86) [1,1,1,1,0,1,0,0]) (e := .exit 2) (R:=eT dl sk dc ov p q t (jC l).length ((jC l).flatten.map aA) l.length) l.length
  (fun j=>eT dl sk dc ov p q t (St j).length ((St j).flatten.map aA) j)
  (fun j hj=>by
   have hx:=hu _ (iQ hj);obtain ⟨a,b,c,hx⟩:=len3 hx;have hA:=hlen j (by omega)
   have e1:(l.take (j+1)).foldl plS []=plS ((l.take j).foldl plS []) [a,b,c]:=by
    rw [List.take_add_one,kQ0 hj,hx];rw [aHe];rfl
   have hdr:l.drop j=[a,b,c]::l.drop (j+1):=by rw [bDv hj,hx]
   have g1:(St j)[j]? = some [a,b,c]:=by
    show ((l.take j).foldl plS []++l.drop j)[j]? = _;rw [yV (by omega),hA,aWf,hdr];rfl
   have hset:∀ v,(St j).set j [a,v,c]=(l.take j).foldl plS []++[a,v,c]::l.drop (j+1):=fun v=>by
    show ((l.take j).foldl plS []++l.drop j).set j [a,v,c]=_;rw [List.set_append_right _ _ (by omega),hA,aWf,hdr];rfl
   have hnext:St (j+1)=(St j).set j [a,plN ((l.take j).foldl plS []) c,c]:=by
    rw [hset];show (l.take (j+1)).foldl plS []++l.drop (j+1)=_;rw [e1];unfold plS;rw [List.append_assoc];rfl
   have hle:=bI (huS j) g1;have hpl:(j:Int)<((isort (ltK 2) p).length:Int):=by rw [hp];omega
   rw [hnext]
   rcases Nat.eq_zero_or_pos j with h0 | hpos
   ·have hn:plN ((l.take j).foldl plS []) c=(j:Int)+1:=by
     subst h0;rfl
    rw [hn];exact aXr (L:=St j) (L':=(St j).set j [a,((j+1:Nat):Int),c]) (by exact_mod_cast hpl) (aP (by omega)) g1 (by omega) (by omega) (by simp) (zN (huS j) g1 _).symm rfl
   ·have g2:∃ y0 y1 y2,((l.take j).foldl plS []).getLast? = some [y0,y1,y2]∧(St j)[((j:Int)-1).toNat]? = some [y0,y1,y2]:=by
     have hlt:j-1<((l.take j).foldl plS []).length:=by omega
     have h3:=aJi (l.take j) [] (fun z hz=>by cases hz) _ (iQ hlt)
     obtain ⟨y0,y1,y2,hy⟩:=len3 h3;refine ⟨y0,y1,y2,?_,?_⟩
     ·rw [List.getLast?_eq_getElem?,hA,kQ0 hlt,hy]
     ·show ((l.take j).foldl plS []++l.drop j)[((j:Int)-1).toNat]? = _
      rw [show ((j:Int)-1).toNat=j-1 by omega,yW hlt,kQ0 hlt,hy]
    obtain ⟨y0,y1,y2,g3,g4⟩:=g2
    by_cases hc:c=y2
    ·have hn:plN ((l.take j).foldl plS []) c=y1:=by
      unfold plN;rw [g3];show (if y2=c then y1 else _)=y1
      rw [if_pos hc.symm]
     rw [hn];have hu1:uni 3 ((St j).set j [a,((j+1:Nat):Int),c]):=aTa (huS j) rfl;have g5:((St j).set j [a,((j+1:Nat):Int),c])[j]? = some [a,((j+1:Nat):Int),c]:=by
      rw [bDw (by rw [hlS j (by omega)];omega)]
     refine aXp (L:=St j) (L':=(St j).set j [a,y1,c]) (by exact_mod_cast hpl) (aP (by omega)) g1 (by omega) (by omega) (huS j) (by unfold inR;omega) g4 (by omega) hc (by rw [tL];omega) (by simp) ?_ rfl
     rw [zN (huS j) g1,zN hu1 g5,List.set_set]
    ·have hn:plN ((l.take j).foldl plS []) c=(j:Int)+1:=by
      unfold plN;rw [g3];show (if y2=c then y1 else _)=_
      rw [if_neg (fun h=>hc h.symm),hA]
     rw [hn];exact aXq (L:=St j) (L':=(St j).set j [a,((j+1:Nat):Int),c]) (by exact_mod_cast hpl) (aP (by omega)) g1 (by omega) (by omega) (huS j) (by unfold inR;omega) g4 (by omega) hc (by simp) (zN (huS j) g1 _).symm rfl)
  (by
   have e:St l.length=jC l:=by
    show (l.take l.length).foldl plS []++l.drop l.length=_;rw [List.take_length,List.drop_length,List.append_nil];rfl
   rw [e];exact aXs (by rw [hp];omega)) (by simp)
 exact this
theorem aGa:(gI dl oc dc sk).length≤sk.length:=by
 unfold gI;rw [kQ9];exact uZ _ _
theorem aCz:(fE dl oc dc sk).length≤sk.length:=by
 unfold fE;rw [kQ9];exact uZ _ _
theorem aGb:uni 3 (gI dl oc dc sk):=fun y hy=>by
 obtain ⟨s,_,rfl⟩:=dF.1 hy;rfl
theorem aDa:uni 3 (fE dl oc dc sk):=fun y hy=>by
 obtain ⟨s,_,rfl⟩:=dF.1 hy;rfl
theorem tZ(f:Nat)(l:Lqq):(isort (ltK f) l).length=l.length:=vV _ _
theorem bCg{k f:Nat}{l:Lqq}(h:uni k l):uni k (isort (ltK f) l):=fun y hy=>h y ((xC _ _ y).1 hy)
theorem aDb(l:Lqq):(jC l).length=l.length:=by unfold jC;rw [aUh];simp
theorem aSc(l:Lqq):uni 3 (jC l):=aJi l [] fun z hz=>by cases hz
theorem rJ:uni 3 (bY dl oc dc sk):=fun y hy=>by
 rcases iI.1 hy with hy | hy
 ·exact aSc _ y hy
 ·exact aDa y hy
theorem aMx{α:Type}(p:α→Bool):∀ l:List α,(l.filter fun x => !p x).length+(l.filter p).length=l.length
 | []=>rfl
 | x::l=>by
  have:=aMx p l;cases h:p x <;> simp [h] <;> omega
theorem aDc:(bY dl oc dc sk).length=sk.length:=by
 unfold bY gI fE;rw [lG,aDb,tZ,kQ9,kQ9];exact aMx _ sk
theorem bXw(hd:bZ dc)(hov:∀ n,sJ ov n (oc.contains n))(hs:uni 2 sk)(hb:∀ x∈sk,skB x=true)(hl:sk.length<20){T:Lqb}(hT:cK dl oc dc T):∃ T',cK dl oc dc T'∧bQt dl sk dc ov (bY dl oc dc sk) T T':=by
 obtain ⟨acc,⟨h1,h2,h3⟩,h4⟩:=aJ.ex (P:=Tp) (k:=7) (b:=sub (cd Tryz.f86) [1,1,0,1,0,0]) (e := .exit 0) (fun i (a:(Lqq × Lqq) × Lqb)=>iX dl sk dc ov a.1.1.length (a.1.1.flatten.map aA) a.1.2.length (a.1.2.flatten.map aA) i (aG a.2) a.2.length)
  (fun a=>iX dl sk dc ov a.1.1.length (a.1.1.flatten.map aA) a.1.2.length (a.1.2.flatten.map aA) sk.length (aG a.2) a.2.length)
  (fun i a=>cK dl oc dc a.2∧a.1.1=gI dl oc dc (sk.take i)∧a.1.2=fE dl oc dc (sk.take i)) (by simp) sk.length
  (fun i acc hi hI=>by
   obtain ⟨⟨p,q⟩,T1⟩:=acc;obtain ⟨h1,h2,h3⟩:=hI;dsimp only at h1 h2 h3
   have hm:=iQ hi;obtain ⟨a,b,hy⟩:=len2 (hs _ hm);have hx:sk[i]? = some [a,b]:=by rw [kQ0 hi,hy]
   rw [hy] at hm
   have hr : -1≤b∧b≤360000:=by
    have:=hb _ hm;rw [bUi,kQ7] at this
    exact cN.1 this.2
   obtain ⟨T2,q1,q2⟩:=bEx (sk:=sk) hd hov a b hr h1;have hp:p.length≤20:=by rw [h2];have:=aGa (dl:=dl) (oc:=oc) (dc:=dc) (sk:=sk.take i);rw [kY] at this;omega
   have hq:q.length≤20:=by rw [h3];have:=aCz (dl:=dl) (oc:=oc) (dc:=dc) (sk:=sk.take i);rw [kY] at this;omega
   have et:sk.take (i+1)=sk.take i++[[a,b]]:=by rw [List.take_add_one,hx];rfl
   rw [et];have e1:gI dl oc dc (sk.take i++[[a,b]])=p++if (dJ dl oc dc a b).2 then [] else [[a,0,(dJ dl oc dc a b).1]]:=by
    rw [h2];unfold gI;rw [nG,hZ]
    congr 1
    show (List.filter _ [[a,b]]).map _=_;cases hq:(dJ dl oc dc a b).2 <;> simp [hq]
   have e2:fE dl oc dc (sk.take i++[[a,b]])=q++if (dJ dl oc dc a b).2 then [[a,-1,0]] else []:=by
    rw [h3];unfold fE;rw [nG,hZ]
    congr 1
    show (List.filter _ [[a,b]]).map _=_;cases hq:(dJ dl oc dc a b).2 <;> simp [hq]
   rw [e1,e2];cases hc:(dJ dl oc dc a b).2 with
   | true =>
    rw [hc] at q2
    exact ⟨((p,q++[[a,-1,0]]),T2),⟨q1,by simp,by simp⟩,aXm (q:=q) (q':=q++[[a,-1,0]]) (by omega) hx hs q2 rfl ⟨rfl,by omega⟩ (aP (by omega)) (by simp) (by simp) rfl rfl rfl⟩
   | false =>
    rw [hc] at q2
    exact ⟨((p++[[a,0,(dJ dl oc dc a b).1]],q),T2),⟨q1,by simp,by simp⟩,aXn (p:=p) (p':=p++[[a,0,(dJ dl oc dc a b).1]]) (by omega) hx hs q2 rfl ⟨rfl,by omega⟩ (aP (by omega)) (by simp) (by simp) rfl rfl rfl⟩)
  (fun acc hI=>aXo (by omega)) (acc:=(([],[]),T)) ⟨hT,by simp [gI],by simp [fE]⟩
 obtain ⟨⟨p,q⟩,T1⟩:=acc;dsimp only at h1 h2 h3 h4
 rw [List.take_length] at h2 h3
 subst h2 h3;have hp:=aGa (dl:=dl) (oc:=oc) (dc:=dc) (sk:=sk);have hq:=aCz (dl:=dl) (oc:=oc) (dc:=dc) (sk:=sk);have hP:=aSb (dl:=dl) (sk:=sk) (dc:=dc) (ov:=ov) (isort (ltK 2) (gI dl oc dc sk)) (bCg aGb) (by rw [tZ];omega) (gI dl oc dc sk) (fE dl oc dc sk) rfl T1
 refine ⟨T1,h1,bQu (r0n:=(bY dl oc dc sk).length) (r0c:=(bY dl oc dc sk).flatten.map aA) h4 aGb (by omega) hP ⟨vM aDa,by rw [aDb,tZ];omega⟩ ?_ ?_⟩
 ·unfold bY;rw [lG]
 ·unfold bY;rw [bDy,hZ]
end
theorem aUi{dl:Int}{sk dc:Lqq}(h:bQ dl sk dc):∀ x∈aB sk,skB x=true:=fun x hx=>h.hsk x ((eU sk).mem_iff.1 hx)
theorem aJj{dl:Int}{sk dc:Lqq}(h:bQ dl sk dc)(hl:sk.length<20){base:Nat}:FV Tp 28 [.p (.agg (cF dl sk dc))] base (.tup [.own base,.p (aA 0)]) [(base,.row 48 (bY dl [] (aB dc) (aB sk)).length ((bY dl [] (aB dc) (aB sk)).flatten.map aA))]:=by
 obtain ⟨T',h1,h2⟩:=bXw (dl:=dl) (sk:=aB sk) (eF h) aIa (lU h.us) (aUi h) (by rw [eP];exact hl) cK.nil
 exact bQv h h2
theorem bCh{dl:Int}{dc:Lqq}(hd:bZ dc):(aI dl dc).length≤1000:=by
 unfold aI;rw [kQ9];have:=uZ (pT dl dc) dc;have:=hd.len;omega
def rK(u:List Int):Bool:=(List.range u.length).all fun i=>i == 0 || decide (u.getD (i-1) 0<u.getD i 0)
theorem bHv{dl:Int}{sk dc:Lqq}(u:List Int)(hl:u.length≤1000):(rK u=true∧∃ i,aJ Tp 0 (sub (cd Tryz.f21) [1,1,1,1,1,0,1,0,0]) (gP dl sk dc u 1) (.exit 0) (gP dl sk dc u i)) ∨
  (rK u=false∧∃ i,aJ Tp 0 (sub (cd Tryz.f21) [1,1,1,1,1,0,1,0,0]) (gP dl sk dc u 1) .ret (cE (gP dl sk dc u i) [(4,.p cC),(5,.p (aA 4))])):=by
 rcases Nat.lt_or_ge u.length 2 with h2 | h2
 ·refine .inl ⟨?_,1,.exit (aFk (by omega)) (by simp)⟩
  unfold rK;rw [fV];intro i hi;have:=nH.1 hi;have:i=0:=by omega
  subst this;rfl
 ·have hget:∀ i,i<u.length→u[i]? = some (u.getD i 0):=fun i hi=>by rw [kQ4,kQ0 hi];rfl
  have key:∀ d i,i+d=u.length→1≤i→(∀ j,j<i→(j == 0 || decide (u.getD (j-1) 0<u.getD j 0))=true) →
   (rK u=true∧∃ k,aJ Tp 0 (sub (cd Tryz.f21) [1,1,1,1,1,0,1,0,0]) (gP dl sk dc u (i:Int)) (.exit 0) (gP dl sk dc u k)) ∨
   (rK u=false∧∃ k,aJ Tp 0 (sub (cd Tryz.f21) [1,1,1,1,1,0,1,0,0]) (gP dl sk dc u (i:Int)) .ret (cE (gP dl sk dc u k) [(4,.p cC),(5,.p (aA 4))])):=by
   intro d
   induction d with
   | zero =>
    intro i hi h1 hj;refine .inl ⟨?_,_,.exit (aFk (by omega)) (by simp)⟩
    unfold rK;rw [fV];intro j hjr;exact hj j (by have:=nH.1 hjr;omega)
   | succ d ih =>
    intro i hi h1 hj;have g1:u[((i:Nat):Int).toNat]? = some (u.getD i 0):=by rw [bDz];exact hget i (by omega)
    have g2:u[((i:Int)-1).toNat]? = some (u.getD (i-1) 0):=by rw [show ((i:Int)-1).toNat=i-1 by omega];exact hget (i-1) (by omega)
    by_cases hc:u.getD (i-1) 0<u.getD i 0
    ·have hst:=aXu (dl:=dl) (sk:=sk) (dc:=dc) (i:=(i:Int)) (i':=((i+1:Nat):Int)) (by omega) g1 (by omega) (by unfold inR;omega) g2 (by omega) hc (by unfold inR;omega) (by omega)
     rcases ih (i+1) (by omega) (by omega) (fun j hj2=>by
      rcases Nat.lt_or_ge j i with h3 | h3
      ·exact hj j h3
      ·obtain rfl:j=i:=by omega
       rw [decide_eq_true hc,Bool.or_true]) with ⟨q1,k,q2⟩ | ⟨q1,k,q2⟩
     ·exact .inl ⟨q1,k,.step hst q2⟩
     ·exact .inr ⟨q1,k,.step hst q2⟩
    ·refine .inr ⟨?_,_,.exit (aXt (i:=(i:Int)) (by omega) g1 (by omega) (by unfold inR;omega) g2 (by omega) (by omega)) (by simp)⟩
     cases hr:rK u with
     | false=>rfl
     | true =>
      unfold rK at hr
      have:=fV.1 hr i (nH.2 (by omega))
      rw [show (i == 0)=false by simp;omega,Bool.false_or] at this
      exact absurd (of_decide_eq_true this) hc
  have:=key (u.length-1) 1 (by omega) (by omega) (fun j hj=>by
   have:j=0:=by omega
   subst this;rfl)
  exact this
def aJk(dl:Int)(dc:Lqq)(u:List Int):Int:=if u.all (ocB (aI dl dc)) then (if rK u then 0 else 4) else 1
theorem aSd{dl:Int}{sk dc:Lqq}(h:bQ dl sk dc)(hl:sk.length<20)(u:List Int)(hu:u.length≤1000)(he:aJk dl (aB dc) u=0){base:Nat}:FV Tp 21 [.p (.agg (cF dl sk dc)),.p (aE u)] base (.tup [.own base,.p (aA 0)]) [(base,.row 48 (bY dl u (aB dc) (aB sk)).length ((bY dl u (aB dc) (aB sk)).flatten.map aA))]:=by
 have hd:=eF h;unfold aJk at he
 cases ha:u.all (ocB (aI dl (aB dc))) with
 | false=>rw [ha] at he;simp at he
 | true =>
  rw [ha,if_pos rfl] at he
  rcases bHv (dl:=dl) (sk:=sk) (dc:=dc) u hu with ⟨q1,i,q2⟩ | ⟨q1,i,q2⟩
  ·obtain ⟨T',h1,h2⟩:=bXw (dl:=dl) (sk:=aB sk) hd (aBw hu) (lU h.us) (aUi h) (by rw [eP];exact hl) cK.nil
   exact bRa h hd hu (fun _ _=>bCh hd) ha q2 h2
  ·rw [q1] at he;simp at he
end
end KV
end Go.Proofs
section
namespace Go.Proofs
namespace KL
def aRv(x:Int):List Int→List Int
 | []=>[x]
 | y::r=>if x≤y then x::y::r else y::aRv x r
def sortI:List Int→List Int
 | []=>[]
 | x::r=>aRv x (sortI r)
theorem xM(x:Int):∀ l,(aRv x l).Perm (x::l)
 | [] => .refl _
 | y::r=>by
  unfold aRv
  split
  ·exact .refl _
  ·exact ((xM x r).cons y).trans (List.Perm.swap x y r)
theorem aCt:∀ l,(sortI l).Perm l
 | [] => .refl _
 | x::r=>(xM x _).trans ((aCt r).cons x)
theorem yQ(x:Int):∀ l,l.Pairwise (· ≤ ·)→(aRv x l).Pairwise (· ≤ ·)
 | [],_=>by simp [aRv]
 | y::r,h=>by
  obtain ⟨h1,h2⟩:=List.pairwise_cons.1 h;unfold aRv
  split
  ·rename_i hx
   exact List.pairwise_cons.2 ⟨fun z hz=>by
    rcases List.mem_cons.1 hz with rfl | hz
    ·exact hx
    ·have:=h1 z hz;omega,h⟩
  ·rename_i hx
   refine List.pairwise_cons.2 ⟨fun z hz => ?_,yQ x r h2⟩
   rcases List.mem_cons.1 ((xM x r).mem_iff.1 hz) with rfl | hz
   ·omega
   ·exact h1 z hz
theorem vX:∀ l,(sortI l).Pairwise (· ≤ ·)
 | [] => .nil
 | x::r=>yQ x _ (vX r)
theorem aFz:∀ (a b:List Int),a.Perm b→a.Pairwise (· ≤ ·)→b.Pairwise (· ≤ ·)→a=b
 | [],b,h,_,_=>(List.nil_perm.1 h).symm
 | x::r,[],h,_,_=>absurd h.length_eq (by simp)
 | x::r,y::t,h,ha,hb=>by
  obtain ⟨h1,h2⟩:=List.pairwise_cons.1 ha;obtain ⟨h3,h4⟩:=List.pairwise_cons.1 hb;have e:x=y:=by
   have m1:x∈y::t:=h.mem_iff.1 (List.mem_cons_self ..);have m2:y∈x::r:=h.mem_iff.2 (List.mem_cons_self ..)
   rcases List.mem_cons.1 m1 with e | m1
   ·exact e
   ·rcases List.mem_cons.1 m2 with e | m2
    ·exact e.symm
    ·have:=h1 y m2;have:=h3 x m1;omega
  subst e;rw [aFz r t (List.Perm.cons_inv h) h2 h4]
theorem mergeSort_eq(l:List Int):l.mergeSort leB=sortI l:=by
 refine aFz _ _ ((List.mergeSort_perm _ _).trans (aCt l).symm) ?_ (vX l);have:=List.pairwise_mergeSort (le:=leB) (fun a b c h1 h2=>by simp only [leB,decide_eq_true_eq] at *;omega) (fun a b=>by simp only [leB,Bool.or_eq_true,decide_eq_true_eq];omega) l
 exact this.imp (fun h=>by simpa [leB] using h)
end KL
namespace KV
abbrev sk3:List (List Int):=[[1,15000],[2,15100],[3,15200]]
abbrev dc2:List (List Int):=[[1,0,0,1,300,0],[2,7,10,0,0,1]]
abbrev dc3:List (List Int):=[[1,0,0,1,300,0],[2,7,10,0,0,1],[3,9,40,0,0,2]]
abbrev dc4:List (List Int):=[[1,0,0,1,300,0],[2,7,10,0,0,1],[3,9,40,0,0,2],[4,5,50,0,0,3]]
abbrev dc5:List (List Int):=[[1,0,0,1,300,0],[2,7,10,0,0,1],[3,9,40,0,0,2],[4,5,50,0,0,3],[5,6,60,0,100,1]]
theorem rI{l:List (List Int)}(h:l.Pairwise fun a b=>a.getD 0 0≤b.getD 0 0):aB l=l:=List.mergeSort_of_pairwise (h.imp fun h=>decide_eq_true h)
theorem aDx:aB sk3=sk3:=rI (by decide)
theorem srt2:aB dc2=dc2:=rI (by decide)
theorem srt3:aB dc3=dc3:=rI (by decide)
theorem srt4:aB dc4=dc4:=rI (by decide)
theorem srt5:aB dc5=dc5:=rI (by decide)
theorem rec2:bQ 30 sk3 dc2:=⟨by unfold uni;decide,by unfold uni;decide,by decide,by decide,by decide,by decide,by decide,by decide,by decide,by decide,by decide⟩
theorem rec3:bQ 30 sk3 dc3:=⟨by unfold uni;decide,by unfold uni;decide,by decide,by decide,by decide,by decide,by decide,by decide,by decide,by decide,by decide⟩
theorem rec4:bQ 30 sk3 dc4:=⟨by unfold uni;decide,by unfold uni;decide,by decide,by decide,by decide,by decide,by decide,by decide,by decide,by decide,by decide⟩
theorem rec5:bQ 30 sk3 dc5:=⟨by unfold uni;decide,by unfold uni;decide,by decide,by decide,by decide,by decide,by decide,by decide,by decide,by decide,by decide⟩
def bOa(al:List fD)(s:Nat)(c:List bX):List Int:=Lib.compact (KL.sortI (c.flatMap (chL al s)))
theorem aUe(al:List fD)(s:Nat)(c:List bX):gL al s c=bOa al s c:=by unfold gL bOa;rw [KL.mergeSort_eq]
def bHl(dl:Int)(sk dc:List (List Int))(f:Int)(i:Nat):Bool:=match (aX dl sk dc)[i]? with
 | some h=>aIu (bOa (aX dl sk dc) i h.1) (h.1.any fun x=>x.2.1) (h.1.any fun x => !x.2.1) f
 | none=>false
theorem bHm(dl:Int)(sk dc:List (List Int))(f:Int):yO dl sk dc f=bHl dl sk dc f:=by
 funext i
 unfold yO bHl
 split
 ·rename_i h e
  first | rw [e] | skip
  simp only [aUe]
 ·rename_i e
  first | rw [e] | rfl
theorem h28(base:Nat):FV Tryz.prog 28 [.p (.agg (cF 30 sk3 dc2))] base (.tup [.own base,.p (aA 0)]) [(base,.row 48 3 ([[2,1,15100],[3,2,15200],[1,3,15300]].flatten.map aA))]:=by
 have:=aJj rec2 (by decide) (base:=base)
 rw [aDx,srt2,show bY 30 [] dc2 sk3=[[2,1,15100],[3,2,15200],[1,3,15300]] from by decide +kernel] at this
 exact this
theorem h21(base:Nat):FV Tryz.prog 21 [.p (.agg (cF 30 sk3 dc2)),.p (aE [2])] base (.tup [.own base,.p (aA 0)]) [(base,.row 48 3 ([[1,1,15000],[2,2,15100],[3,3,15200]].flatten.map aA))]:=by
 have:=aSd rec2 (by decide) [2] (by decide) (by rw [srt2];decide +kernel) (base:=base)
 rw [aDx,srt2,show bY 30 [2] dc2 sk3=[[1,1,15000],[2,2,15100],[3,3,15200]] from by decide +kernel] at this
 exact this
theorem open2:aI 30 dc2=[2]:=by decide +kernel
theorem h71(base:Nat):FV Tryz.prog 71 [.p (.agg (cF 30 sk3 dc2)),.p (aA 1)] base (.tup [.p (aE [1,3]),.p (blP false),.p (aA 0)]) []:=by
 have:=bVo rec2 (bib:=1) (i:=0) (s0:=1) (s1:=15000) (by rw [aDx];decide +kernel) (by rw [aDx];rfl) (by rw [srt2,open2];decide) (base:=base)
 rw [aDx,srt2,aUe,show bOa (aX 30 sk3 dc2) 0 (iG 30 dc2 1 15000 (lC 30 dc2 1)).1=[1,3] from by decide +kernel,show ((iG 30 dc2 1 15000 (lC 30 dc2 1)).1.any fun x=>x.2.1)=false from by decide +kernel] at this
 exact this
theorem h33(base:Nat):FV Tryz.prog 33 [.p (.agg (cF 30 sk3 dc2)),.p (aA 2)] base (.tup [.p (aE [2]),.p (aA 0)]) []:=by
 have:=bVq rec2 (f:=2) (by decide) (by rw [srt2,open2];decide) (base:=base)
 have e:aMq 30 sk3 dc2 2=[2]:=by
  unfold aMq;rw [bHm];decide +kernel
 rw [aDx,srt2,e] at this
 exact this
theorem h19a(base:Nat):FV Tryz.prog 19 [.p (.agg (cF 30 sk3 dc3))] base (.tup [.p (aE []),.p (aA 0)]) []:=by
 have:=aBt rec3 (base:=base);rw [srt3,show aI 30 dc3=[] from by decide +kernel] at this
 exact this
theorem h19b(base:Nat):FV Tryz.prog 19 [.p (.agg (cF 30 sk3 dc4))] base (.tup [.p (aE [2]),.p (aA 0)]) []:=by
 have:=aBt rec4 (base:=base);rw [srt4,show aI 30 dc4=[2] from by decide +kernel] at this
 exact this
theorem h61(base:Nat):FV Tryz.prog 61 [.p (.agg (cF 30 sk3 dc5)),.p (aA 1)] base (.tup [.p (aA 15100),.p (blP false),.p (aA 0)]) []:=by
 obtain ⟨T',_,hT⟩:=bEx (dl:=30) (sk:=aB sk3) (dc:=aB dc5) (eF rec5) aIa 1 15000 (by decide) (T:=[]) cK.nil
 have:=bVh rec5 (bib:=1) (i0:=0) (s1:=1) (s2:=15000) (by rw [aDx];decide +kernel) (by rw [aDx];rfl) hT (base:=base)
 rw [srt5,show dJ 30 [] dc5 1 15000=(15100,false) from by decide +kernel] at this
 exact this
theorem h58(base:Nat):FV Tryz.prog 58 [.p (.agg (cF 30 sk3 dc2)),.p (aA 2)] base (.tup [.p (blP true),.p (aA 0)]) []:=by
 have:=bHs rec2 2 (base:=base);have hB:∀ r6,zD 30 sk3 dc2 2 r6=fun x => !(((dJ 30 x dc2 ((sk3.getD (bC (fun x=>decide (r6=x)) (aL sk3 0)).toNat []).getD 0 0) ((sk3.getD (bC (fun x=>decide (r6=x)) (aL sk3 0)).toNat []).getD 1 0)).1 == (dJ 30 (x++[2]) dc2 ((sk3.getD (bC (fun x=>decide (r6=x)) (aL sk3 0)).toNat []).getD 0 0) ((sk3.getD (bC (fun x=>decide (r6=x)) (aL sk3 0)).toNat []).getD 1 0)).1) && ((dJ 30 x dc2 ((sk3.getD (bC (fun x=>decide (r6=x)) (aL sk3 0)).toNat []).getD 0 0) ((sk3.getD (bC (fun x=>decide (r6=x)) (aL sk3 0)).toNat []).getD 1 0)).2 == (dJ 30 (x++[2]) dc2 ((sk3.getD (bC (fun x=>decide (r6=x)) (aL sk3 0)).toNat []).getD 0 0) ((sk3.getD (bC (fun x=>decide (r6=x)) (aL sk3 0)).toNat []).getD 1 0)).2)):=fun r6=>by
  funext x
  unfold zD eV;rw [aDx,srt2]
 have e:jX 30 sk3 dc2 2=(true,0):=by
  unfold jX;rw [aDx,srt2,hB];decide +kernel
 rw [e] at this
 exact this
theorem bHn{base:Nat}:FV Tryz.prog 26 [] base (.p (blP true)) [] :=
 bWl h28 h21 h71 h33 (fun base=>by
  have:=aRs [[2,1,15100],[3,2,15200],[1,3,15300]] [[2,1,15100],[3,2,15200],[1,3,15300]] (by unfold uni;decide) (by unfold uni;decide) (by decide) (base:=base)
  rw [decide_eq_true rfl] at this
  exact this) ⟨rfl,rfl⟩ (by decide) (fun base=>by
  have:=bGx [1,3] [1,3] (by decide) (base:=base)
  rw [decide_eq_true rfl] at this
  exact this) (fun base=>by
  have:=bGx [2] [2] (by decide) (base:=base)
  rw [decide_eq_true rfl] at this
  exact this) h19a h19b h61 h58
end KV
end Go.Proofs
end
namespace Go.Proofs
namespace KV
section

abbrev RS:=Bool × Bool × Bool × Bool × Int × Int × Int
end
section
end
section
section
variable {dl:Int} {sk dc:Lqq} {q:List Int} {i:Int} {L:List RS} {y100 y101 y102 y103 y104 y105:Int}
end
end
section
end
section
section
variable {dl:Int} {sk dc:Lqq} {q:List Int}
end
end
section
variable {dl:Int}{sk dc:Lqq}

theorem bHw:((0:Int) != (0:Int))=false:=by first | decide | simp
theorem bWt{n z0 z1 z2 z3 z4 z5 r6:Int}(h0:bQ dl sk dc)(h1:ofN (aB dc) n=some [z0,z1,z2,z3,z4,z5])(h2:aLm dl (aB sk) (aB dc) [z0,z1,z2,z3,z4,z5] r6)(h3:(0:Int)<r6){base:Nat}:FV Tp 53 [(.p (.agg (cF dl sk dc))),(pI n)] base (.tup [(pI r6),(pI 0)]) []:=by
 exact FV.fin Tryz.func53 rfl (o:=[.c (.tup [(.rp (aH dl (aB sk) (aB dc)) 0),(.p (dcE z0 z1 z2 z3 z4 z5)),(pI 0)]) [],bF,.c (pI r6) [],bT]) (l:=[_,FC Tp 128 [(.rp (aH dl (aB sk) (aB dc)) 0),(.p (dcE z0 z1 z2 z3 z4 z5))] [] 2 (pI r6) [],_,_]) (by kernel_rfl) (gc (aZ h3) (gc (FV.fc (h2 _) rfl) (gc bHw (gc (fk 1 (bEw h0 h1) rfl) gn))))
theorem bWu{n z0 z1 z2 z3 z4 z5 r6:Int}(h0:bQ dl sk dc)(h1:ofN (aB dc) n=some [z0,z1,z2,z3,z4,z5])(h2:aLm dl (aB sk) (aB dc) [z0,z1,z2,z3,z4,z5] r6)(h3:r6≤0){base:Nat}:FV Tp 53 [(.p (.agg (cF dl sk dc))),(pI n)] base (.tup [(pI 0),(pI 6)]) []:=by
 exact FV.fin Tryz.func53 rfl (o:=[.c (.tup [(.rp (aH dl (aB sk) (aB dc)) 0),(.p (dcE z0 z1 z2 z3 z4 z5)),(pI 0)]) [],bF,.c (pI r6) [],bF]) (l:=[_,FC Tp 128 [(.rp (aH dl (aB sk) (aB dc)) 0),(.p (dcE z0 z1 z2 z3 z4 z5))] [] 2 (pI r6) [],_,_]) (by kernel_rfl) (gc (bJ h3) (gc (FV.fc (h2 _) rfl) (gc bHw (gc (fk 1 (bEw h0 h1) rfl) gn))))
theorem bWv{n:Int}(h0:bQ dl sk dc)(h1:inR n)(h2:ofN (aB dc) n=none){base:Nat}:FV Tp 53 [(.p (.agg (cF dl sk dc))),(pI n)] base (.tup [(pI 0),(pI 1)]) []:=by
 exact FV.fin Tryz.func53 rfl (o:=[.c (.tup [(.p (.v (.pointer none))),(.p (dcE 0 0 0 0 0 0)),(pI 1)]) [],bT]) (l:=[((1:Int) != (0:Int))=true,_]) (by kernel_rfl) (gc (by first | decide | simp) (gc (fk 1 (bRd h0 h1 h2) rfl) gn))
theorem bWw{n r0:Int}(h0:uni 2 sk)(h1:uni 6 dc)(h2:(kN dl sk dc)≠0)(er0:r0=(kN dl sk dc)){base:Nat}:FV Tp 53 [(.p (.agg (cF dl sk dc))),(pI n)] base (.tup [(pI 0),(pI r0)]) []:=by
 subst er0;exact FV.fin Tryz.func53 rfl (o:=[.c (.tup [(.p (.v (.pointer none))),(.p (dcE 0 0 0 0 0 0)),(pI (kN dl sk dc))]) [],bT]) (l:=[_,_]) (by kernel_rfl) (gc (oG h2) (gc (fk 1 (bKt (n:=n) h0 h1 h2) rfl) gn))
end
section

theorem bWj(l:List Int)(v:Int)(hl:l.length≤1000){base:Nat}:FV Tp 52 [.p (aE l),.p (aA v)] base (.p (blP (l.contains v))) []:=nM l v hl
end
section

end
section
section
variable {dl:Int} {sk dc:Lqq}
end
def rL(dl:Int)(sk dc:Lqq)(n:Int):Int × Int:=if kN dl sk dc≠0 then (0,kN dl sk dc) else match ofN (aB dc) n with
 | some x=>if 0<eO (aB dc) x then (eO (aB dc) x,0) else (0,6)
 | none=>(0,1)
theorem bWx{dl:Int}{sk dc:Lqq}(us:uni 2 sk)(ud:uni 6 dc){n:Int}(hn:inR n){base:Nat}:FV Tp 53 [.p (.agg (cF dl sk dc)),.p (aA n)] base (.tup [.p (aA (rL dl sk dc n).1),.p (aA (rL dl sk dc n).2)]) []:=by
 unfold rL
 by_cases hc:kN dl sk dc≠0
 ·rw [if_pos hc]
  exact bWw us ud hc rfl
 ·rw [if_neg hc]
  have h:=(aIg us ud).1 (Classical.not_not.1 hc);have hd:=eF h;cases ho:ofN (aB dc) n with
  | none=>exact bWv h hn ho
  | some x =>
   have hm:=(mA ho).1;have hr:=dS hd hm;have hab:=kM hd x hm;obtain ⟨a,b,c,d,e,f,rfl⟩:=len6 (hd.ud x hm);have hf:inR f:=by
    have:=(iV.1 (hd.rng _ hm));unfold inR;simp [dAb] at this hab ⊢;omega
   have hsbj:aLm dl (aB sk) (aB dc) [a,b,c,d,e,f] (eO (aB dc) [a,b,c,d,e,f]):=fun base=>aPp hd hf (.inl hm) hr.2
   by_cases h0:0<eO (aB dc) [a,b,c,d,e,f]
   ·have e1:(match some [a,b,c,d,e,f] with | some x=>if 0<eO (aB dc) x then (eO (aB dc) x,(0:Int)) else (0,6) | none=>(0,1))=(eO (aB dc) [a,b,c,d,e,f],0):=by
     show (if _ then _ else _)=_
     rw [if_pos h0]
    rw [e1];exact bWt h ho hsbj h0
   ·have e1:(match some [a,b,c,d,e,f] with | some x=>if 0<eO (aB dc) x then (eO (aB dc) x,(0:Int)) else (0,6) | none=>(0,1))=(0,6):=by
     show (if _ then _ else _)=_
     rw [if_neg h0]
    rw [e1];exact bWu h ho hsbj (by omega)
end
section

theorem aHn{dl:Int}{sk dc:Lqq}{n b e:Int}(us:uni 2 sk)(ud:uni 6 dc)(hn:inR n)(h:rL dl sk dc n=(b,e)){base:Nat}:FV Tp 53 [.p (.agg (cF dl sk dc)),.p (aA n)] base (.tup [.p (aA b),.p (aA e)]) []:=by
 have:=bWx (dl:=dl) us ud hn (base:=base);rw [h] at this
 exact this
theorem bEi(u:List Int)(x:Int)(hl:u.length+1≤1000000):FMM Tp 57 [.own 0] [some (.row 3 (u.length+1) (u.map aA++[aA x]))] (.tup []) [some (.row 3 ((u++[x]).mergeSort KL.leB).length (((u++[x]).mergeSort KL.leB).map aA))]:=by
 have h:=aMt (u++[x]) (by simpa using hl)
 have e:nS (u++[x]) = .row 3 (u.length+1) (u.map aA++[aA x]):=by unfold nS;simp
 rw [e] at h
 exact h
end
section
variable {dl:Int}{sk dc:Lqq}

noncomputable abbrev wN:Code:=sub (cd Tryz.f129) [1,0,1,0,0]
noncomputable abbrev wO:Code:=sub (cd Tryz.f54) [1,1,1,0,1,0,0]
noncomputable abbrev aBl:Code:=sub (cd Tryz.f93) [1,1,1,1,1,1,1,0,1,0,0]
noncomputable abbrev aBm:Code:=sub (cd Tryz.f162) [1,0,1,0,0]
noncomputable abbrev aBn:Code:=sub (cd Tryz.f97) [1,1,1,0,1,0,0]
theorem bEe:((-1:Int) == (-1:Int))=true:=by first | decide | simp
theorem bEf:((0:Int) != (0:Int))=false:=by first | decide | simp
theorem bQb{n m:Int}{r0:Bool}(er0:r0=(n == m)){base:Nat}:FV Tp 59 [(pI n),(.rp [(aA m)] 0)] base (pB r0) []:=by
 subst er0;exact FV.fin Tryz.func59 rfl (o:=[.x (aA m)]) (l:=[[(aA m)][0]? = some (aA m)]) (by kernel_rfl) (gc rfl gn)
theorem aHk(n m:Int){base:Nat}:FV Tp 59 [.p (aA n),.rp [aA m] 0] base (pB (n == m)) []:=bQb rfl
def fK(l:List Int)(m:Int)(i:Nat):St:=⟨fr 19 [(0,(.own 0)),(1,(.fn 59 [] [(.rp [(aA m)] 0)])),(7,(pI (l.length:Int))),(8,(pI (i:Int)))],[some (.row 3 l.length (l.map aA))]⟩
theorem bJm{l:List Int}{m:Int}{i'0:Nat}(hl0:aJ Tp 1 wN (fK l m 0) (.exit 0) (fK l m i'0)):FMM Tp 129 [(.own 0),(.fn 59 [] [(.rp [(aA m)] 0)])] [some (.row 3 l.length (l.map aA))] (pI (-1:Int)) [some (.row 3 l.length (l.map aA))]:=by
 exact FMM.fin (k:=1) (g:=⟨[],[],[],[]⟩) rfl Tryz.func129 rfl (o:=[.k 6 ⟨(rng [(2,5),(9,10)]),[],[],[]⟩ (.exit 0) (fK l m i'0)]) (l:=[_]) (by kernel_rfl) (gc hl0.code gn)
theorem bJn{l:List Int}{m:Int}{i'0:Nat}(hl0:aJ Tp 1 wN (fK l m 0) .ret (cE (fK l m i'0) [(4,(pI (i'0:Int)))])):FMM Tp 129 [(.own 0),(.fn 59 [] [(.rp [(aA m)] 0)])] [some (.row 3 l.length (l.map aA))] (pI (i'0:Int)) [some (.row 3 l.length (l.map aA))]:=by
 exact FMM.fin (k:=1) (g:=⟨[],[],[],[]⟩) rfl Tryz.func129 rfl (o:=[.k 6 ⟨(rng [(2,5),(9,10)]),[],[],[]⟩ .ret (cE (fK l m i'0) [(4,(pI (i'0:Int)))])]) (l:=[_]) (by kernel_rfl) (gc hl0.code gn)
theorem aOw{l:List Int}{m:Int}{i:Nat}{x100:Int}(h0:(i:Int)<(l.length:Int))(h1:l[i]? = some x100)(h2:(x100 == m)=true):aC Tp 1 wN (fK l m i) .ret (cE (fK l m i) [(4,(pI (i:Int)))]):=by
 exact aC.fin (g:=⟨(rng [(2,2),(5,2),(9,10)]),[],[],[]⟩) (o:=[bT,.x (aA x100),.c (pB (x100 == m)) [],bT]) (l:=[_,_,_,_,_]) (by kernel_rfl) (gc h2 (gc (fk 1 (aHk x100 m) rfl) (gc (atm aA h1) (gc (cJ (i:=(i:Int)) (kQ2 _) h1) (gc (aZ h0) gn)))))
theorem aOx{l:List Int}{m:Int}{i:Nat}{x100:Int}{i':Nat}(h0:(i:Int)<(l.length:Int))(h1:l[i]? = some x100)(h2:(x100 == m)=false)(h3:inR (((i+1):Nat):Int))(ei':i'=(i+1)):aC Tp 1 wN (fK l m i) .normal (fK l m i'):=by
 subst ei';exact aC.fin (g:=⟨(rng [(2,5),(9,10)]),[],[],[]⟩) (o:=[bT,.x (aA x100),.c (pB (x100 == m)) [],bF]) (l:=[_,_,_,_,_,_]) (by kernel_rfl) (gc h3 (gc h2 (gc (fk 1 (aHk x100 m) rfl) (gc (atm aA h1) (gc (cJ (i:=(i:Int)) (kQ2 _) h1) (gc (aZ h0) gn))))))
theorem aOy{l:List Int}{m:Int}{i:Nat}(h0:(l.length:Int)≤(i:Int)):aC Tp 1 wN (fK l m i) (.exit 0) (fK l m i):=by
 exact aC.fin (g:=⟨(rng [(2,5),(9,10)]),[],[],[]⟩) (o:=[bF]) (l:=[_]) (by kernel_rfl) (gc (bJ h0) gn)
abbrev bJo(l:List Int)(m:Int)(i:Int):Prop:=FMM Tp 129 [.own 0,(.fn 59 [] [(.rp [(aA m)] 0)])] [some (.row 3 l.length (l.map aA))] (pI i) [some (.row 3 l.length (l.map aA))]
def kG(m:Int)(cn:Nat)(cc:List PV)(i:Nat)(j:Nat):St:=⟨fr 42 [(0,(.own 0)),(1,(.fn 59 [] [(.rp [(aA m)] 0)])),(4,(.p cC)),(5,(pI (i:Int))),(6,(pI (j:Int)))],[some (.row 3 cn cc)]⟩
theorem bQc{l:List Int}{m:Int}{i0:Nat}{c'1:List Int}{i'2 j'3:Nat}{r0c:List PV}(h0:bJo l m (i0:Int))(h1:(i0:Int)≠(-1:Int))(h2:inR (((i0+1):Nat):Int))(hl3:aJ Tp 1 wO (kG m l.length (l.map aA) i0 (i0+1)) (.exit 0) (kG m c'1.length (c'1.map aA) i'2 j'3))(h4:0≤(i'2:Int)∧(i'2:Int)≤(c'1.length:Int)∧(c'1.length:Int)≤(c'1.length:Int))(h5:(i'2*1)+(c'1.length-i'2)≤(c'1.map aA).length)(h6:0≤(0:Int)∧(0:Int)≤(i'2:Int)∧(i'2:Int)≤(c'1.length:Int))(er0c:r0c=((((c'1.map aA).take (i'2*1)++List.replicate (c'1.length-i'2) (PV.v (.int .i64 0))++(c'1.map aA).drop ((i'2*1)+(List.replicate (c'1.length-i'2) (PV.v (.int .i64 0))).length)).drop 0).take (i'2*(((c'1.map aA).take (i'2*1)++List.replicate (c'1.length-i'2) (PV.v (.int .i64 0))++(c'1.map aA).drop ((i'2*1)+(List.replicate (c'1.length-i'2) (PV.v (.int .i64 0))).length)).length / c'1.length)))):FMM Tp 54 [(.own 0),(.fn 59 [] [(.rp [(aA m)] 0)])] [some (.row 3 l.length (l.map aA))] (.p (.sl i'2 r0c)) [some .dead]:=by
 subst er0c;exact FMM.fin (k:=1) (g:=⟨[],[],[0],[]⟩) rfl Tryz.func54 rfl (o:=[.c (pI (i0:Int)) [(0,(.row 3 l.length (l.map aA)))],bF,.k 4 ⟨(rng [(2,2),(7,29)]),[],[],[]⟩ (.exit 0) (kG m c'1.length (c'1.map aA) i'2 j'3)]) (l:=[_,_,_,_,_,_,FC Tp 129 [(.own 0),(.fn 59 [] [(.rp [(aA m)] 0)])] [(0,(.row 3 l.length (l.map aA)))] 1 (pI (i0:Int)) [(0,(.row 3 l.length (l.map aA)))]]) (by kernel_rfl) (gc h6 (gc h5 (gc h4 (gc hl3.code (gc h2 (gc (bP h1) (gc (FMM.fc (ids:=[0]) h0 (by kernel_rfl)) gn)))))))
theorem bQd{l:List Int}{m:Int}(h0:bJo l m (-1:Int)):FMM Tp 54 [(.own 0),(.fn 59 [] [(.rp [(aA m)] 0)])] [some (.row 3 l.length (l.map aA))] (.p (aE l)) [some .dead]:=by
 exact FMM.fin (k:=1) (g:=⟨[],[],[0],[]⟩) rfl Tryz.func54 rfl (o:=[.c (pI (-1:Int)) [(0,(.row 3 l.length (l.map aA)))],bT]) (l:=[_,FC Tp 129 [(.own 0),(.fn 59 [] [(.rp [(aA m)] 0)])] [(0,(.row 3 l.length (l.map aA)))] 1 (pI (-1:Int)) [(0,(.row 3 l.length (l.map aA)))]]) (by kernel_rfl) (gc bEe (gc (FMM.fc (ids:=[0]) h0 (by kernel_rfl)) gn))
theorem aWr{m:Int}{c:List Int}{i j:Nat}{x100 x101:Int}{c':List Int}{i' j':Nat}(h0:(j:Int)<(c.length:Int))(h1:c[j]? = some x100)(h2:(x100 == m)=false)(h3:c[i]? = some x101)(h4:(i*1)<(c.map aA).length)(h5:inR (((i+1):Nat):Int))(h6:inR (((j+1):Nat):Int))(ec'n:c'.length=c.length)(ec'c:c'.map aA=((c.map aA).set (i*1) (aA x100)))(ei':i'=(i+1))(ej':j'=(j+1)):aC Tp 1 wO (kG m c.length (c.map aA) i j) .normal (kG m c'.length (c'.map aA) i' j'):=by
 subst ei' ej';have raw:aC Tp 1 wO (kG m c.length (c.map aA) i j) .normal (kG m c.length ((c.map aA).set (i*1) (aA x100)) (i+1) (j+1)):=aC.fin (g:=⟨(rng [(2,2),(7,29)]),[],[],[]⟩) (o:=[bT,.x (aA x100),.c (pB (x100 == m)) [],bT]) (l:=[_,_,_,_,_,_,_,_,_]) (by kernel_rfl) (gc h6 (gc h5 (gc h4 (gc (cJ (i:=(i:Int)) (kQ2 _) h3) (gc (cL h2) (gc (fk 1 (aHk x100 m) rfl) (gc (atm aA h1) (gc (cJ (i:=(j:Int)) (kQ2 _) h1) (gc (aZ h0) gn)))))))))
 exact raw.cast (by rw [ec'n,ec'c])
theorem aWs{m:Int}{c:List Int}{i j:Nat}{x100:Int}{j':Nat}(h0:(j:Int)<(c.length:Int))(h1:c[j]? = some x100)(h2:(x100 == m)=true)(h3:inR (((j+1):Nat):Int))(ej':j'=(j+1)):aC Tp 1 wO (kG m c.length (c.map aA) i j) .normal (kG m c.length (c.map aA) i j'):=by
 subst ej';exact aC.fin (g:=⟨(rng [(2,2),(7,29)]),[],[],[]⟩) (o:=[bT,.x (aA x100),.c (pB (x100 == m)) [],bF]) (l:=[_,_,_,_,_,_]) (by kernel_rfl) (gc h3 (gc (aY h2) (gc (fk 1 (aHk x100 m) rfl) (gc (atm aA h1) (gc (cJ (i:=(j:Int)) (kQ2 _) h1) (gc (aZ h0) gn))))))
theorem aWt{m:Int}{c:List Int}{i j:Nat}(h0:(c.length:Int)≤(j:Int)):aC Tp 1 wO (kG m c.length (c.map aA) i j) (.exit 0) (kG m c.length (c.map aA) i j):=by
 exact aC.fin (g:=⟨(rng [(2,2),(7,29)]),[],[],[]⟩) (o:=[bF]) (l:=[_]) (by kernel_rfl) (gc (bJ h0) gn)

theorem bJp{l:List Int}{m:Int}(hl:l.length≤1000){p:Int→Bool}(hp:∀ n∈l,p n=(n == m)) :
  (∃ i n,l[i]? = some n∧l.findIdx? p=some i∧p n=true∧bJo l m (i:Int))∨(l.any p=false∧bJo l m (-1)):=by
 rcases aJ.find (P:=Tp) (k:=1) (b:=wN) (fun i=>fK l m i) (fun i _=>cE (fK l m i) [(4,.p (aA (i:Int)))]) (fK l m l.length) .ret (.exit 0) (by simp) (by simp) p l
  (fun i x hx hq=>aOx (by have:=bD hx;omega) hx (by rw [← hp x (kQ5 hx)];exact hq) (aP (by have:=bD hx;omega)) rfl)
  (fun i x hx hq=>aOw (by have:=bD hx;omega) hx (by rw [← hp x (kQ5 hx)];exact hq))
  (aOy (by omega)) with ⟨i,x,h1,h2,h3,h4⟩ | ⟨h1,h2,h3⟩
 ·exact .inl ⟨i,x,h1,h2,h3,bJn h4⟩
 ·exact .inr ⟨h2,bJm h3⟩
theorem bQe{l:List Int}{m:Int}(hl:l.length≤1000){p:Int→Bool}(hp:∀ n∈l,p n=(n == m)) :
  FMM Tp 54 [.own 0,.fn 59 [] [.rp [aA m] 0]] [some (.row 3 l.length (l.map aA))] (.p (aE (l.filter fun n => !p n))) [some .dead]:=by
 rcases bJp hl hp with ⟨i,n,h1,h2,h3,h4⟩ | ⟨h1,h2⟩
 ·have hi:=bD h1
  obtain ⟨d,hm⟩:∃ d,i+1+d=l.length:=⟨l.length-(i+1),by omega⟩
  obtain ⟨⟨c,k⟩,hI,hL⟩:=aJ.ex (P:=Tp) (k:=1) (b:=wO) (e := .exit 0) (fun j (x:List Int × Nat)=>kG m x.1.length (x.1.map aA) x.2 (i+1+j)) (fun x=>kG m x.1.length (x.1.map aA) x.2 l.length) (fun j x=>vC p l (i+1+j) x∧∀ n∈x.1,n∈l) (by simp) d
   (fun j x hj hx=>by
    obtain ⟨hI,hs⟩:=hx;have hlt:i+1+j<x.1.length:=by rw [hI.len];omega
    have hle:=hI.le;have hlen:=hI.len;obtain ⟨y,hy⟩:∃ y,x.1[i+1+j]? = some y:=⟨_,kQ0 hlt⟩;have hyl:=hs y (kQ5 hy);cases hq:p y with
    | true=>exact ⟨x,⟨hI.skip (by omega) hy hq,hs⟩,aWs (by omega) hy (by rw [← hp y hyl];exact hq) (aP (by omega)) rfl⟩
    | false =>
     obtain ⟨z,hz⟩:∃ z,x.1[x.2]? = some z:=⟨_,kQ0 (by omega)⟩
     refine ⟨_,⟨hI.keep (by omega) hy hq,fun n hn => ?_⟩,aWr (c:=x.1) (c':=x.1.set x.2 y) (by omega) hy (by rw [← hp y hyl];exact hq) hz (by rw [kQ9];omega) (aP (by omega)) (aP (by omega)) (by simp) (by rw [List.map_set,Nat.mul_one]) rfl rfl⟩
     rcases List.mem_or_eq_of_mem_set hn with h | rfl
     ·exact hs n h
     ·exact hyl)
   (fun x hx=>by
    have:=aWt (m:=m) (c:=x.1) (i:=x.2) (j:=l.length) (by rw [hx.1.len];omega)
    rw [show i+1+d=l.length from hm];exact this)
   (acc:=(l,i)) ⟨vC.start h1 h3 (qW h2),fun n h=>h⟩
  obtain ⟨hI,_⟩:=hI;have hlen:=hI.len;have hle:=hI.le;have hk:=hI.kept;simp only [hm,List.take_length] at hlen hle hk
  have fin:=bQc (l:=l) (c'1:=c) (i'2:=k) (j'3:=l.length) (r0c:=(c.take k).map aA) h4 (by omega) (aP (by omega)) hL ⟨by omega,by omega,by omega⟩ (by rw [kQ9];omega) ⟨by omega,by omega,by omega⟩ (by
   rw [List.drop_zero,Nat.mul_one,List.length_replicate];have hL2:(((c.map aA).take k)++List.replicate (c.length-k) (PV.v (.int .i64 0))++(c.map aA).drop (k+(c.length-k))).length=c.length:=by
    simp only [lG,kY,kQ9,List.length_replicate,aWd];omega
   rw [hL2,Nat.div_self (by omega),Nat.mul_one,List.append_assoc,List.take_append_of_le_length (by rw [kY,kQ9];omega),List.take_take,Nat.min_self,List.map_take])
  rw [← hk];have e:aE (c.take k) = .sl k ((c.take k).map aA):=by
   show PV.sl (c.take k).length _=_;rw [kY,Nat.min_eq_left (by omega)]
  rw [e];exact fin
 ·have:(l.filter fun n => !p n)=l:=List.filter_eq_self.2 fun n hn=>by
   have:=List.any_eq_false.1 h1 n hn;simpa using this
  rw [this];exact bQd h2

theorem bQf{l:List Int}{a b r0:Bool}(h0:(b == a)=false)(er0:r0=(decide ((l.length:Int)<2))){base:Nat}:FV Tp 96 [(.p (aE l)),(pB a),(pB b)] base (pB r0) []:=by
 subst er0;exact FV.fin Tryz.func96 rfl (o:=[bT,bT,bT,bT]) (l:=[_,_,_,_]) (by kernel_rfl) (g4c (cL h0) gn)
theorem bQg{l:List Int}{a b:Bool}(h0:(b == a)=true){base:Nat}:FV Tp 96 [(.p (aE l)),(pB a),(pB b)] base (pB false) []:=by
 exact FV.fin Tryz.func96 rfl (o:=[bF,bF,bF,bF]) (l:=[_,_,_,_]) (by kernel_rfl) (g4c (aY h0) gn)
def aHl(l:List Int)(a b:Bool):Bool:=(!(b == a)) && decide ((l.length:Int)<2)
theorem bEg(l:List Int)(a b:Bool){base:Nat}:FV Tp 96 [.p (aE l),.p (blP a),.p (blP b)] base (pB (aHl l a b)) []:=by
 unfold aHl;cases h:(b == a) with
 | false=>exact bQf h rfl
 | true=>exact bQg h
def kH(dl:Int)(sk:Lqq)(dc:Lqq)(on:Nat)(oc:List PV)(i:Nat):St:=⟨fr 58 [(2,(.fn 96 [] [])),(6,(.p cC)),(7,(pI 0)),(10,(.p (.sl ((aX dl (aB sk) (aB dc)).length) (((aX dl (aB sk) (aB dc)).map hpE).flatten)))),(11,(.own 0)),(36,(.p (.sl ((aB sk).length) ((aB sk).flatten.map aA)))),(37,(pI (((aB sk).length:Nat):Int))),(38,(pI (i:Int)))],[some (.row 3 on oc)]⟩
theorem bQh{fi:Int}{o'0:List Int}{i'1:Nat}(h0:bQ dl sk dc)(h1:(1:Int)≤fi)(h2:(aI dl (aB dc)).length≤8)(hl3:aJ Tp 0 aBl (kH dl sk dc 0 [] 0) (.exit 0) (kH dl sk dc o'0.length (o'0.map aA) i'1)){base:Nat}:FV Tp 93 [(.p (.agg (cF dl sk dc))),(pI fi),(.fn 96 [] [])] base (.tup [(.p (aE o'0)),(pI 0)]) []:=by
 exact FV.frz (FMM.fin (k:=0) (g:=⟨[],[],[0],[]⟩) rfl Tryz.func93 rfl (o:=[.c (.tup [(.rp (aH dl (aB sk) (aB dc)) 0),(pI 0)]) [],bF,bF,.c (.tup [(.own 1),(pI 0)]) [(1,(.row 195 ((aX dl (aB sk) (aB dc)).length) (((aX dl (aB sk) (aB dc)).map hpE).flatten)))],bF,.g 1 ⟨[],[0],[1],[]⟩,.x (.sl ((aB sk).length) ((aB sk).flatten.map aA)),.k 1 ⟨(rng [(0,2),(3,3),(8,2),(12,24),(39,18)]),[1],[],[(11,3)]⟩ (.exit 0) (kH dl sk dc o'0.length (o'0.map aA) i'1)]) (l:=[_,(aH dl (aB sk) (aB dc))[1]? = some (.sl ((aB sk).length) ((aB sk).flatten.map aA)),_,_,_,_,_]) (by kernel_rfl) (gc hl3.code (gc rfl (gc bEf (gc (fk 1 (aIv h0 h2) rfl) (gc (bJ h1) (gc bEf (gc (fk 1 (iC dl sk dc h0) rfl) gn)))))))) (by kernel_rfl)
theorem aWu{o:List Int}{i:Nat}{y100 y101:Int}{c102:List bX}{mn103 mx104:Int}{o':List Int}{i':Nat}(h0:(i:Int)<(((aB sk).length:Nat):Int))(h1:(aB sk)[i]? = some [y100,y101])(h2:uni 2 (aB sk))(h3:(aX dl (aB sk) (aB dc))[i]? = some (c102,mn103,mx104))(h4:(aX dl (aB sk) (aB dc)).length≤1000)(h5:c102.length≤256)(h6:(aHl (gL (aX dl (aB sk) (aB dc)) i c102) (c102.any fun x=>x.2.1) (c102.any fun x => !x.2.1))=true)(h7:[(aA y100)].length=1*1∧o.length+1≤1000000)(h8:inR (((i+1):Nat):Int))(eo'n:o'.length=(o.length+1))(eo'c:o'.map aA=((o.map aA)++[(aA y100)]))(ei':i'=(i+1)):aC Tp 0 aBl (kH dl sk dc o.length (o.map aA) i) .normal (kH dl sk dc o'.length (o'.map aA) i'):=by
 subst ei';have raw:aC Tp 0 aBl (kH dl sk dc o.length (o.map aA) i) .normal (kH dl sk dc (o.length+1) ((o.map aA)++[(aA y100)]) (i+1)):=aC.fin (g:=⟨(rng [(0,2),(3,3),(8,2),(12,24),(39,18)]),[3],[],[]⟩) (o:=[bT,.x (.agg [(aA y100),(aA y101)]),.c (.tup [(.p (aE (gL (aX dl (aB sk) (aB dc)) i c102))),(pB (c102.any fun x=>x.2.1)),(pB (c102.any fun x => !x.2.1))]) [],.c (pB (aHl (gL (aX dl (aB sk) (aB dc)) i c102) (c102.any fun x=>x.2.1) (c102.any fun x => !x.2.1))) [],bT]) (l:=[_,_,_,_,_,_,_,0≤(i:Int)∧(i:Int)<(((aB sk).length:Nat):Int)∧(i*2)<((aB sk).flatten.map aA).length,_]) (by kernel_rfl) (gc h8 (gc h7 (gc h6 (gc (fk 2 (bEg (gL (aX dl (aB sk) (aB dc)) i c102) (c102.any fun x=>x.2.1) (c102.any fun x => !x.2.1)) rfl) (gc (fk 2 (aCr h4 h3 h5) rfl) (gc (aV (i:=i) h2 h1) (gc (bI (i:=i) h2 h1) (gc (cB (k:=2) (i:=(i:Int)) (by decide) h2 (kQ2 _) h1) (gc (aZ h0) gn)))))))))
 exact raw.cast (by rw [eo'n,eo'c])
theorem aWv{o:List Int}{i:Nat}{y100 y101:Int}{c102:List bX}{mn103 mx104:Int}{i':Nat}(h0:(i:Int)<(((aB sk).length:Nat):Int))(h1:(aB sk)[i]? = some [y100,y101])(h2:uni 2 (aB sk))(h3:(aX dl (aB sk) (aB dc))[i]? = some (c102,mn103,mx104))(h4:(aX dl (aB sk) (aB dc)).length≤1000)(h5:c102.length≤256)(h6:(aHl (gL (aX dl (aB sk) (aB dc)) i c102) (c102.any fun x=>x.2.1) (c102.any fun x => !x.2.1))=false)(h7:inR (((i+1):Nat):Int))(ei':i'=(i+1)):aC Tp 0 aBl (kH dl sk dc o.length (o.map aA) i) .normal (kH dl sk dc o.length (o.map aA) i'):=by
 subst ei';exact aC.fin (g:=⟨(rng [(0,2),(3,3),(8,2),(12,24),(39,18)]),[0],[],[]⟩) (o:=[bT,.x (.agg [(aA y100),(aA y101)]),.c (.tup [(.p (aE (gL (aX dl (aB sk) (aB dc)) i c102))),(pB (c102.any fun x=>x.2.1)),(pB (c102.any fun x => !x.2.1))]) [],.c (pB (aHl (gL (aX dl (aB sk) (aB dc)) i c102) (c102.any fun x=>x.2.1) (c102.any fun x => !x.2.1))) [],bF]) (l:=[_,_,_,_,_,_,0≤(i:Int)∧(i:Int)<(((aB sk).length:Nat):Int)∧(i*2)<((aB sk).flatten.map aA).length,_]) (by kernel_rfl) (gc h7 (gc h6 (gc (fk 2 (bEg (gL (aX dl (aB sk) (aB dc)) i c102) (c102.any fun x=>x.2.1) (c102.any fun x => !x.2.1)) rfl) (gc (fk 2 (aCr h4 h3 h5) rfl) (gc (aV (i:=i) h2 h1) (gc (bI (i:=i) h2 h1) (gc (cB (k:=2) (i:=(i:Int)) (by decide) h2 (kQ2 _) h1) (gc (aZ h0) gn))))))))
theorem aWw{o:List Int}{i:Nat}(h0:(((aB sk).length:Nat):Int)≤(i:Int)):aC Tp 0 aBl (kH dl sk dc o.length (o.map aA) i) (.exit 0) (kH dl sk dc o.length (o.map aA) i):=by
 exact aC.fin (g:=⟨(rng [(0,2),(3,3),(8,2),(12,24),(39,18)]),[0],[],[]⟩) (o:=[bF]) (l:=[_]) (by kernel_rfl) (gc (bJ h0) gn)
theorem bQi{a b c:Int}{su:List Int}{r0:Bool}(h0:su.length≤1000)(er0:r0=(!(su.contains a))){base:Nat}:FV Tp 98 [(.p (.agg [(aA a),(aA b),(aA c)])),(.rp [(aE su)] 0)] base (pB r0) []:=by
 subst er0;exact FV.fin Tryz.func98 rfl (o:=[.x (aE su),.c (pB (su.contains a)) []]) (l:=[_,[(aE su)][0]? = some (aE su)]) (by kernel_rfl) (gc (fk 1 (bWj su a h0) rfl) (gc rfl gn))
theorem aHm(a b c:Int)(su:List Int)(h:su.length≤1000){base:Nat}:FV Tp 98 [.p (.agg [aA a,aA b,aA c]),.rp [aE su] 0] base (pB (!(su.contains a))) []:=bQi h rfl
def fL(l:Lqq)(su:List Int)(i:Nat):St:=⟨fr 19 [(0,(.own 0)),(1,(.fn 98 [] [(.rp [(aE su)] 0)])),(7,(pI (l.length:Int))),(8,(pI (i:Int)))],[some (.row 48 l.length (l.flatten.map aA))]⟩
theorem bJq{l:Lqq}{su:List Int}{i'0:Nat}(hl0:aJ Tp 1 aBm (fL l su 0) (.exit 0) (fL l su i'0)):FMM Tp 162 [(.own 0),(.fn 98 [] [(.rp [(aE su)] 0)])] [some (.row 48 l.length (l.flatten.map aA))] (pI (-1:Int)) [some (.row 48 l.length (l.flatten.map aA))]:=by
 exact FMM.fin (k:=1) (g:=⟨[],[],[],[]⟩) rfl Tryz.func162 rfl (o:=[.k 6 ⟨(rng [(2,5),(9,10)]),[],[],[]⟩ (.exit 0) (fL l su i'0)]) (l:=[_]) (by kernel_rfl) (gc hl0.code gn)
theorem bJr{l:Lqq}{su:List Int}{i'0:Nat}(hl0:aJ Tp 1 aBm (fL l su 0) .ret (cE (fL l su i'0) [(4,(pI (i'0:Int)))])):FMM Tp 162 [(.own 0),(.fn 98 [] [(.rp [(aE su)] 0)])] [some (.row 48 l.length (l.flatten.map aA))] (pI (i'0:Int)) [some (.row 48 l.length (l.flatten.map aA))]:=by
 exact FMM.fin (k:=1) (g:=⟨[],[],[],[]⟩) rfl Tryz.func162 rfl (o:=[.k 6 ⟨(rng [(2,5),(9,10)]),[],[],[]⟩ .ret (cE (fL l su i'0) [(4,(pI (i'0:Int)))])]) (l:=[_]) (by kernel_rfl) (gc hl0.code gn)
theorem aOz{l:Lqq}{su:List Int}{i:Nat}{y100 y101 y102:Int}(h0:(i:Int)<(l.length:Int))(h1:l[i]? = some [y100,y101,y102])(h2:uni 3 l)(h3:su.length≤1000)(h4:(!(su.contains y100))=true):aC Tp 1 aBm (fL l su i) .ret (cE (fL l su i) [(4,(pI (i:Int)))]):=by
 exact aC.fin (g:=⟨(rng [(2,2),(5,2),(9,10)]),[],[],[]⟩) (o:=[bT,.x (.agg [(aA y100),(aA y101),(aA y102)]),.c (pB (!(su.contains y100))) [],bT]) (l:=[_,_,_,_,_,_]) (by kernel_rfl) (gc h4 (gc (fk 1 (aHm y100 y101 y102 su h3) rfl) (gc (aV (i:=i) h2 h1) (gc (bI (i:=i) h2 h1) (gc (cJ (i:=(i:Int)) (kQ2 _) h1) (gc (aZ h0) gn))))))
theorem aPa{l:Lqq}{su:List Int}{i:Nat}{y100 y101 y102:Int}{i':Nat}(h0:(i:Int)<(l.length:Int))(h1:l[i]? = some [y100,y101,y102])(h2:uni 3 l)(h3:su.length≤1000)(h4:(!(su.contains y100))=false)(h5:inR (((i+1):Nat):Int))(ei':i'=(i+1)):aC Tp 1 aBm (fL l su i) .normal (fL l su i'):=by
 subst ei';exact aC.fin (g:=⟨(rng [(2,5),(9,10)]),[],[],[]⟩) (o:=[bT,.x (.agg [(aA y100),(aA y101),(aA y102)]),.c (pB (!(su.contains y100))) [],bF]) (l:=[_,_,_,_,_,_,_]) (by kernel_rfl) (gc h5 (gc h4 (gc (fk 1 (aHm y100 y101 y102 su h3) rfl) (gc (aV (i:=i) h2 h1) (gc (bI (i:=i) h2 h1) (gc (cJ (i:=(i:Int)) (kQ2 _) h1) (gc (aZ h0) gn)))))))
theorem aPb{l:Lqq}{su:List Int}{i:Nat}(h0:(l.length:Int)≤(i:Int)):aC Tp 1 aBm (fL l su i) (.exit 0) (fL l su i):=by
 exact aC.fin (g:=⟨(rng [(2,5),(9,10)]),[],[],[]⟩) (o:=[bF]) (l:=[_]) (by kernel_rfl) (gc (bJ h0) gn)
abbrev bJs(l:Lqq)(su:List Int)(i:Int):Prop:=FMM Tp 162 [.own 0,(.fn 98 [] [(.rp [(aE su)] 0)])] [some (.row 48 l.length (l.flatten.map aA))] (pI i) [some (.row 48 l.length (l.flatten.map aA))]
def kI(su:List Int)(cn:Nat)(cc:List PV)(i:Nat)(j:Nat):St:=⟨fr 42 [(0,(.own 0)),(1,(.fn 98 [] [(.rp [(aE su)] 0)])),(4,(.p cC)),(5,(pI (i:Int))),(6,(pI (j:Int)))],[some (.row 48 cn cc)]⟩
theorem bQj{l:Lqq}{su:List Int}{i0:Nat}{c'1:Lqq}{i'2 j'3:Nat}{r0c:List PV}(h0:bJs l su (i0:Int))(h1:(i0:Int)≠(-1:Int))(h2:inR (((i0+1):Nat):Int))(hl3:aJ Tp 1 aBn (kI su l.length (l.flatten.map aA) i0 (i0+1)) (.exit 0) (kI su c'1.length (c'1.flatten.map aA) i'2 j'3))(h4:0≤(i'2:Int)∧(i'2:Int)≤(c'1.length:Int)∧(c'1.length:Int)≤(c'1.length:Int))(h5:(i'2*3)+(c'1.length-i'2)*3≤(c'1.flatten.map aA).length)(h6:0≤(0:Int)∧(0:Int)≤(i'2:Int)∧(i'2:Int)≤(c'1.length:Int))(er0c:r0c=((((c'1.flatten.map aA).take (i'2*3)++(List.replicate (c'1.length-i'2) (List.map PV.v [(.int .i64 0),(.int .i64 0),(.int .i64 0)])).flatten++(c'1.flatten.map aA).drop ((i'2*3)+(c'1.length-i'2)*3)).drop 0).take (i'2*(((c'1.flatten.map aA).take (i'2*3)++(List.replicate (c'1.length-i'2) (List.map PV.v [(.int .i64 0),(.int .i64 0),(.int .i64 0)])).flatten++(c'1.flatten.map aA).drop ((i'2*3)+(c'1.length-i'2)*3)).length / c'1.length)))):FMM Tp 97 [(.own 0),(.fn 98 [] [(.rp [(aE su)] 0)])] [some (.row 48 l.length (l.flatten.map aA))] (.p (.sl i'2 r0c)) [some .dead]:=by
 subst er0c;exact FMM.fin (k:=1) (g:=⟨[],[],[0],[]⟩) rfl Tryz.func97 rfl (o:=[.c (pI (i0:Int)) [(0,(.row 48 l.length (l.flatten.map aA)))],bF,.k 4 ⟨(rng [(2,2),(7,29)]),[],[],[]⟩ (.exit 0) (kI su c'1.length (c'1.flatten.map aA) i'2 j'3)]) (l:=[_,_,_,_,_,_,FC Tp 162 [(.own 0),(.fn 98 [] [(.rp [(aE su)] 0)])] [(0,(.row 48 l.length (l.flatten.map aA)))] 1 (pI (i0:Int)) [(0,(.row 48 l.length (l.flatten.map aA)))]]) (by kernel_rfl) (gc h6 (gc h5 (gc h4 (gc hl3.code (gc h2 (gc (bP h1) (gc (FMM.fc (ids:=[0]) h0 (by kernel_rfl)) gn)))))))
theorem bQk{l:Lqq}{su:List Int}(h0:bJs l su (-1:Int)):FMM Tp 97 [(.own 0),(.fn 98 [] [(.rp [(aE su)] 0)])] [some (.row 48 l.length (l.flatten.map aA))] (.p (fS l)) [some .dead]:=by
 exact FMM.fin (k:=1) (g:=⟨[],[],[0],[]⟩) rfl Tryz.func97 rfl (o:=[.c (pI (-1:Int)) [(0,(.row 48 l.length (l.flatten.map aA)))],bT]) (l:=[_,FC Tp 162 [(.own 0),(.fn 98 [] [(.rp [(aE su)] 0)])] [(0,(.row 48 l.length (l.flatten.map aA)))] 1 (pI (-1:Int)) [(0,(.row 48 l.length (l.flatten.map aA)))]]) (by kernel_rfl) (gc bEe (gc (FMM.fc (ids:=[0]) h0 (by kernel_rfl)) gn))
theorem aWx{su:List Int}{c:Lqq}{i j:Nat}{y100 y101 y102 y103 y104 y105:Int}{c':Lqq}{i' j':Nat}(h0:(j:Int)<(c.length:Int))(h1:c[j]? = some [y100,y101,y102])(h2:uni 3 c)(h3:su.length≤1000)(h4:(!(su.contains y100))=false)(h5:c[i]? = some [y103,y104,y105])(h6:[(aA y100),(aA y101),(aA y102)].length=3∧(i*3)+3≤(c.flatten.map aA).length)(h7:inR (((i+1):Nat):Int))(h8:inR (((j+1):Nat):Int))(ec'n:c'.length=c.length)(ec'c:c'.flatten.map aA=((c.flatten.map aA).take (i*3)++[(aA y100),(aA y101),(aA y102)]++(c.flatten.map aA).drop ((i*3)+3)))(ei':i'=(i+1))(ej':j'=(j+1)):aC Tp 1 aBn (kI su c.length (c.flatten.map aA) i j) .normal (kI su c'.length (c'.flatten.map aA) i' j'):=by
 subst ei' ej';have raw:aC Tp 1 aBn (kI su c.length (c.flatten.map aA) i j) .normal (kI su c.length ((c.flatten.map aA).take (i*3)++[(aA y100),(aA y101),(aA y102)]++(c.flatten.map aA).drop ((i*3)+3)) (i+1) (j+1)):=aC.fin (g:=⟨(rng [(2,2),(7,29)]),[],[],[]⟩) (o:=[bT,.x (.agg [(aA y100),(aA y101),(aA y102)]),.c (pB (!(su.contains y100))) [],bT]) (l:=[_,_,_,_,_,_,_,_,_,_]) (by kernel_rfl) (gc h8 (gc h7 (gc h6 (gc (cJ (i:=(i:Int)) (kQ2 _) h5) (gc (cL h4) (gc (fk 2 (aHm y100 y101 y102 su h3) rfl) (gc (aV (i:=j) h2 h1) (gc (bI (i:=j) h2 h1) (gc (cJ (i:=(j:Int)) (kQ2 _) h1) (gc (aZ h0) gn))))))))))
 exact raw.cast (by rw [ec'n,ec'c])
theorem aWy{su:List Int}{c:Lqq}{i j:Nat}{y100 y101 y102:Int}{j':Nat}(h0:(j:Int)<(c.length:Int))(h1:c[j]? = some [y100,y101,y102])(h2:uni 3 c)(h3:su.length≤1000)(h4:(!(su.contains y100))=true)(h5:inR (((j+1):Nat):Int))(ej':j'=(j+1)):aC Tp 1 aBn (kI su c.length (c.flatten.map aA) i j) .normal (kI su c.length (c.flatten.map aA) i j'):=by
 subst ej';exact aC.fin (g:=⟨(rng [(2,2),(7,29)]),[],[],[]⟩) (o:=[bT,.x (.agg [(aA y100),(aA y101),(aA y102)]),.c (pB (!(su.contains y100))) [],bF]) (l:=[_,_,_,_,_,_,_]) (by kernel_rfl) (gc h5 (gc (aY h4) (gc (fk 2 (aHm y100 y101 y102 su h3) rfl) (gc (aV (i:=j) h2 h1) (gc (bI (i:=j) h2 h1) (gc (cJ (i:=(j:Int)) (kQ2 _) h1) (gc (aZ h0) gn)))))))
theorem aWz{su:List Int}{c:Lqq}{i j:Nat}(h0:(c.length:Int)≤(j:Int)):aC Tp 1 aBn (kI su c.length (c.flatten.map aA) i j) (.exit 0) (kI su c.length (c.flatten.map aA) i j):=by
 exact aC.fin (g:=⟨(rng [(2,2),(7,29)]),[],[],[]⟩) (o:=[bF]) (l:=[_]) (by kernel_rfl) (gc (bJ h0) gn)
abbrev bEh(dl:Int)(sk dc:Lqq)(fi:Int)(o:List Int):Prop:=∀ base:Nat,FV Tp 93 [.p (.agg (cF dl sk dc)),.p (aA fi),.fn 96 [] []] base (.tup [.p (aE o),.p (aA 0)]) []
end
end KV
end Go.Proofs
