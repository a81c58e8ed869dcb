/- Parts of the proof of JAnyOrder: laws of walks, contracts of functions, plain models. No condition. -/
import Derived.Lib.OwnBridge
import Derived.Shelf.Slices.Clone
import Derived.Shelf.Small.Bits
import Derived.Shelf.Small.Wraps
import Derived.Shelf.Strconv.Itoa0
import Derived.Shelf.Sort.Plain
import Derived.Shelf.Slices.Turned
import Derived.Ground.Names2Prog
import Derived.Shelf.Slices.CompactI
import Derived.Shelf.Slices.SearchI
import Derived.Shelf.Slices.Cells
import Derived.Shelf.Slices.In.SortNone
import Derived.Ground.SlgnProg
import Derived.Shelf.SlicesE.Clone
import Derived.Test.YtgejpbmanhlkcaaGreatProg
import Derived.Sort.OwnSortedInts
import Derived.OneCell
import Derived.Test.YtgejpbmanhlkcaaGreatPJAnyOrderD
set_option linter.unusedVariables false
set_option linter.unusedSimpArgs false
set_option maxRecDepth 100000
namespace Go.Proofs
namespace KV
section
variable {dl:Int}{sk dc:Lqq}

noncomputable abbrev nI:Code:=sub (cd Tryz.f129) [1,0,1,0,0]
noncomputable abbrev nJ:Code:=sub (cd Tryz.f54) [1,1,1,0,1,0,0]
theorem bFt:((-1:Int) == (-1:Int))=true:=by first | decide | simp
theorem aQd{q:List Int}{base:Nat}:FV Tp 132 [(.p (aG q))] base (.fn 182 [] [(.rp [(aG q)] 0)]) []:=by
 exact FV.fin Tryz.func132 rfl (o:=[.g 3 ⟨[],[],[0],[]⟩]) (l:=[]) (by kernel_rfl) (gn)
abbrev bFu(dl:Int)(sk dc:Lqq)(x:List Int)(r:Int):Prop:=∀ base:Nat,FV Tp 128 [pQ dl sk dc,.p (.agg (x.map aA))] base (pI r) []
theorem bTc{n dl:Int}{sk dc:Lqq}{bib tm y0 y1 y2 y3 y4 y5 r6:Int}{r0:Bool}(h0:cK .i64 (atF dc.reverse) (.int .i64 n))(h1:(dO (atF dc.reverse) (.int .i64 n))=true)(h2:fF (atF dc.reverse) (.int .i64 n)=some (dcE y0 y1 y2 y3 y4 y5))(h3:bFu dl sk dc [y0,y1,y2,y3,y4,y5] r6)(er0:r0=(r6 != bib)){base:Nat}:FV Tp 189 [(pI n),(.rp [(PV.rp (aH dl sk dc) 0)] 0),(.rp [(aA bib),(aA tm)] 0)] base (pB r0) []:=by
 subst er0;exact FV.fin Tryz.func189 rfl (o:=[.x (PV.rp (aH dl sk dc) 0),.x (PV.rp (aH dl sk dc) 0),.x (.mp (atF dc.reverse)),bT,.x (dcE y0 y1 y2 y3 y4 y5),.c (pI r6) [],.x (aA bib)]) (l:=[[(aA bib),(aA tm)][0]? = some (aA bib),FC Tp 128 [(.rp (aH dl sk dc) 0),(.p (dcE y0 y1 y2 y3 y4 y5))] [] 0 (pI r6) [],_,_,_,(aH dl sk dc)[3]? = some (.mp (atF dc.reverse)),[(PV.rp (aH dl sk dc) 0)][0]? = some (PV.rp (aH dl sk dc) 0),[(PV.rp (aH dl sk dc) 0)][0]? = some (PV.rp (aH dl sk dc) 0)]) (by kernel_rfl) (gc rfl (gc (FV.fc (h3 _) rfl) (gc h2 (gc h1 (gc h0 (gc rfl (gc rfl (gc rfl gn))))))))
theorem bTd{n m:Int}{r0:Bool}(er0:r0=(n == m)){base:Nat}:FV Tp 133 [(pI n),(.rp [(aA m)] 0)] base (pB r0) []:=by
 subst er0;exact FV.fin Tryz.func133 rfl (o:=[.x (aA m)]) (l:=[[(aA m)][0]? = some (aA m)]) (by kernel_rfl) (gc rfl gn)
abbrev bFv(dl:Int)(sk dc:Lqq):PV := .rp (aH dl sk dc) 0
abbrev aQe(dl:Int)(sk dc:Lqq)(bib tm n:Int)(b:Bool):Prop:=∀ base:Nat,FV Tp 189 [.p (aA n),.rp [bFv dl sk dc] 0,.rp [aA bib,aA tm] 0] base (pB b) []
theorem aIc(n m:Int){base:Nat}:FV Tp 133 [.p (aA n),.rp [aA m] 0] base (pB (n == m)) []:=bTd rfl
def fQ(l:List Int)(dl:Int)(sk:Lqq)(dc:Lqq)(bib:Int)(tm:Int)(i:Nat):St:=⟨fr 19 [(0,(.own 0)),(1,(.fn 189 [] [(.rp [(PV.rp (aH dl sk dc) 0)] 0),(.rp [(aA bib),(aA tm)] 0)])),(7,(pI (l.length:Int))),(8,(pI (i:Int)))],[some (.row 3 l.length (l.map aA))]⟩
theorem bLf{l:List Int}{dl:Int}{sk dc:Lqq}{bib tm:Int}{i'0:Nat}(hl0:aI Tp 1 nI (fQ l dl sk dc bib tm 0) (.exit 0) (fQ l dl sk dc bib tm i'0)):FMM Tp 129 [(.own 0),(.fn 189 [] [(.rp [(PV.rp (aH dl sk dc) 0)] 0),(.rp [(aA bib),(aA tm)] 0)])] [some (.row 3 l.length (l.map aA))] (pI (-1:Int)) [some (.row 3 l.length (l.map aA))]:=by
 exact FMM.fin (k:=1) (g:=⟨[],[],[],[]⟩) rfl Tryz.func129 rfl (o:=[.k 6 ⟨(rng [(2,5),(9,10)]),[],[],[]⟩ (.exit 0) (fQ l dl sk dc bib tm i'0)]) (l:=[_]) (by kernel_rfl) (gc hl0.code gn)
theorem bLg{l:List Int}{dl:Int}{sk dc:Lqq}{bib tm:Int}{i'0:Nat}(hl0:aI Tp 1 nI (fQ l dl sk dc bib tm 0) .ret (cF (fQ l dl sk dc bib tm i'0) [(4,(pI (i'0:Int)))])):FMM Tp 129 [(.own 0),(.fn 189 [] [(.rp [(PV.rp (aH dl sk dc) 0)] 0),(.rp [(aA bib),(aA tm)] 0)])] [some (.row 3 l.length (l.map aA))] (pI (i'0:Int)) [some (.row 3 l.length (l.map aA))]:=by
 exact FMM.fin (k:=1) (g:=⟨[],[],[],[]⟩) rfl Tryz.func129 rfl (o:=[.k 6 ⟨(rng [(2,5),(9,10)]),[],[],[]⟩ .ret (cF (fQ l dl sk dc bib tm i'0) [(4,(pI (i'0:Int)))])]) (l:=[_]) (by kernel_rfl) (gc hl0.code gn)
theorem aQf{l:List Int}{dl:Int}{sk dc:Lqq}{bib tm:Int}{i:Nat}{x100:Int}{b101:Bool}(h0:(i:Int)<(l.length:Int))(h1:l[i]? = some x100)(h2:aQe dl sk dc bib tm x100 b101)(h3:b101=true):aC Tp 1 nI (fQ l dl sk dc bib tm i) .ret (cF (fQ l dl sk dc bib tm i) [(4,(pI (i:Int)))]):=by
 exact aC.fin (g:=⟨(rng [(2,2),(5,2),(9,10)]),[],[],[]⟩) (o:=[bT,.x (aA x100),.c (pB b101) [],bT]) (l:=[_,FC Tp 189 [(pI x100),(.rp [(PV.rp (aH dl sk dc) 0)] 0),(.rp [(aA bib),(aA tm)] 0)] [] 1 (pB b101) [],_,_,_]) (by kernel_rfl) (gc h3 (gc (FV.fc (h2 _) rfl) (gc (atm aA h1) (gc (bP (i:=(i:Int)) (kQ2 _) h1) (gc (aY h0) gn)))))
theorem aQg{l:List Int}{dl:Int}{sk dc:Lqq}{bib tm:Int}{i:Nat}{x100:Int}{b101:Bool}{i':Nat}(h0:(i:Int)<(l.length:Int))(h1:l[i]? = some x100)(h2:aQe dl sk dc bib tm x100 b101)(h3:b101=false)(h4:inR (((i+1):Nat):Int))(ei':i'=(i+1)):aC Tp 1 nI (fQ l dl sk dc bib tm i) .normal (fQ l dl sk dc bib tm i'):=by
 subst ei';exact aC.fin (g:=⟨(rng [(2,5),(9,10)]),[],[],[]⟩) (o:=[bT,.x (aA x100),.c (pB b101) [],bF]) (l:=[_,_,FC Tp 189 [(pI x100),(.rp [(PV.rp (aH dl sk dc) 0)] 0),(.rp [(aA bib),(aA tm)] 0)] [] 1 (pB b101) [],_,_,_]) (by kernel_rfl) (gc h4 (gc h3 (gc (FV.fc (h2 _) rfl) (gc (atm aA h1) (gc (bP (i:=(i:Int)) (kQ2 _) h1) (gc (aY h0) gn))))))
theorem aQh{l:List Int}{dl:Int}{sk dc:Lqq}{bib tm:Int}{i:Nat}(h0:(l.length:Int)≤(i:Int)):aC Tp 1 nI (fQ l dl sk dc bib tm i) (.exit 0) (fQ l dl sk dc bib tm i):=by
 exact aC.fin (g:=⟨(rng [(2,5),(9,10)]),[],[],[]⟩) (o:=[bF]) (l:=[_]) (by kernel_rfl) (gc (bG h0) gn)
abbrev bLh(l:List Int)(dl:Int)(sk:Lqq)(dc:Lqq)(bib:Int)(tm:Int)(i:Int):Prop:=FMM Tp 129 [.own 0,(.fn 189 [] [(.rp [(PV.rp (aH dl sk dc) 0)] 0),(.rp [(aA bib),(aA tm)] 0)])] [some (.row 3 l.length (l.map aA))] (pI i) [some (.row 3 l.length (l.map aA))]
def kI(dl:Int)(sk:Lqq)(dc:Lqq)(bib:Int)(tm:Int)(cn:Nat)(cc:List PV)(i:Nat)(j:Nat):St:=⟨fr 42 [(0,(.own 0)),(1,(.fn 189 [] [(.rp [(PV.rp (aH dl sk dc) 0)] 0),(.rp [(aA bib),(aA tm)] 0)])),(4,(.p bW)),(5,(pI (i:Int))),(6,(pI (j:Int)))],[some (.row 3 cn cc)]⟩
theorem bTe{l:List Int}{dl:Int}{sk dc:Lqq}{bib tm:Int}{i0:Nat}{c'1:List Int}{i'2 j'3:Nat}{r0c:List PV}(h0:bLh l dl sk dc bib tm (i0:Int))(h1:(i0:Int)≠(-1:Int))(h2:inR (((i0+1):Nat):Int))(hl3:aI Tp 1 nJ (kI dl sk dc bib tm l.length (l.map aA) i0 (i0+1)) (.exit 0) (kI dl sk dc bib tm c'1.length (c'1.map aA) i'2 j'3))(h4:0≤(i'2:Int)∧(i'2:Int)≤(c'1.length:Int)∧(c'1.length:Int)≤(c'1.length:Int))(h5:(i'2*1)+(c'1.length-i'2)≤(c'1.map aA).length)(h6:0≤(0:Int)∧(0:Int)≤(i'2:Int)∧(i'2:Int)≤(c'1.length:Int))(er0c:r0c=((((c'1.map aA).take (i'2*1)++List.replicate (c'1.length-i'2) (PV.v (.int .i64 0))++(c'1.map aA).drop ((i'2*1)+(List.replicate (c'1.length-i'2) (PV.v (.int .i64 0))).length)).drop 0).take (i'2*(((c'1.map aA).take (i'2*1)++List.replicate (c'1.length-i'2) (PV.v (.int .i64 0))++(c'1.map aA).drop ((i'2*1)+(List.replicate (c'1.length-i'2) (PV.v (.int .i64 0))).length)).length / c'1.length)))):FMM Tp 54 [(.own 0),(.fn 189 [] [(.rp [(PV.rp (aH dl sk dc) 0)] 0),(.rp [(aA bib),(aA tm)] 0)])] [some (.row 3 l.length (l.map aA))] (.p (.sl i'2 r0c)) [some .dead]:=by
 subst er0c;exact FMM.fin (k:=1) (g:=⟨[],[],[0],[]⟩) rfl Tryz.func54 rfl (o:=[.c (pI (i0:Int)) [(0,(.row 3 l.length (l.map aA)))],bF,.k 4 ⟨(rng [(2,2),(7,29)]),[],[],[]⟩ (.exit 0) (kI dl sk dc bib tm c'1.length (c'1.map aA) i'2 j'3)]) (l:=[_,_,_,_,_,_,FC Tp 129 [(.own 0),(.fn 189 [] [(.rp [(PV.rp (aH dl sk dc) 0)] 0),(.rp [(aA bib),(aA tm)] 0)])] [(0,(.row 3 l.length (l.map aA)))] 1 (pI (i0:Int)) [(0,(.row 3 l.length (l.map aA)))]]) (by kernel_rfl) (gc h6 (gc h5 (gc h4 (gc hl3.code (gc h2 (gc (bI h1) (gc (FMM.fc (ids:=[0]) h0 (by kernel_rfl)) gn)))))))
theorem bTf{l:List Int}{dl:Int}{sk dc:Lqq}{bib tm:Int}(h0:bLh l dl sk dc bib tm (-1:Int)):FMM Tp 54 [(.own 0),(.fn 189 [] [(.rp [(PV.rp (aH dl sk dc) 0)] 0),(.rp [(aA bib),(aA tm)] 0)])] [some (.row 3 l.length (l.map aA))] (.p (aG l)) [some .dead]:=by
 exact FMM.fin (k:=1) (g:=⟨[],[],[0],[]⟩) rfl Tryz.func54 rfl (o:=[.c (pI (-1:Int)) [(0,(.row 3 l.length (l.map aA)))],bT]) (l:=[_,FC Tp 129 [(.own 0),(.fn 189 [] [(.rp [(PV.rp (aH dl sk dc) 0)] 0),(.rp [(aA bib),(aA tm)] 0)])] [(0,(.row 3 l.length (l.map aA)))] 1 (pI (-1:Int)) [(0,(.row 3 l.length (l.map aA)))]]) (by kernel_rfl) (gc bFt (gc (FMM.fc (ids:=[0]) h0 (by kernel_rfl)) gn))
theorem bAi{bib tm:Int}{c:List Int}{i j:Nat}{x100:Int}{b101:Bool}{x102:Int}{c':List Int}{i' j':Nat}(h0:(j:Int)<(c.length:Int))(h1:c[j]? = some x100)(h2:aQe dl sk dc bib tm x100 b101)(h3:b101=false)(h4:c[i]? = some x102)(h5:(i*1)<(c.map aA).length)(h6:inR (((i+1):Nat):Int))(h7:inR (((j+1):Nat):Int))(ec'n:c'.length=c.length)(ec'c:c'.map aA=((c.map aA).set (i*1) (aA x100)))(ei':i'=(i+1))(ej':j'=(j+1)):aC Tp 1 nJ (kI dl sk dc bib tm c.length (c.map aA) i j) .normal (kI dl sk dc bib tm c'.length (c'.map aA) i' j'):=by
 subst ei' ej';have raw:aC Tp 1 nJ (kI dl sk dc bib tm c.length (c.map aA) i j) .normal (kI dl sk dc bib tm c.length ((c.map aA).set (i*1) (aA x100)) (i+1) (j+1)):=aC.fin (g:=⟨(rng [(2,2),(7,29)]),[],[],[]⟩) (o:=[bT,.x (aA x100),.c (pB b101) [],bT]) (l:=[_,_,_,_,_,FC Tp 189 [(pI x100),(.rp [(PV.rp (aH dl sk dc) 0)] 0),(.rp [(aA bib),(aA tm)] 0)] [] 1 (pB b101) [],_,_,_]) (by kernel_rfl) (gc h7 (gc h6 (gc h5 (gc (bP (i:=(i:Int)) (kQ2 _) h4) (gc (bU h3) (gc (FV.fc (h2 _) rfl) (gc (atm aA h1) (gc (bP (i:=(j:Int)) (kQ2 _) h1) (gc (aY h0) gn)))))))))
 exact raw.cast (by rw [ec'n,ec'c])
theorem bAj{bib tm:Int}{c:List Int}{i j:Nat}{x100:Int}{b101:Bool}{j':Nat}(h0:(j:Int)<(c.length:Int))(h1:c[j]? = some x100)(h2:aQe dl sk dc bib tm x100 b101)(h3:b101=true)(h4:inR (((j+1):Nat):Int))(ej':j'=(j+1)):aC Tp 1 nJ (kI dl sk dc bib tm c.length (c.map aA) i j) .normal (kI dl sk dc bib tm c.length (c.map aA) i j'):=by
 subst ej';exact aC.fin (g:=⟨(rng [(2,2),(7,29)]),[],[],[]⟩) (o:=[bT,.x (aA x100),.c (pB b101) [],bF]) (l:=[_,_,FC Tp 189 [(pI x100),(.rp [(PV.rp (aH dl sk dc) 0)] 0),(.rp [(aA bib),(aA tm)] 0)] [] 1 (pB b101) [],_,_,_]) (by kernel_rfl) (gc h4 (gc (aV h3) (gc (FV.fc (h2 _) rfl) (gc (atm aA h1) (gc (bP (i:=(j:Int)) (kQ2 _) h1) (gc (aY h0) gn))))))
theorem bAk{bib tm:Int}{c:List Int}{i j:Nat}(h0:(c.length:Int)≤(j:Int)):aC Tp 1 nJ (kI dl sk dc bib tm c.length (c.map aA) i j) (.exit 0) (kI dl sk dc bib tm c.length (c.map aA) i j):=by
 exact aC.fin (g:=⟨(rng [(2,2),(7,29)]),[],[],[]⟩) (o:=[bF]) (l:=[_]) (by kernel_rfl) (gc (bG h0) gn)
def fR(l:List Int)(m:Int)(i:Nat):St:=⟨fr 19 [(0,(.own 0)),(1,(.fn 133 [] [(.rp [(aA m)] 0)])),(7,(pI (l.length:Int))),(8,(pI (i:Int)))],[some (.row 3 l.length (l.map aA))]⟩
theorem bLi{l:List Int}{m:Int}{i'0:Nat}(hl0:aI Tp 1 nI (fR l m 0) (.exit 0) (fR l m i'0)):FMM Tp 129 [(.own 0),(.fn 133 [] [(.rp [(aA m)] 0)])] [some (.row 3 l.length (l.map aA))] (pI (-1:Int)) [some (.row 3 l.length (l.map aA))]:=by
 exact FMM.fin (k:=1) (g:=⟨[],[],[],[]⟩) rfl Tryz.func129 rfl (o:=[.k 6 ⟨(rng [(2,5),(9,10)]),[],[],[]⟩ (.exit 0) (fR l m i'0)]) (l:=[_]) (by kernel_rfl) (gc hl0.code gn)
theorem bLj{l:List Int}{m:Int}{i'0:Nat}(hl0:aI Tp 1 nI (fR l m 0) .ret (cF (fR l m i'0) [(4,(pI (i'0:Int)))])):FMM Tp 129 [(.own 0),(.fn 133 [] [(.rp [(aA m)] 0)])] [some (.row 3 l.length (l.map aA))] (pI (i'0:Int)) [some (.row 3 l.length (l.map aA))]:=by
 exact FMM.fin (k:=1) (g:=⟨[],[],[],[]⟩) rfl Tryz.func129 rfl (o:=[.k 6 ⟨(rng [(2,5),(9,10)]),[],[],[]⟩ .ret (cF (fR l m i'0) [(4,(pI (i'0:Int)))])]) (l:=[_]) (by kernel_rfl) (gc hl0.code gn)
theorem aQi{l:List Int}{m:Int}{i:Nat}{x100:Int}(h0:(i:Int)<(l.length:Int))(h1:l[i]? = some x100)(h2:(x100 == m)=true):aC Tp 1 nI (fR l m i) .ret (cF (fR l m i) [(4,(pI (i:Int)))]):=by
 exact aC.fin (g:=⟨(rng [(2,2),(5,2),(9,10)]),[],[],[]⟩) (o:=[bT,.x (aA x100),.c (pB (x100 == m)) [],bT]) (l:=[_,_,_,_,_]) (by kernel_rfl) (gc h2 (gc (fk 1 (aIc x100 m) rfl) (gc (atm aA h1) (gc (bP (i:=(i:Int)) (kQ2 _) h1) (gc (aY h0) gn)))))
theorem aQj{l:List Int}{m:Int}{i:Nat}{x100:Int}{i':Nat}(h0:(i:Int)<(l.length:Int))(h1:l[i]? = some x100)(h2:(x100 == m)=false)(h3:inR (((i+1):Nat):Int))(ei':i'=(i+1)):aC Tp 1 nI (fR l m i) .normal (fR l m i'):=by
 subst ei';exact aC.fin (g:=⟨(rng [(2,5),(9,10)]),[],[],[]⟩) (o:=[bT,.x (aA x100),.c (pB (x100 == m)) [],bF]) (l:=[_,_,_,_,_,_]) (by kernel_rfl) (gc h3 (gc h2 (gc (fk 1 (aIc x100 m) rfl) (gc (atm aA h1) (gc (bP (i:=(i:Int)) (kQ2 _) h1) (gc (aY h0) gn))))))
theorem aQk{l:List Int}{m:Int}{i:Nat}(h0:(l.length:Int)≤(i:Int)):aC Tp 1 nI (fR l m i) (.exit 0) (fR l m i):=by
 exact aC.fin (g:=⟨(rng [(2,5),(9,10)]),[],[],[]⟩) (o:=[bF]) (l:=[_]) (by kernel_rfl) (gc (bG h0) gn)
abbrev bLk(l:List Int)(m:Int)(i:Int):Prop:=FMM Tp 129 [.own 0,(.fn 133 [] [(.rp [(aA m)] 0)])] [some (.row 3 l.length (l.map aA))] (pI i) [some (.row 3 l.length (l.map aA))]
def kJ(m:Int)(cn:Nat)(cc:List PV)(i:Nat)(j:Nat):St:=⟨fr 42 [(0,(.own 0)),(1,(.fn 133 [] [(.rp [(aA m)] 0)])),(4,(.p bW)),(5,(pI (i:Int))),(6,(pI (j:Int)))],[some (.row 3 cn cc)]⟩
theorem bTg{l:List Int}{m:Int}{i0:Nat}{c'1:List Int}{i'2 j'3:Nat}{r0c:List PV}(h0:bLk l m (i0:Int))(h1:(i0:Int)≠(-1:Int))(h2:inR (((i0+1):Nat):Int))(hl3:aI Tp 1 nJ (kJ m l.length (l.map aA) i0 (i0+1)) (.exit 0) (kJ m c'1.length (c'1.map aA) i'2 j'3))(h4:0≤(i'2:Int)∧(i'2:Int)≤(c'1.length:Int)∧(c'1.length:Int)≤(c'1.length:Int))(h5:(i'2*1)+(c'1.length-i'2)≤(c'1.map aA).length)(h6:0≤(0:Int)∧(0:Int)≤(i'2:Int)∧(i'2:Int)≤(c'1.length:Int))(er0c:r0c=((((c'1.map aA).take (i'2*1)++List.replicate (c'1.length-i'2) (PV.v (.int .i64 0))++(c'1.map aA).drop ((i'2*1)+(List.replicate (c'1.length-i'2) (PV.v (.int .i64 0))).length)).drop 0).take (i'2*(((c'1.map aA).take (i'2*1)++List.replicate (c'1.length-i'2) (PV.v (.int .i64 0))++(c'1.map aA).drop ((i'2*1)+(List.replicate (c'1.length-i'2) (PV.v (.int .i64 0))).length)).length / c'1.length)))):FMM Tp 54 [(.own 0),(.fn 133 [] [(.rp [(aA m)] 0)])] [some (.row 3 l.length (l.map aA))] (.p (.sl i'2 r0c)) [some .dead]:=by
 subst er0c;exact FMM.fin (k:=1) (g:=⟨[],[],[0],[]⟩) rfl Tryz.func54 rfl (o:=[.c (pI (i0:Int)) [(0,(.row 3 l.length (l.map aA)))],bF,.k 4 ⟨(rng [(2,2),(7,29)]),[],[],[]⟩ (.exit 0) (kJ m c'1.length (c'1.map aA) i'2 j'3)]) (l:=[_,_,_,_,_,_,FC Tp 129 [(.own 0),(.fn 133 [] [(.rp [(aA m)] 0)])] [(0,(.row 3 l.length (l.map aA)))] 1 (pI (i0:Int)) [(0,(.row 3 l.length (l.map aA)))]]) (by kernel_rfl) (gc h6 (gc h5 (gc h4 (gc hl3.code (gc h2 (gc (bI h1) (gc (FMM.fc (ids:=[0]) h0 (by kernel_rfl)) gn)))))))
theorem bTh{l:List Int}{m:Int}(h0:bLk l m (-1:Int)):FMM Tp 54 [(.own 0),(.fn 133 [] [(.rp [(aA m)] 0)])] [some (.row 3 l.length (l.map aA))] (.p (aG l)) [some .dead]:=by
 exact FMM.fin (k:=1) (g:=⟨[],[],[0],[]⟩) rfl Tryz.func54 rfl (o:=[.c (pI (-1:Int)) [(0,(.row 3 l.length (l.map aA)))],bT]) (l:=[_,FC Tp 129 [(.own 0),(.fn 133 [] [(.rp [(aA m)] 0)])] [(0,(.row 3 l.length (l.map aA)))] 1 (pI (-1:Int)) [(0,(.row 3 l.length (l.map aA)))]]) (by kernel_rfl) (gc bFt (gc (FMM.fc (ids:=[0]) h0 (by kernel_rfl)) gn))
theorem bAl{m:Int}{c:List Int}{i j:Nat}{x100 x101:Int}{c':List Int}{i' j':Nat}(h0:(j:Int)<(c.length:Int))(h1:c[j]? = some x100)(h2:(x100 == m)=false)(h3:c[i]? = some x101)(h4:(i*1)<(c.map aA).length)(h5:inR (((i+1):Nat):Int))(h6:inR (((j+1):Nat):Int))(ec'n:c'.length=c.length)(ec'c:c'.map aA=((c.map aA).set (i*1) (aA x100)))(ei':i'=(i+1))(ej':j'=(j+1)):aC Tp 1 nJ (kJ m c.length (c.map aA) i j) .normal (kJ m c'.length (c'.map aA) i' j'):=by
 subst ei' ej';have raw:aC Tp 1 nJ (kJ m c.length (c.map aA) i j) .normal (kJ m c.length ((c.map aA).set (i*1) (aA x100)) (i+1) (j+1)):=aC.fin (g:=⟨(rng [(2,2),(7,29)]),[],[],[]⟩) (o:=[bT,.x (aA x100),.c (pB (x100 == m)) [],bT]) (l:=[_,_,_,_,_,_,_,_,_]) (by kernel_rfl) (gc h6 (gc h5 (gc h4 (gc (bP (i:=(i:Int)) (kQ2 _) h3) (gc (bU h2) (gc (fk 1 (aIc x100 m) rfl) (gc (atm aA h1) (gc (bP (i:=(j:Int)) (kQ2 _) h1) (gc (aY h0) gn)))))))))
 exact raw.cast (by rw [ec'n,ec'c])
theorem bAm{m:Int}{c:List Int}{i j:Nat}{x100:Int}{j':Nat}(h0:(j:Int)<(c.length:Int))(h1:c[j]? = some x100)(h2:(x100 == m)=true)(h3:inR (((j+1):Nat):Int))(ej':j'=(j+1)):aC Tp 1 nJ (kJ m c.length (c.map aA) i j) .normal (kJ m c.length (c.map aA) i j'):=by
 subst ej';exact aC.fin (g:=⟨(rng [(2,2),(7,29)]),[],[],[]⟩) (o:=[bT,.x (aA x100),.c (pB (x100 == m)) [],bF]) (l:=[_,_,_,_,_,_]) (by kernel_rfl) (gc h3 (gc (aV h2) (gc (fk 1 (aIc x100 m) rfl) (gc (atm aA h1) (gc (bP (i:=(j:Int)) (kQ2 _) h1) (gc (aY h0) gn))))))
theorem bAn{m:Int}{c:List Int}{i j:Nat}(h0:(c.length:Int)≤(j:Int)):aC Tp 1 nJ (kJ m c.length (c.map aA) i j) (.exit 0) (kJ m c.length (c.map aA) i j):=by
 exact aC.fin (g:=⟨(rng [(2,2),(7,29)]),[],[],[]⟩) (o:=[bF]) (l:=[_]) (by kernel_rfl) (gc (bG h0) gn)
end
section
structure yR (p:Int→Bool) (l:List Int) (j:Nat) (x:List Int × Nat):Prop where
 len:x.1.length=l.length
 le:x.2<j
 kept:x.1.take x.2=(l.take j).filter fun n => !p n
 rest:x.1.drop j=l.drop j
theorem yR.skip{p:Int→Bool}{l:List Int}{j:Nat}{x:List Int × Nat}(h:yR p l j x)(hj:j<l.length){n:Int}(hn:x.1[j]? = some n)(hp:p n=true):yR p l (j+1) x:=by
 have hl:l[j]? = some n:=by
  have:=congrArg (·[0]?) h.rest
  simp only [List.getElem?_drop,Nat.add_zero] at this
  rw [← this];exact hn
 refine ⟨h.len,by have:=h.le;omega,?_,?_⟩
 ·rw [h.kept,List.take_add_one,hl]
  simp [rU,hp]
 ·rw [← List.drop_drop,h.rest,List.drop_drop]
theorem yR.keep{p:Int→Bool}{l:List Int}{j:Nat}{x:List Int × Nat}(h:yR p l j x)(hj:j<l.length){n:Int}(hn:x.1[j]? = some n)(hp:p n=false):yR p l (j+1) (x.1.set x.2 n,x.2+1):=by
 have hl:l[j]? = some n:=by
  have:=congrArg (·[0]?) h.rest
  simp only [List.getElem?_drop,Nat.add_zero] at this
  rw [← this];exact hn
 have hle:=h.le;have hlen:=h.len;refine ⟨by simp [h.len],by simpa using hle,?_,?_⟩
 ·show (x.1.set x.2 n).take (x.2+1)=_
  rw [List.take_add_one,List.take_set_of_le (dU _),h.kept,bHr (by omega),List.take_add_one,hl]
  simp [rU,hp]
 ·show (x.1.set x.2 n).drop (j+1)=_
  rw [List.drop_set_of_lt (by omega),← List.drop_drop,h.rest,List.drop_drop]
theorem yR.start{p:Int→Bool}{l:List Int}{i:Nat}{n:Int}(hi:l[i]? = some n)(hp:p n=true)(hb:∀ m∈l.take i,p m=false):yR p l (i+1) (l,i):=by
 refine ⟨rfl,Nat.lt_succ_self _,?_,rfl⟩;show l.take i=_;rw [List.take_add_one,hi];simp only [rU];rw [List.filter_eq_self.2 fun m hm=>by simp [hb m hm]]
 simp [hp]
theorem yH{p:Int→Bool}{l:List Int}{i:Nat}(h:l.findIdx? p=some i):∀ m∈l.take i,p m=false:=fun m hm=>by
 obtain ⟨hi,h1,h2⟩:=List.findIdx?_eq_some_iff_getElem.1 h;obtain ⟨j,hj,rfl⟩:=List.getElem_of_mem hm;rw [List.getElem_take];rw [mX] at hj
 have:=h2 j (by omega)
 simpa using this

theorem bLd{l:List Int}{dl:Int}{sk dc:Lqq}{bib tm:Int}(hl:l.length≤1000){p:Int→Bool}(hp:∀ n∈l,aQe dl sk dc bib tm n (p n)) :
  (∃ i n,l[i]? = some n∧l.findIdx? p=some i∧p n=true∧bLh l dl sk dc bib tm (i:Int))∨(l.any p=false∧bLh l dl sk dc bib tm (-1)):=by
 rcases aI.find (P:=Tp) (k:=1) (b:=(sub (cd Tryz.f129) [1,0,1,0,0])) (fun i=>fQ l dl sk dc bib tm i) (fun i _=>cF (fQ l dl sk dc bib tm i) [(4,.p (aA (i:Int)))]) (fQ l dl sk dc bib tm l.length) .ret (.exit 0) (by simp) (by simp) p l
  (fun i x hx hq=>aQg (by have:=bC hx;omega) hx (hp x (kQ5 hx)) hq (aO (by have:=bC hx;omega)) rfl)
  (fun i x hx hq=>aQf (by have:=bC hx;omega) hx (hp x (kQ5 hx)) hq)
  (aQh (by omega)) with ⟨i,x,h1,h2,h3,h4⟩ | ⟨h1,h2,h3⟩
 ·exact .inl ⟨i,x,h1,h2,h3,bLg h4⟩
 ·exact .inr ⟨h2,bLf h3⟩
theorem bTb{l:List Int}{dl:Int}{sk dc:Lqq}{bib tm:Int}(hl:l.length≤1000){p:Int→Bool}(hp:∀ n∈l,aQe dl sk dc bib tm n (p n)) :
  FMM Tp 54 [.own 0,.fn 189 [] [.rp [bFv dl sk dc] 0,.rp [aA bib,aA tm] 0]] [some (.row 3 l.length (l.map aA))] (.p (aG (l.filter fun n => !p n))) [some .dead]:=by
 rcases bLd hl hp with ⟨i,n,h1,h2,h3,h4⟩ | ⟨h1,h2⟩
 ·have hi:=bC h1
  obtain ⟨d,hm⟩:∃ d,i+1+d=l.length:=⟨l.length-(i+1),by omega⟩
  obtain ⟨⟨c,k⟩,hI,hL⟩:=aI.ex (P:=Tp) (k:=1) (b:=(sub (cd Tryz.f54) [1,1,1,0,1,0,0])) (e := .exit 0) (fun j (x:List Int × Nat)=>kI dl sk dc bib tm x.1.length (x.1.map aA) x.2 (i+1+j)) (fun x=>kI dl sk dc bib tm x.1.length (x.1.map aA) x.2 l.length) (fun j x=>yR p l (i+1+j) x∧∀ n∈x.1,n∈l) (by simp) d
   (fun j x hj hx=>by
    obtain ⟨hI,hs⟩:=hx;have hlt:i+1+j<x.1.length:=by rw [hI.len];omega
    have hle:=hI.le;have hlen:=hI.len;obtain ⟨y,hy⟩:∃ y,x.1[i+1+j]? = some y:=⟨_,kQ0 hlt⟩;have hyl:=hs y (kQ5 hy);cases hq:p y with
    | true=>exact ⟨x,⟨hI.skip (by omega) hy hq,hs⟩,bAj (by omega) hy (hp y hyl) hq (aO (by omega)) rfl⟩
    | false =>
     obtain ⟨z,hz⟩:∃ z,x.1[x.2]? = some z:=⟨_,kQ0 (by omega)⟩
     refine ⟨_,⟨hI.keep (by omega) hy hq,fun n hn => ?_⟩,bAi (c:=x.1) (c':=x.1.set x.2 y) (by omega) hy (hp y hyl) hq hz (by rw [kQ9];omega) (aO (by omega)) (aO (by omega)) (by simp) (by rw [List.map_set,Nat.mul_one]) rfl rfl⟩
     rcases List.mem_or_eq_of_mem_set hn with h | rfl
     ·exact hs n h
     ·exact hyl)
   (fun x hx=>by
    have:=bAk (dl:=dl) (sk:=sk) (dc:=dc) (bib:=bib) (tm:=tm) (c:=x.1) (i:=x.2) (j:=l.length) (by rw [hx.1.len];omega)
    rw [show i+1+d=l.length from hm];exact this)
   (acc:=(l,i)) ⟨yR.start h1 h3 (yH h2),fun n h=>h⟩
  obtain ⟨hI,_⟩:=hI;have hlen:=hI.len;have hle:=hI.le;have hk:=hI.kept;simp only [hm,List.take_length] at hlen hle hk
  have fin:=bTe (l:=l) (c'1:=c) (i'2:=k) (j'3:=l.length) (r0c:=(c.take k).map aA) h4 (by omega) (aO (by omega)) hL ⟨by omega,by omega,by omega⟩ (by rw [kQ9];omega) ⟨by omega,by omega,by omega⟩ (by
   rw [List.drop_zero,Nat.mul_one,List.length_replicate];have hL2:(((c.map aA).take k)++List.replicate (c.length-k) (PV.v (.int .i64 0))++(c.map aA).drop (k+(c.length-k))).length=c.length:=by
    simp only [mD,mX,kQ9,List.length_replicate,bHu];omega
   rw [hL2,Nat.div_self (by omega),Nat.mul_one,List.append_assoc,List.take_append_of_le_length (by rw [mX,kQ9];omega),List.take_take,Nat.min_self,List.map_take])
  rw [← hk];have e:aG (c.take k) = .sl k ((c.take k).map aA):=by
   show PV.sl (c.take k).length _=_;rw [mX,Nat.min_eq_left (by omega)]
  rw [e];exact fin
 ·have:(l.filter fun n => !p n)=l:=List.filter_eq_self.2 fun n hn=>by
   have:=List.any_eq_false.1 h1 n hn;simpa using this
  rw [this];exact bTf h2

theorem bLe{l:List Int}{m:Int}(hl:l.length≤1000){p:Int→Bool}(hp:∀ n∈l,p n=(n == m)) :
  (∃ i n,l[i]? = some n∧l.findIdx? p=some i∧p n=true∧bLk l m (i:Int))∨(l.any p=false∧bLk l m (-1)):=by
 rcases aI.find (P:=Tp) (k:=1) (b:=(sub (cd Tryz.f129) [1,0,1,0,0])) (fun i=>fR l m i) (fun i _=>cF (fR l m i) [(4,.p (aA (i:Int)))]) (fR l m l.length) .ret (.exit 0) (by simp) (by simp) p l
  (fun i x hx hq=>aQj (by have:=bC hx;omega) hx (by rw [← hp x (kQ5 hx)];exact hq) (aO (by have:=bC hx;omega)) rfl)
  (fun i x hx hq=>aQi (by have:=bC hx;omega) hx (by rw [← hp x (kQ5 hx)];exact hq))
  (aQk (by omega)) with ⟨i,x,h1,h2,h3,h4⟩ | ⟨h1,h2,h3⟩
 ·exact .inl ⟨i,x,h1,h2,h3,bLj h4⟩
 ·exact .inr ⟨h2,bLi h3⟩
theorem bFs{l:List Int}{m:Int}(hl:l.length≤1000){p:Int→Bool}(hp:∀ n∈l,p n=(n == m)) :
  FMM Tp 54 [.own 0,.fn 133 [] [.rp [aA m] 0]] [some (.row 3 l.length (l.map aA))] (.p (aG (l.filter fun n => !p n))) [some .dead]:=by
 rcases bLe hl hp with ⟨i,n,h1,h2,h3,h4⟩ | ⟨h1,h2⟩
 ·have hi:=bC h1
  obtain ⟨d,hm⟩:∃ d,i+1+d=l.length:=⟨l.length-(i+1),by omega⟩
  obtain ⟨⟨c,k⟩,hI,hL⟩:=aI.ex (P:=Tp) (k:=1) (b:=(sub (cd Tryz.f54) [1,1,1,0,1,0,0])) (e := .exit 0) (fun j (x:List Int × Nat)=>kJ m x.1.length (x.1.map aA) x.2 (i+1+j)) (fun x=>kJ m x.1.length (x.1.map aA) x.2 l.length) (fun j x=>yR p l (i+1+j) x∧∀ n∈x.1,n∈l) (by simp) d
   (fun j x hj hx=>by
    obtain ⟨hI,hs⟩:=hx;have hlt:i+1+j<x.1.length:=by rw [hI.len];omega
    have hle:=hI.le;have hlen:=hI.len;obtain ⟨y,hy⟩:∃ y,x.1[i+1+j]? = some y:=⟨_,kQ0 hlt⟩;have hyl:=hs y (kQ5 hy);cases hq:p y with
    | true=>exact ⟨x,⟨hI.skip (by omega) hy hq,hs⟩,bAm (by omega) hy (by rw [← hp y hyl];exact hq) (aO (by omega)) rfl⟩
    | false =>
     obtain ⟨z,hz⟩:∃ z,x.1[x.2]? = some z:=⟨_,kQ0 (by omega)⟩
     refine ⟨_,⟨hI.keep (by omega) hy hq,fun n hn => ?_⟩,bAl (c:=x.1) (c':=x.1.set x.2 y) (by omega) hy (by rw [← hp y hyl];exact hq) hz (by rw [kQ9];omega) (aO (by omega)) (aO (by omega)) (by simp) (by rw [List.map_set,Nat.mul_one]) rfl rfl⟩
     rcases List.mem_or_eq_of_mem_set hn with h | rfl
     ·exact hs n h
     ·exact hyl)
   (fun x hx=>by
    have:=bAn (m:=m) (c:=x.1) (i:=x.2) (j:=l.length) (by rw [hx.1.len];omega)
    rw [show i+1+d=l.length from hm];exact this)
   (acc:=(l,i)) ⟨yR.start h1 h3 (yH h2),fun n h=>h⟩
  obtain ⟨hI,_⟩:=hI;have hlen:=hI.len;have hle:=hI.le;have hk:=hI.kept;simp only [hm,List.take_length] at hlen hle hk
  have fin:=bTg (l:=l) (c'1:=c) (i'2:=k) (j'3:=l.length) (r0c:=(c.take k).map aA) h4 (by omega) (aO (by omega)) hL ⟨by omega,by omega,by omega⟩ (by rw [kQ9];omega) ⟨by omega,by omega,by omega⟩ (by
   rw [List.drop_zero,Nat.mul_one,List.length_replicate];have hL2:(((c.map aA).take k)++List.replicate (c.length-k) (PV.v (.int .i64 0))++(c.map aA).drop (k+(c.length-k))).length=c.length:=by
    simp only [mD,mX,kQ9,List.length_replicate,bHu];omega
   rw [hL2,Nat.div_self (by omega),Nat.mul_one,List.append_assoc,List.take_append_of_le_length (by rw [mX,kQ9];omega),List.take_take,Nat.min_self,List.map_take])
  rw [← hk];have e:aG (c.take k) = .sl k ((c.take k).map aA):=by
   show PV.sl (c.take k).length _=_;rw [mX,Nat.min_eq_left (by omega)]
  rw [e];exact fin
 ·have:(l.filter fun n => !p n)=l:=List.filter_eq_self.2 fun n hn=>by
   have:=List.any_eq_false.1 h1 n hn;simpa using this
  rw [this];exact bTh h2
end
section
open Go.RowKit Go.Lib Go.Shelf
theorem bSz{n:Nat}{x:PV}{r:List PV}{r0n:Nat}{r0c:List PV}(h0:(x::r).length=n*1∧0+n≤1000000)(er0n:r0n=(0+n))(er0c:r0c=(x::r)){base:Nat}:FV Tp 55 [(.p (.sl n (x::r)))] base (.own base) [(base,(.row 3 r0n r0c))]:=by
 subst er0n er0c;exact FV.fin Tryz.func55 rfl (o:=[]) (l:=[_]) (by kernel_rfl) (gc h0 gn)
set_option maxHeartbeats 1000000 in
theorem bLc(n c:Nat)(w:World):Calls Tp 55 #[.slice none n c] w fun e w'=>e = .returned (.slice none 0 0)∧w'=w:=by
 have q33:∀ (w:World) (a:Option Addr) (n c n' c':Nat),(binOp .eql 33 (.slice a n c) (.slice none n' c')).run Tp w = .ok (.bool a.isNone) w:=fun w a n c n' c'=>Lib.run_eql_slice_nil w _ _ a n c n' c' Tryz.underlying33
 go_enter Tryz.func55,Tryz.ntmps55
 go_wp2
 go_ret
 exact ⟨rfl,rfl⟩
theorem inf3:(Tryz.prog.info? 3).map (fun i=>(i.zero,i.size,i.bytes))=some (some (.int .i64 0),1,8):=by kernel_rfl
set_option maxHeartbeats 2000000 in
theorem bFr(a:Addr)(c:Nat)(w:World):Calls Tp 55 #[.slice (some a) 0 c] w fun e w'=>∃ v',e = .returned v'∧w'.ownsRow w.heap.size 3 1 v' 0 []∧Below w.heap.size w w':=by
 obtain ⟨i0,hi,hz0,hz1,hz2⟩:=info_parts inf3;have q33:∀ (w:World) (a:Option Addr) (n c n' c':Nat),(binOp .eql 33 (.slice a n c) (.slice none n' c')).run Tp w = .ok (.bool a.isNone) w:=fun w a n c n' c'=>Lib.run_eql_slice_nil w _ _ a n c n' c' Tryz.underlying33
 go_enter Tryz.func55,Tryz.ntmps55
 go_wp2_with (at_builtin;refine wpList_append_own _ rfl _ _ 33 rfl w.heap.size 3 i0 (.int .i64 0) 1 8 Tryz.underlying33 hi hz0 hz1 hz2 rfl (by decide) _ _ _ rfl (World.ownsRow_made w #[] 0 (dU _) (Nat.zero_le _) rfl) a 0 c [] rfl rfl (by intro j u hj;simp at hj) (by intro u hu;cases hu) (by unfold maxLen;omega) (by omega) (by simp) ?_)
 intro v' w1 hown hgrow hnil
 go_wp2
 go_ret
 refine ⟨v',rfl,by simpa using hown,?_⟩
 exact ((Below.refl _ w).alloc (dU _) _).grown hgrow (by simp) (by intro k hk;simp [Value.ownBlock] at hk;omega)
theorem bAh{base:Nat}:FV Tp 55 [.p (.sl 0 [])] base (.own base) [(base,.row 3 0 [])]:=aEw (oA (show (Tryz.prog.info? 3).map (fun i=>i.size)=some 1 by kernel_rfl)) fun p c w=>by
 cases p with
 | none =>
  refine (bLc 0 c w).mono ?_;rintro e w' ⟨rfl,rfl⟩;exact ⟨_,rfl,World.ownsRow_nil _ _ _ _,Below.refl _ _⟩
 | some a=>exact bFr a c w
theorem bTa(l:List Int)(hl:l.length≤1000){base:Nat}:FV Tp 55 [.p (aG l)] base (.own base) [(base,.row 3 l.length (l.map aA))]:=by
 cases l with
 | nil=>exact bAh
 | cons x l=>exact bSz (n:=(x::l).length) (x:=aA x) (r:=l.map aA) ⟨by simp,by simp at hl ⊢;omega⟩ (by simp) rfl
end
section
variable {dl:Int}{sk dc:Lqq}

theorem aHz:0≤(1:Int)∧(1:Int)<2:=by first | decide | simp
theorem aIa:0≤(0:Int)∧(0:Int)<2:=by first | decide | simp
abbrev bVy(l:List Int)(dl:Int)(sk dc:Lqq)(bib tm:Int)(o:List Int):Prop:=FMM Tp 54 [.own 0,.fn 189 [] [.rp [bFv dl sk dc] 0,.rp [aA bib,aA tm] 0]] [some (.row 3 l.length (l.map aA))] (.p (aG o)) [some .dead]
def chE(x:Int × Bool × List Int):List PV:=[aA x.1,blP x.2.1,aG x.2.2]
def lY(dl:Int)(sk:Lqq)(dc:Lqq)(aln:Nat)(alc:List PV)(i:Nat):St:=⟨fr 77 [(1,(.rp [(PV.rp (aH dl sk dc) 0)] 0)),(2,(.p bW)),(3,(pI 0)),(4,(.p (aG (aP dl dc)))),(5,(.own 0)),(22,(.p (fS sk))),(23,(pI (sk.length:Int))),(24,(pI (i:Int)))],[some (.row 195 aln alc)]⟩
theorem bSy{al'0n:Nat}{al'0c:List PV}{i'1:Nat}(h0:cI dc)(h1:(((aP dl dc).length:Nat):Int)≤8)(hl2:aI Tp 0 (sub (cd Tryz.f161) [1,1,1,1,0,1,0,0]) (lY dl sk dc 0 [] 0) (.exit 0) (lY dl sk dc al'0n al'0c i'1)){base:Nat}:FV Tp 161 [(.rp (aH dl sk dc) 0)] base (.tup [(.own base),(pI 0)]) [(base,(.row 195 al'0n al'0c))]:=by
 exact FV.fin Tryz.func161 rfl (o:=[.g 3 ⟨[],[],[0],[]⟩,.x (PV.rp (aH dl sk dc) 0),.c (.own 0) [(0,(.row 3 ((aP dl dc).length) ((aP dl dc).map aA)))],.g 2 ⟨[],[],[0],[]⟩,bF,.x (PV.rp (aH dl sk dc) 0),.x (fS sk),.k 1 ⟨(rng [(0,1),(6,16),(25,51)]),[0],[],[(5,195)]⟩ (.exit 0) (lY dl sk dc al'0n al'0c i'1)]) (l:=[_,(aH dl sk dc)[1]? = some (fS sk),[(PV.rp (aH dl sk dc) 0)][0]? = some (PV.rp (aH dl sk dc) 0),_,_,[(PV.rp (aH dl sk dc) 0)][0]? = some (PV.rp (aH dl sk dc) 0)]) (by kernel_rfl) (gc hl2.code (gc rfl (gc rfl (gc (bG h1) (gc (fk 0 (qR (dl:=dl) (sk:=sk) (dc:=dc) h0) rfl) (gc rfl gn))))))
def wU(dl:Int)(sk:Lqq)(dc:Lqq)(aln:Nat)(alc:List PV)(i:Nat)(y100:Int)(y101:Int)(o102:List Int)(chn:Nat)(chc:List PV)(mn:Int)(mx:Int):St:=⟨fr 77 [(1,(.rp [(PV.rp (aH dl sk dc) 0)] 0)),(2,(.p bW)),(3,(pI 0)),(4,(.p (aG (aP dl dc)))),(5,(.own 0)),(7,(.rp [(aA y100),(aA y101)] 0)),(8,(.p (aG o102))),(9,(.ptr 2 0)),(22,(.p (fS sk))),(23,(pI (sk.length:Int))),(24,(pI (i:Int))),(25,(pB (decide ((i:Int)<(sk.length:Int))))),(26,(.rp (sk.flatten.map aA) (i*2))),(27,(.p (.agg [(aA y100),(aA y101)]))),(28,(.p (aG (aP dl dc)))),(29,(.own 1)),(30,(.fn 189 [] [(.rp [(PV.rp (aH dl sk dc) 0)] 0),(.rp [(aA y100),(aA y101)] 0)])),(31,(.p (aG o102))),(32,(.p (.agg [(aA 1099511627776),(aA 0)]))),(33,(.p (.agg [bW,(aA 1099511627776),(aA 0)]))),(34,(.p (aG o102))),(35,(.fn 182 [] [(.rp [(aG o102)] 0)]))],[some (.row 195 aln alc),some .dead,some (.box 195 [(.own 3),(pI mn),(pI mx)]),some (.row 197 chn chc)]⟩
def aIb(dl:Int)(sk:Lqq)(dc:Lqq)(aln:Nat)(alc:List PV)(i:Nat)(y100:Int)(y101:Int)(o102:List Int):St:=⟨fr 77 [(1,(.rp [(PV.rp (aH dl sk dc) 0)] 0)),(2,(.p bW)),(3,(pI 0)),(4,(.p (aG (aP dl dc)))),(5,(.own 0)),(7,(.rp [(aA y100),(aA y101)] 0)),(8,(.p (aG o102))),(9,(.ptr 2 0)),(22,(.p (fS sk))),(23,(pI (sk.length:Int))),(24,(pI (i:Int))),(25,(pB (decide ((i:Int)<(sk.length:Int))))),(26,(.rp (sk.flatten.map aA) (i*2))),(27,(.p (.agg [(aA y100),(aA y101)]))),(28,(.p (aG (aP dl dc)))),(29,(.own 1)),(30,(.fn 189 [] [(.rp [(PV.rp (aH dl sk dc) 0)] 0),(.rp [(aA y100),(aA y101)] 0)])),(31,(.p (aG o102))),(32,(.p (.agg [(aA 1099511627776),(aA 0)]))),(33,(.p (.agg [bW,(aA 1099511627776),(aA 0)]))),(34,(.p (aG o102))),(35,(.fn 182 [] [(.rp [(aG o102)] 0)]))],[some (.row 195 aln alc),some .dead,some (.box 195 [(.p bW),(pI 1099511627776),(pI 0)])]⟩
theorem bAd{aln:Nat}{alc:List PV}{i:Nat}{y100 y101:Int}{o102:List Int}{ch'103n:Nat}{ch'103c:List PV}{mn'104 mx'105:Int}{al'n:Nat}{al'c:List PV}{i':Nat}(h0:(i:Int)<(sk.length:Int))(h1:sk[i]? = some [y100,y101])(h2:uni 2 sk)(h3:(aP dl dc).length≤1000)(h4:bVy (aP dl dc) dl sk dc y100 y101 o102)(hl5:aC Tp 0 (sub (cd Tryz.f161) [1,1,1,1,0,1,0,0,1,1,0,0,1,1,1,0,1,0]) (aIb dl sk dc aln alc i y100 y101 o102) .normal (wU dl sk dc aln alc i y100 y101 o102 ch'103n ch'103c mn'104 mx'105))(h6:[(.sl ch'103n ch'103c),(aA mn'104),(aA mx'105)].length=1*3∧aln+1≤1000000)(h7:inR (((i+1):Nat):Int))(eal'n:al'n=(aln+1))(eal'c:al'c=(alc++[(.sl ch'103n ch'103c),(aA mn'104),(aA mx'105)]))(ei':i'=(i+1)):aC Tp 0 (sub (cd Tryz.f161) [1,1,1,1,0,1,0,0]) (lY dl sk dc aln alc i) .normal (lY dl sk dc al'n al'c i'):=by
 subst eal'n eal'c ei';exact aC.fin (g:=⟨(rng [(0,1),(6,16),(25,51)]),[3],[],[]⟩) (o:=[bT,.x (.agg [(aA y100),(aA y101)]),.g 1 ⟨[],[0],[1],[]⟩,.c (.own 1) [(1,(.row 3 ((aP dl dc).length) ((aP dl dc).map aA)))],.c (.p (aG o102)) [(1,.dead)],.c (.fn 182 [] [(.rp [(aG o102)] 0)]) [],.k 1 ⟨(rng [(0,1),(6,1),(10,12),(36,35)]),[0,1,2],[],[]⟩ .normal (wU dl sk dc aln alc i y100 y101 o102 ch'103n ch'103c mn'104 mx'105),.g 0 ⟨[29],[0,2],[3],[]⟩]) (l:=[_,_,[(.sl ch'103n ch'103c),(aA mn'104),(aA mx'105)].length=3,aC Tp 0 (sub (cd Tryz.f161) [1,1,1,1,0,1,0,0,1,1,0,0,1,1,1,0,1,0]) (aIb dl sk dc aln alc i y100 y101 o102) .normal (wU dl sk dc aln alc i y100 y101 o102 ch'103n ch'103c mn'104 mx'105),FC Tp 132 [(.p (aG o102))] [] 3 (.fn 182 [] [(.rp [(aG o102)] 0)]) [],FC Tp 54 [(.own 1),(.fn 189 [] [(.rp [(PV.rp (aH dl sk dc) 0)] 0),(.rp [(aA y100),(aA y101)] 0)])] [(1,(.row 3 ((aP dl dc).length) ((aP dl dc).map aA)))] 2 (.p (aG o102)) [(1,.dead)],_,_,_,0≤(i:Int)∧(i:Int)<(sk.length:Int)∧(i*2)<(sk.flatten.map aA).length,_]) (by kernel_rfl) (gc h7 (gc h6 (gc (by first | decide | simp) (gc hl5 (gc (FV.fc (aQd (q:=o102)) rfl) (gc (FMM.fc (ids:=[1]) h4 (by kernel_rfl)) (gc (fk 1 (bTa (aP dl dc) h3) rfl) (gc (aS (i:=i) h2 h1) (gc (bH (i:=i) h2 h1) (gc (bR (k:=2) (i:=(i:Int)) (by decide) h2 (kQ2 _) h1) (gc (aY h0) gn)))))))))))
theorem bAe{aln:Nat}{alc:List PV}{i:Nat}(h0:(sk.length:Int)≤(i:Int)):aC Tp 0 (sub (cd Tryz.f161) [1,1,1,1,0,1,0,0]) (lY dl sk dc aln alc i) (.exit 0) (lY dl sk dc aln alc i):=by
 exact aC.fin (g:=⟨(rng [(0,1),(6,16),(25,51)]),[0],[],[]⟩) (o:=[bF]) (l:=[_]) (by kernel_rfl) (gc (bG h0) gn)
def aQc(dl:Int)(sk:Lqq)(dc:Lqq)(aln:Nat)(alc:List PV)(i:Nat)(y100:Int)(y101:Int)(o102:List Int)(chn:Nat)(chc:List PV)(mn:Int)(mx:Int):St:=⟨fr 77 [(1,(.rp [(PV.rp (aH dl sk dc) 0)] 0)),(2,(.p bW)),(3,(pI 0)),(4,(.p (aG (aP dl dc)))),(5,(.own 0)),(7,(.rp [(aA y100),(aA y101)] 0)),(8,(.p (aG o102))),(9,(.ptr 2 0)),(22,(.p (fS sk))),(23,(pI (sk.length:Int))),(24,(pI (i:Int))),(25,(pB (decide ((i:Int)<(sk.length:Int))))),(26,(.rp (sk.flatten.map aA) (i*2))),(27,(.p (.agg [(aA y100),(aA y101)]))),(28,(.p (aG (aP dl dc)))),(30,(.fn 189 [] [(.rp [(PV.rp (aH dl sk dc) 0)] 0),(.rp [(aA y100),(aA y101)] 0)])),(31,(.p (aG o102))),(32,(.p (.agg [(aA 1099511627776),(aA 0)]))),(33,(.p (.agg [bW,(aA 1099511627776),(aA 0)]))),(34,(.p (aG o102))),(35,(.fn 182 [] [(.rp [(aG o102)] 0)]))],[some (.row 195 aln alc),some .dead,some (.box 195 [(.own 5),(pI mn),(pI mx)]),some .dead,some .dead,some (.row 197 chn chc)]⟩
theorem bAf{aln:Nat}{alc:List PV}{i:Nat}{y100 y101:Int}{o102:List Int}{chn:Nat}{chc:List PV}{mn mx:Int}{x:List Int}{n200:Int}{b201:Bool}{T202:Lqb}{ch'n:Nat}{ch'c:List PV}{mn' mx':Int}(h0:aDd dl sk dc (aG x) [y100,y101] n200 b201 ([]:Lqb) T202)(h1:b201=true)(h2:[(aA 1099511627776),(blP b201),(aG x)].length=1*3∧chn+1≤1000000)(h3:([(1099511627776:Int)]:List Int).length≤1000)(ech'n:ch'n=(chn+1))(ech'c:ch'c=(chc++[(aA 1099511627776),(blP b201),(aG x)]))(emn':mn'=(if (1099511627776:Int)<mn then (1099511627776:Int) else mn))(emx':mx'=(yP mx ([(1099511627776:Int)]:List Int))):aC Tp 5 (sub (cd Tryz.f161) [1,1,1,1,0,1,0,0,1,1,0,0,1,1,1,0,1,0,1]) (rfO (wU dl sk dc aln alc i y100 y101 o102 chn chc mn mx) 36 10 x) .normal (aQc dl sk dc aln alc i y100 y101 o102 ch'n ch'c mn' mx'):=by
 subst ech'n ech'c emn' emx'
 exact aC.fin (g:=⟨(rng [(0,1),(6,1),(10,12),(36,35)]),[13],[],[]⟩) (o:=[.g 2 ⟨[29],[],[4],[]⟩,.x (PV.rp (aH dl sk dc) 0),.x (.agg [(aA y100),(aA y101)]),.x (PV.rp (aH dl sk dc) 0),.c (.agg (kVL 9 10 5 7 11 6)) [(5,(vB0 dl sk dc)),(6,(.box 33 [(.p (aG x))])),(7,(.box 139 (kVL 9 10 5 7 11 6))),(8,(.mp (aE ([]:Lqb)) 0)),(9,(.box 207 [(.mp 8)])),(10,(vB5 dl sk dc)),(11,(.box 209 [(.fn 153 [] [(.ptr 5 0),(.ptr 7 0)])]))],.c (.tup [(pI n200),(pB b201)]) [(5,(vB0 dl sk dc)),(6,(.box 33 [(.p (aG x))])),(7,(.box 139 (kVL 9 10 5 7 11 6))),(8,(.mp (aE T202) T202.length)),(9,(.box 207 [(.mp 8)])),(10,(vB5 dl sk dc)),(11,(.box 209 [(.fn 153 [] [(.ptr 5 0),(.ptr 7 0)])]))],bT,.c (pI (yP mx ([(1099511627776:Int)]:List Int))) []]) (l:=[_,_,FC Tp 184 [(pI mx),(.own 15)] [(15,(.row 3 1 [(aA 1099511627776)]))] 16 (pI (yP mx ([(1099511627776:Int)]:List Int))) [],_,_,_,[(aA 1099511627776),(blP b201),(aG x)].length=3,_,FC Tp 134 [(.rp (aH dl sk dc) 0),(.p (.agg [(aA y100),(aA y101)])),(.agg (kVL 9 10 5 7 11 6))] [(9,(.box 207 [(.mp 8)])),(10,(vB5 dl sk dc)),(5,(vB0 dl sk dc)),(7,(.box 139 (kVL 9 10 5 7 11 6))),(11,(.box 209 [(.fn 153 [] [(.ptr 5 0),(.ptr 7 0)])])),(6,(.box 33 [(.p (aG x))])),(8,(.mp (aE ([]:Lqb)) 0))] 13 (.tup [(pI n200),(pB b201)]) [(5,(vB0 dl sk dc)),(6,(.box 33 [(.p (aG x))])),(7,(.box 139 (kVL 9 10 5 7 11 6))),(8,(.mp (aE T202) T202.length)),(9,(.box 207 [(.mp 8)])),(10,(vB5 dl sk dc)),(11,(.box 209 [(.fn 153 [] [(.ptr 5 0),(.ptr 7 0)])]))],FC Tp 87 [(.rp (aH dl sk dc) 0),(.p (aG x))] [] 5 (.agg (kVL 9 10 5 7 11 6)) [(5,(vB0 dl sk dc)),(6,(.box 33 [(.p (aG x))])),(7,(.box 139 (kVL 9 10 5 7 11 6))),(8,(.mp (aE ([]:Lqb)) 0)),(9,(.box 207 [(.mp 8)])),(10,(vB5 dl sk dc)),(11,(.box 209 [(.fn 153 [] [(.ptr 5 0),(.ptr 7 0)])]))],[(PV.rp (aH dl sk dc) 0)][0]? = some (PV.rp (aH dl sk dc) 0),some (.agg (([(aA y100),(aA y101)].drop 0).take 2):PV)=some (.agg [(aA y100),(aA y101)]),0+2≤[(aA y100),(aA y101)].length,[(PV.rp (aH dl sk dc) 0)][0]? = some (PV.rp (aH dl sk dc) 0)]) (by kernel_rfl) (gc aHz (gc aIa (gc (fv (aPd mx ([(1099511627776:Int)]:List Int) h3)) (gc aHz (gc aIa (gc h2 (gc (by first | decide | simp) (gc h1 (gc (FMM.fc (ids:=[5,6,7,8,9,10,11]) h0 (by kernel_rfl)) (gc (FMM.fcN (k:=7) rfl (ids:=[]) (pG (dl:=dl) (sk:=sk) (dc:=dc) (on:=x.length) (ol:=(x.map aA))) (by kernel_rfl)) (gc rfl (gc rfl (gc (by first | decide | simp) (gc rfl gn))))))))))))))
theorem bAg{aln:Nat}{alc:List PV}{i:Nat}{y100 y101:Int}{o102:List Int}{chn:Nat}{chc:List PV}{mn mx:Int}{x:List Int}{n200:Int}{b201:Bool}{T202:Lqb}{ch'n:Nat}{ch'c:List PV}{mn' mx':Int}(h0:aDd dl sk dc (aG x) [y100,y101] n200 b201 ([]:Lqb) T202)(h1:b201=false)(h2:[(aA n200),(blP b201),(aG x)].length=1*3∧chn+1≤1000000)(h3:([n200]:List Int).length≤1000)(ech'n:ch'n=(chn+1))(ech'c:ch'c=(chc++[(aA n200),(blP b201),(aG x)]))(emn':mn'=(if n200<mn then n200 else mn))(emx':mx'=(yP mx ([n200]:List Int))):aC Tp 5 (sub (cd Tryz.f161) [1,1,1,1,0,1,0,0,1,1,0,0,1,1,1,0,1,0,1]) (rfO (wU dl sk dc aln alc i y100 y101 o102 chn chc mn mx) 36 10 x) .normal (aQc dl sk dc aln alc i y100 y101 o102 ch'n ch'c mn' mx'):=by
 subst ech'n ech'c emn' emx'
 exact aC.fin (g:=⟨(rng [(0,1),(6,1),(10,12),(36,35)]),[13],[],[]⟩) (o:=[.g 2 ⟨[29],[],[4],[]⟩,.x (PV.rp (aH dl sk dc) 0),.x (.agg [(aA y100),(aA y101)]),.x (PV.rp (aH dl sk dc) 0),.c (.agg (kVL 9 10 5 7 11 6)) [(5,(vB0 dl sk dc)),(6,(.box 33 [(.p (aG x))])),(7,(.box 139 (kVL 9 10 5 7 11 6))),(8,(.mp (aE ([]:Lqb)) 0)),(9,(.box 207 [(.mp 8)])),(10,(vB5 dl sk dc)),(11,(.box 209 [(.fn 153 [] [(.ptr 5 0),(.ptr 7 0)])]))],.c (.tup [(pI n200),(pB b201)]) [(5,(vB0 dl sk dc)),(6,(.box 33 [(.p (aG x))])),(7,(.box 139 (kVL 9 10 5 7 11 6))),(8,(.mp (aE T202) T202.length)),(9,(.box 207 [(.mp 8)])),(10,(vB5 dl sk dc)),(11,(.box 209 [(.fn 153 [] [(.ptr 5 0),(.ptr 7 0)])]))],bF,.c (pI (yP mx ([n200]:List Int))) []]) (l:=[_,_,FC Tp 184 [(pI mx),(.own 15)] [(15,(.row 3 1 [(aA n200)]))] 16 (pI (yP mx ([n200]:List Int))) [],_,_,_,[(aA n200),(blP b201),(aG x)].length=3,_,FC Tp 134 [(.rp (aH dl sk dc) 0),(.p (.agg [(aA y100),(aA y101)])),(.agg (kVL 9 10 5 7 11 6))] [(9,(.box 207 [(.mp 8)])),(10,(vB5 dl sk dc)),(5,(vB0 dl sk dc)),(7,(.box 139 (kVL 9 10 5 7 11 6))),(11,(.box 209 [(.fn 153 [] [(.ptr 5 0),(.ptr 7 0)])])),(6,(.box 33 [(.p (aG x))])),(8,(.mp (aE ([]:Lqb)) 0))] 13 (.tup [(pI n200),(pB b201)]) [(5,(vB0 dl sk dc)),(6,(.box 33 [(.p (aG x))])),(7,(.box 139 (kVL 9 10 5 7 11 6))),(8,(.mp (aE T202) T202.length)),(9,(.box 207 [(.mp 8)])),(10,(vB5 dl sk dc)),(11,(.box 209 [(.fn 153 [] [(.ptr 5 0),(.ptr 7 0)])]))],FC Tp 87 [(.rp (aH dl sk dc) 0),(.p (aG x))] [] 5 (.agg (kVL 9 10 5 7 11 6)) [(5,(vB0 dl sk dc)),(6,(.box 33 [(.p (aG x))])),(7,(.box 139 (kVL 9 10 5 7 11 6))),(8,(.mp (aE ([]:Lqb)) 0)),(9,(.box 207 [(.mp 8)])),(10,(vB5 dl sk dc)),(11,(.box 209 [(.fn 153 [] [(.ptr 5 0),(.ptr 7 0)])]))],[(PV.rp (aH dl sk dc) 0)][0]? = some (PV.rp (aH dl sk dc) 0),some (.agg (([(aA y100),(aA y101)].drop 0).take 2):PV)=some (.agg [(aA y100),(aA y101)]),0+2≤[(aA y100),(aA y101)].length,[(PV.rp (aH dl sk dc) 0)][0]? = some (PV.rp (aH dl sk dc) 0)]) (by kernel_rfl) (gc aHz (gc aIa (gc (fv (aPd mx ([n200]:List Int) h3)) (gc aHz (gc aIa (gc h2 (gc (by first | decide | simp) (gc h1 (gc (FMM.fc (ids:=[5,6,7,8,9,10,11]) h0 (by kernel_rfl)) (gc (FMM.fcN (k:=7) rfl (ids:=[]) (pG (dl:=dl) (sk:=sk) (dc:=dc) (on:=x.length) (ol:=(x.map aA))) (by kernel_rfl)) (gc rfl (gc rfl (gc (by first | decide | simp) (gc rfl gn))))))))))))))
end
section
section
variable {α:Type} {E:α→List PV} {k:Nat}
theorem aTn(hE:∀ a,(E a).length=k)(l:List α):((l.map E).flatten).length=l.length*k:=by
 induction l with
 | nil=>simp
 | cons a l ih=>rw [iI,uR,mD,hE,ih,tC,aDc];omega
theorem xD(hE:∀ a,(E a).length=k){l:List α}{i:Nat}{e:α}(h:l[i]? = some e):∃ a b,(l.map E).flatten=a++(E e++b)∧a.length=i*k:=by
 obtain ⟨hi,rfl⟩:=kQ3.1 h;refine ⟨((l.take i).map E).flatten,((l.drop (i+1)).map E).flatten,?_,?_⟩
 ·have:l=l.take i++(l[i]::l.drop (i+1)):=by rw [← bDd hi,aNx]
  have e2:=congrArg (fun l=>(l.map E).flatten) this
  simp only [gI,iI,bDf,uR] at e2
  exact e2
 ·rw [aTn hE,mX];congr 1;omega
theorem bBh{l:List α}{i f:Nat}(hE:∀ a,(E a).length=k){e:α}{x:PV}(h:l[i]? = some e)(hx:(E e)[f]? = some x):((l.map E).flatten)[i*k+f]? = some x:=by
 obtain ⟨a,b,e1,e2⟩:=xD hE h;have hf:=(kQ3.1 hx).1;rw [e1,← e2,aAx (by omega),Nat.add_sub_cancel_left,aAy hf]
 exact hx
theorem tO{l:List α}{i:Nat}(hE:∀ a,(E a).length=k){e:α}(h:l[i]? = some e):i*k+k≤((l.map E).flatten).length:=by
 obtain ⟨a,b,e1,e2⟩:=xD hE h;rw [e1,mD,mD,hE,e2];omega
theorem lZ{l:List α}{i:Nat}(hE:∀ a,(E a).length=k){e:α}(h:l[i]? = some e){x:PV}(hx:PV.agg (E e)=x):some (.agg ((((l.map E).flatten).drop (i*k)).take k):PV)=some x:=by
 obtain ⟨a,b,e1,e2⟩:=xD hE h;rw [e1,← e2,List.drop_left,List.take_left' (hE e),hx]
theorem rC{l:List α}{i:Int}(hE:∀ a,(E a).length=k)(hk:0<k)(h0:0≤i){e:α}(h:l[i.toNat]? = some e):0≤i∧i<(l.length:Int)∧i.toNat*k<((l.map E).flatten).length:=by
 have hi:=(kQ3.1 h).1;refine ⟨h0,by omega,?_⟩
 rw [aTn hE];exact Nat.mul_lt_mul_of_pos_right hi hk
end
end
section
abbrev cM:=Int × Bool × List Int
abbrev fE:=List cM × Int × Int
def hpE(h:fE):List PV:=[.sl h.1.length (h.1.map chE).flatten,aA h.2.1,aA h.2.2]
abbrev far:Int:=1099511627776
def chM(dl:Int)(dc:Lqq)(s0 s1:Int)(q:List Int):cM:=(if (eU dl q dc s0 s1).2 then far else (eU dl q dc s0 s1).1,(eU dl q dc s0 s1).2,q)
def mnM(l:List cM):Int:=l.foldl (fun m x=>if x.1<m then x.1 else m) far
def mxM(l:List cM):Int:=l.foldl (fun m x=>if x.1 > m then x.1 else m) 0
def oE(dl:Int)(dc:Lqq)(s0 s1:Int)(o:List Int):fE:=((jE o).map (chM dl dc s0 s1),mnM ((jE o).map (chM dl dc s0 s1)),mxM ((jE o).map (chM dl dc s0 s1)))
def aLp(dc:Lqq)(n:Int):Int:=match ofN dc n with
 | some x=>vJ dc x
 | none=>0
def tM(dl:Int)(dc:Lqq)(bib:Int):List Int:=(aP dl dc).filter fun n => !(aLp dc n != bib)
def bL(dl:Int)(sk dc:Lqq):List fE:=sk.map fun s=>oE dl dc (s.getD 0 0) (s.getD 1 0) (tM dl dc (s.getD 0 0))
theorem aTe(x:cM):jS (chE x)=true:=by
 obtain ⟨a,b,l⟩:=x;show (nmP (aA a) && (nmP (blP b) && (nmP (aG l) && true)))=true;have h:nmP (aG l)=true:=by
  show jS (l.map aA)=true;exact aBo aA (fun _=>rfl) l
 rw [h];rfl
theorem yG:∀ (a b:List PV),jS (a++b)=(jS a && jS b)
 | [],b=>rfl
 | x::a,b=>by
  show (nmP x && jS (a++b))=((nmP x && jS a) && jS b);rw [yG a b,Bool.and_assoc]
theorem rT{α:Type}{E:α→List PV}(h:∀ a,jS (E a)=true):∀ l:List α,jS (l.map E).flatten=true
 | []=>rfl
 | a::l=>by rw [iI,uR,yG,h a,rT h l];rfl
theorem bLa(x:fE):jS (hpE x)=true:=by
 obtain ⟨l,a,b⟩:=x;show (jS (l.map chE).flatten && (nmP (aA a) && (nmP (aA b) && true)))=true;rw [rT aTe];rfl
def bSx(dl:Int)(sk dc:Lqq)(al:List fE)(i:Nat)(y0 y1:Int)(o:List Int)(l:List cM):St:=wU dl sk dc al.length (al.map hpE).flatten i y0 y1 o l.length (l.map chE).flatten (mnM l) (mxM l)
def bVl(dl:Int)(sk dc:Lqq)(al:List fE)(i:Nat)(y0 y1:Int)(o:List Int)(l:List cM):St:=aQc dl sk dc al.length (al.map hpE).flatten i y0 y1 o l.length (l.map chE).flatten (mnM l) (mxM l)
theorem bLb(l:List cM)(c:cM):(l++[c]).length=l.length+1∧((l++[c]).map chE).flatten=(l.map chE).flatten++chE c∧mnM (l++[c])=(if c.1<mnM l then c.1 else mnM l)∧mxM (l++[c])=yP (mxM l) [c.1]:=by
 refine ⟨by simp,by simp,?_,?_⟩
 ·unfold mnM;rw [aGw];rfl
 ·unfold mxM;rw [aGw];rfl
theorem bAb{dl:Int}{sk dc:Lqq}(hd:cI dc){al:List fE}{i:Nat}{y0 y1:Int}(hs : -1≤y1∧y1≤360000){o:List Int}{l:List cM}(hl:l.length+1≤1000000){x:List Int}(hx:x.length≤1000) :
  aC Tp 5 (sub (cd Tryz.f161) [1,1,1,1,0,1,0,0,1,1,0,0,1,1,1,0,1,0,1]) (rfO (bSx dl sk dc al i y0 y1 o l) 36 10 x) .normal (bVl dl sk dc al i y0 y1 o (l++[chM dl dc y0 y1 x])):=by
 obtain ⟨T',_,hT⟩:=aXh (sk:=sk) hd (fun n=>aBr hx n) y0 y1 hs (T:=[]) cD.nil
 obtain ⟨e1,e2,e3,e4⟩:=bLb l (chM dl dc y0 y1 x);cases hb:(eU dl x dc y0 y1).2 with
 | true =>
  have ec:chM dl dc y0 y1 x=(far,true,x):=by unfold chM;rw [hb];rfl
  rw [hb] at hT
  rw [ec] at e1 e2 e3 e4 ⊢
  exact bAf hT rfl ⟨rfl,hl⟩ (by simp) e1 e2 e3 e4
 | false =>
  have ec:chM dl dc y0 y1 x=((eU dl x dc y0 y1).1,false,x):=by unfold chM;rw [hb];rfl
  rw [hb] at hT
  rw [ec] at e1 e2 e3 e4 ⊢
  exact bAg hT rfl ⟨rfl,hl⟩ (by simp) e1 e2 e3 e4
theorem bAc{dl:Int}{sk dc:Lqq}(hd:cI dc){al:List fE}{i:Nat}{y0 y1:Int}(hs : -1≤y1∧y1≤360000){o:List Int}(ho:o.length≤8) :
  aC Tp 0 (sub (cd Tryz.f161) [1,1,1,1,0,1,0,0,1,1,0,0,1,1,1,0,1,0]) (aIb dl sk dc al.length (al.map hpE).flatten i y0 y1 o) .normal (bSx dl sk dc al i y0 y1 o ((jE o).map (chM dl dc y0 y1))):=by
 have hp:(2:Nat) ^ o.length≤256:=gJ (Nat.pow_le_pow_right (by omega) ho) (by decide)
 refine (aFj (P:=Tp) (k:=0) (kb:=5) (kk:=3) (g0:=⟨[],[3],[],[(102000,197)]⟩) (g1:=⟨[],[5],[],[]⟩) (aIb dl sk dc al.length (al.map hpE).flatten i y0 y1 o)
  (fun pre=>bSx dl sk dc al i y0 y1 o (pre.map (chM dl dc y0 y1))) (fun pre l=>bVl dl sk dc al i y0 y1 o ((pre++[l]).map (chM dl dc y0 y1))) (fun _ _=>⟨[],[]⟩) _ [] (fun _ _=>false)
  (cc := sub (cd Tryz.f161) [1, 1, 1, 1, 0, 1, 0, 0, 1, 1, 0, 0, 1, 1, 1, 0, 1, 0]) (gi := 35) (p1 := 36) (d := 10) (id := 11) (ty := 33) (pos := "outcome.go:71") (body := sub (cd Tryz.f161) [1, 1, 1, 1, 0, 1, 0, 0, 1, 1, 0, 0, 1, 1, 1, 0, 1, 0, 1]) (by kernel_rfl)
  rfl (fun _=>rfl) (g := .fn 182 [] [.rp [aG o] 0]) (by rfl) (aFh o (by omega)) (fun args w=>rfl) (fun _=>rfl) (fun pre => ?_) (fun _ _=>rfl) (fun _ _=>rfl) rfl rfl (fun _=>by show 4<5;omega) (by kernel_rfl) (fun x=>rfl) (by show 3≤3;omega) rfl (by kernel_rfl) (fun pre l=>by kernel_rfl) (fun _ _ h=>by cases h) (gR:=⟨[],[],[],[]⟩) (fun pre l hpl hx=>⟨fun _ => ?_,fun h=>by cases h⟩)).1 (fun _ _ _=>rfl)
 ·show (jS (al.map hpE).flatten && (jS [] && (jS ((pre.map (chM dl dc y0 y1)).map chE).flatten && true)))=true
  rw [rT bLa,rT aTe];rfl
 ·have:=bAb (dl:=dl) (y0:=y0) (sk:=sk) hd (al:=al) (i:=i) hs (o:=o) (l:=pre.map (chM dl dc y0 y1)) (by rw [kQ9];omega) hx
  rw [gI];exact this
end
section
theorem bSv{dl:Int}{sk dc:Lqq}(hd:cI dc){bib tm n:Int}(hn:n∈aP dl dc):aQe dl sk dc bib tm n (aLp dc n != bib):=fun base=>by
 unfold aP at hn
 obtain ⟨x,hx,rfl⟩:=eK.1 hn;have hx:=(aGx.1 hx).1;have hr:=fP hd hx;have hs:aLp dc (dN x)=vJ dc x:=by unfold aLp;rw [aTk hd hx]
 rw [hs];obtain ⟨h1,h2⟩:=aQq hd hx;have hk:=vH hd (n:=dN x) (by unfold inR;omega)
 have hab:=lN hd x hx;obtain ⟨a,b,c,d,e,f,rfl⟩:=len6 (hd.ud x hx);have hf:inR f:=by
  have:=(jR.1 (hd.rng _ hx));unfold inR;simp [dAb] at this hab ⊢;omega
 exact bTc hk h1 h2 (fun base=>bGe hd hf (.inl hx) hr.2) rfl
theorem bFq(dl:Int)(dc:Lqq)(b:Int):(tM dl dc b).length≤(aP dl dc).length:=wD _ _
theorem bKz{dl:Int}{sk dc:Lqq}(hd:cI dc)(hu:uni 2 sk)(hl:sk.length≤1000)(hs:∀ s∈sk,-1≤s.getD 1 0∧s.getD 1 0≤360000)(ho:(aP dl dc).length≤8) :
  aI Tp 0 (sub (cd Tryz.f161) [1,1,1,1,0,1,0,0]) (lY dl sk dc 0 [] 0) (.exit 0) (lY dl sk dc (bL dl sk dc).length ((bL dl sk dc).map hpE).flatten sk.length):=by
 obtain ⟨acc,hI,hL⟩:=aI.ex (P:=Tp) (k:=0) (b:=sub (cd Tryz.f161) [1,1,1,1,0,1,0,0]) (e := .exit 0) (fun i (al:List fE)=>lY dl sk dc al.length (al.map hpE).flatten i) (fun al=>lY dl sk dc al.length (al.map hpE).flatten sk.length) (fun i al=>al=bL dl (sk.take i) dc) (by simp) sk.length
  (fun i al hi hal=>by
   obtain ⟨x,hx⟩:∃ x,sk[i]? = some x:=⟨_,kQ0 hi⟩;have hm:=kQ5 hx;have hsx:=hs x hm;obtain ⟨y0,y1,rfl⟩:=len2 (hu x hm);have hlen:al.length=i:=by rw [hal];unfold bL;rw [kQ9,mX];omega
   refine ⟨al++[oE dl dc y0 y1 (tM dl dc y0)],?_,bAd (o102:=tM dl dc y0) (by omega) hx hu (by omega) (bTb (by omega) fun n hn=>bSv hd hn) (bAc hd hsx (gJ (bFq dl dc y0) ho)) ⟨rfl,by omega⟩ (aO (by omega)) (by simp) (by simp only [gI,iI,List.map_nil,bDf,uR,List.flatten_nil,List.append_nil];rfl) rfl⟩
   rw [hal];unfold bL;rw [List.take_add_one,hx];simp)
  (fun al _=>bAe (by omega)) (acc:=[]) (by simp [bL])
 rw [List.take_length] at hI
 rw [← hI];exact hL
theorem bSw{dl:Int}{sk dc:Lqq}(hd:cI dc)(hu:uni 2 sk)(hl:sk.length≤1000)(hs:∀ s∈sk,-1≤s.getD 1 0∧s.getD 1 0≤360000)(ho:(aP dl dc).length≤8){base:Nat} :
  FV Tp 161 [pQ dl sk dc] base (.tup [.own base,.p (aA 0)]) [(base,.row 195 (bL dl sk dc).length ((bL dl sk dc).map hpE).flatten)]:=bSy hd (by omega) (bKz hd hu hl hs ho)
end
end KV
end Go.Proofs
section
namespace Go.Proofs
open Go.Shelf
def Tryz.lays189_ren:Go.Shelf.Ren:=⟨fun | 189=>57 | 125=>131 | 257=>130 | 128=>180 | 129=>181 | 294=>171 | 295=>172 | 296=>173 | 297=>174 | 298=>175 | 299=>176 | 216=>177 | 300=>178 | 301=>179 | 328=>207 | 329=>208 | 330=>209 | 331=>210 | 332=>211 | 215=>168 | 343=>224 | n=>n,fun | 28=>33 | 3=>3 | 46=>172 | 0=>0 | 51=>127 | 53=>225 | 4=>4 | 183=>218 | 182=>217 | 131=>106 | 5=>5 | 9=>9 | 218=>245 | 222=>249 | 228=>257 | 229=>198 | n=>n,fun | n=>n⟩
theorem Tryz.lays189:Go.Proofs.Lays.n189 Tryz.prog Tryz.lays189_ren:={
 mixed:=by kernel_rfl
 f125:=Tryz.func131.trans (congrArg some (by kernel_rfl))
 f128:=Tryz.func180.trans (congrArg some (by kernel_rfl))
 f129:=Tryz.func181.trans (congrArg some (by kernel_rfl))
 f189:=Tryz.func57.trans (congrArg some (by kernel_rfl))
 f215:=Tryz.func168.trans (congrArg some (by kernel_rfl))
 f216:=Tryz.func177.trans (congrArg some (by kernel_rfl))
 f257:=Tryz.func130.trans (congrArg some (by kernel_rfl))
 f294:=Tryz.func171.trans (congrArg some (by kernel_rfl))
 f295:=Tryz.func172.trans (congrArg some (by kernel_rfl))
 f296:=Tryz.func173.trans (congrArg some (by kernel_rfl))
 f297:=Tryz.func174.trans (congrArg some (by kernel_rfl))
 f298:=Tryz.func175.trans (congrArg some (by kernel_rfl))
 f299:=Tryz.func176.trans (congrArg some (by kernel_rfl))
 f300:=Tryz.func178.trans (congrArg some (by kernel_rfl))
 f301:=Tryz.func179.trans (congrArg some (by kernel_rfl))
 f328:=Tryz.func207.trans (congrArg some (by kernel_rfl))
 f329:=Tryz.func208.trans (congrArg some (by kernel_rfl))
 f330:=Tryz.func209.trans (congrArg some (by kernel_rfl))
 f331:=Tryz.func210.trans (congrArg some (by kernel_rfl))
 f332:=Tryz.func211.trans (congrArg some (by kernel_rfl))
 f343:=Tryz.func224.trans (congrArg some (by kernel_rfl))
 t0:=Tryz.underlying0
 a0:=Tryz.isAgg0
 z0:=Tryz.sizeOf0
 v0:=Tryz.zeroValue0
 t3:=Tryz.underlying3
 a3:=Tryz.isAgg3
 z3:=Tryz.sizeOf3
 v3:=Tryz.zeroValue3
 t4:=Tryz.underlying4
 a4:=Tryz.isAgg4
 z4:=Tryz.sizeOf4
 v4:=Tryz.zeroValue4
 t5:=Tryz.underlying5
 a5:=Tryz.isAgg5
 z5:=Tryz.sizeOf5
 v5:=Tryz.zeroValue5
 t9:=Tryz.underlying9
 a9:=Tryz.isAgg9
 z9:=Tryz.sizeOf9
 v9:=Tryz.zeroValue9
 t28:=Tryz.underlying33
 a28:=Tryz.isAgg33
 z28:=Tryz.sizeOf33
 v28:=Tryz.zeroValue33
 t46:=Tryz.underlying172
 a46:=Tryz.isAgg172
 z46:=Tryz.sizeOf172
 v46:=Tryz.zeroValue172
 t51:=Tryz.underlying127
 a51:=Tryz.isAgg127
 z51:=Tryz.sizeOf127
 v51:=Tryz.zeroValue127
 t53:=Tryz.underlying225
 a53:=Tryz.isAgg225
 z53:=Tryz.sizeOf225
 v53:=Tryz.zeroValue225
 t131:=Tryz.underlying106
 a131:=Tryz.isAgg106
 z131:=Tryz.sizeOf106
 v131:=Tryz.zeroValue106
 t182:=Tryz.underlying217
 a182:=Tryz.isAgg217
 z182:=Tryz.sizeOf217
 v182:=Tryz.zeroValue217
 t183:=Tryz.underlying218
 a183:=Tryz.isAgg218
 z183:=Tryz.sizeOf218
 v183:=Tryz.zeroValue218
 t218:=Tryz.underlying245
 a218:=Tryz.isAgg245
 z218:=Tryz.sizeOf245
 v218:=Tryz.zeroValue245
 t222:=Tryz.underlying249
 a222:=Tryz.isAgg249
 z222:=Tryz.sizeOf249
 v222:=Tryz.zeroValue249
 t228:=Tryz.underlying257
 a228:=Tryz.isAgg257
 z228:=Tryz.sizeOf257
 v228:=Tryz.zeroValue257
 t229:=Tryz.underlying198
 a229:=Tryz.isAgg198
 z229:=Tryz.sizeOf198
 v229:=Tryz.zeroValue198 }
open Go.Sort Go.RowKit in
theorem Tryz.slices_Sort_int(blk off cap:Nat)(zs:List Int)(w:World)(hH:Holds (Value.int .i64) w blk off zs.toArray)(hblk:blk<w.heap.size)(hsz:zs.length<4611686018427387904) :
  Calls Tryz.prog 57 #[.slice (some ⟨blk,off,none⟩) zs.length cap] w fun e w' =>
   e = .returned (.tuple #[])∧∃ n os,w'=grow (putRow (Value.int .i64) (Sort.ahead w n) blk off (zs.mergeSort fun x y=>decide (x≤y)).toArray) os:=Any.slices_Sort_int Tryz.lays189 blk off cap zs w hH hblk hsz
def Tryz.laysNm220_ren:Go.Shelf.Ren:=⟨fun | 20=>186 | n=>n,fun | 22=>33 | 3=>3 | 4=>4 | 0=>0 | n=>n,fun | n=>n⟩
theorem Tryz.laysNm220:Go.Proofs.Lays2.n20 Tryz.prog Tryz.laysNm220_ren:={
 mixed:=by kernel_rfl
 f20:=Tryz.func186.trans (congrArg some (by kernel_rfl))
 t0:=Tryz.underlying0
 a0:=Tryz.isAgg0
 z0:=Tryz.sizeOf0
 v0:=Tryz.zeroValue0
 t3:=Tryz.underlying3
 a3:=Tryz.isAgg3
 z3:=Tryz.sizeOf3
 v3:=Tryz.zeroValue3
 t4:=Tryz.underlying4
 a4:=Tryz.isAgg4
 z4:=Tryz.sizeOf4
 v4:=Tryz.zeroValue4
 t22:=Tryz.underlying33
 a22:=Tryz.isAgg33
 z22:=Tryz.sizeOf33
 v22:=Tryz.zeroValue33
 i3:=by kernel_rfl }
open Go.RowKit Go.Lib Go.Sort in
theorem Tryz.slices_Compact_int(blk off cap:Nat)(zs:List Int)(w:World)(hH:Holds (Value.int .i64) w blk off zs.toArray)(hsz:zs.length≤9223372036854775807)(hcap:zs.length≤cap) :
  Calls Tryz.prog 186 #[.slice (some ⟨blk,off,none⟩) zs.length cap] w fun e w'=>e = .returned (.slice (some ⟨blk,off,none⟩) (Lib.compact zs).length cap)∧∃ q,w'=putRow (Value.int .i64) (Sort.ahead w q) blk off (Lib.compact zs++List.replicate (zs.length-(Lib.compact zs).length) 0).toArray:=Any.slices_Compact_int Tryz.laysNm220 blk off cap zs w hH hsz hcap
open Go.RowKit Go.Lib Go.Sort in
theorem Tryz.slices_Compact_int_empty(a:Option Addr)(cap:Nat)(w:World) :
  Calls Tryz.prog 186 #[.slice a 0 cap] w fun e w'=>e = .returned (.slice a 0 cap)∧w'=w:=Any.slices_Compact_int_empty Tryz.laysNm220 a cap w
theorem Tryz.slices_Sort_int_none(p:Option Addr)(cap:Nat)(w:World) :
  Calls Tryz.prog 57 #[.slice p 0 cap] w fun e w'=>e = .returned (.tuple #[])∧w'=w:=Any.slices_Sort_int_none Tryz.lays189 p cap w
end Go.Proofs
end
section
namespace Go.Proofs
open Go.RowKit Go.Lib Go.Sort
namespace KL
def OwnI(w:World)(base:Nat)(v:Value)(l:List Int):Prop:=w.ownsRow base 3 1 v l.length (l.map (Value.int .i64))

def leB:Int→Int→Bool:=fun x y=>decide (x≤y)

theorem bGi(base:Nat)(v:Value)(l:List Int)(w:World)(hv:OwnI w base v l)(hlen:l.length≤1000000) :
  Calls Tryz.prog 57 #[v] w fun e w'=>e = .returned (.tuple #[])∧OwnI w' base v (l.mergeSort leB)∧w.grownBy w' v.ownBlock:=by
 have hown:=hv
 rcases hv.2 with ⟨rfl,h0⟩ | ⟨g,cap,cur,rfl,hb,hg,hn,hm,hs,ht⟩
 ·have:l=[]:=List.eq_nil_of_length_eq_zero h0
  subst this;refine (Tryz.slices_Sort_int_none none 0 w).mono ?_;rintro e w' ⟨rfl,rfl⟩;exact ⟨rfl,by simpa using hown,World.grownBy.refl _ _⟩
 ·have hlt:=lt_of_block hg
  refine (Tryz.slices_Sort_int g 0 cap l w (holds_of_blockI hg (by simpa using ht)) hlt (by omega)).mono ?_
  rintro e w' ⟨rfl,n,os,rfl⟩;refine ⟨rfl,?_,grownBy_sortedI _⟩;have hl:(l.mergeSort leB).length=l.length:=List.length_mergeSort l;unfold OwnI;rw [hl];exact ownsRow_sortedI hl hb hg hn hm hs

end KL
open KL
namespace KV
open Go.Shelf
variable {P:Program} {C:Cx} {M:Mem} {w w':World}
abbrev pK(l:List Int):AO := .row 3 l.length (l.map aA)
theorem bGj{F:Nat→Prop}{cur:Array Value}{l:List Int}(hle:l.length≤cur.size)(h:∀ j (hj:j<(l.map aA).length),cN F w (l.map aA)[j] (cur.getD j undef)):cur.toList.take l.length=l.map (Value.int .i64):=by
 apply List.ext_getElem
 ·simp;omega
 ·intro i h1 h2
  have hi:i<l.length:=by simpa using h2
  have:=h i (by simpa using hi)
  rw [List.getElem_map] at this
  rw [List.getElem_map,List.getElem_take];cases hx:cur.getD i undef with
  | int k z =>
   rw [hx] at this
   cases this;rw [Array.getD_eq_getD_getElem?,Array.getElem?_eq_getElem (by omega)] at hx
   simpa using hx
  | _=>rw [hx] at this;cases this
theorem aLy(F:Nat→Prop){cur:Array Value}{l:List Int}(h:cur.toList.take l.length=l.map (Value.int .i64)):(∀ j (hj:j<(l.map aA).length),cN F w (l.map aA)[j] (cur.getD j undef))∧∀ j,j<(l.map aA).length→(cur.getD j undef).oneCell'=true:=by
 have key:∀ j (hj:j<l.length),cur.getD j undef = .int .i64 l[j]:=fun j hj=>by
  have h1:=congrArg (fun x=>x[j]?) h
  simp only [List.getElem?_take,hj,if_true,List.getElem?_map,List.getElem?_eq_getElem hj,Option.map_some,Array.getElem?_toList] at h1
  rw [Array.getD_eq_getD_getElem?,h1];rfl
 refine ⟨fun j hj => ?_,fun j hj => ?_⟩
 ·have hj':j<l.length:=by simpa using hj
  rw [List.getElem_map,key j hj'];exact .v _
 ·rw [key j (by simpa using hj)];rfl

theorem size3:∃ i,Tryz.prog.info? 3=some i∧i.size=1:=oA (show (Tryz.prog.info? 3).map (fun i=>i.size)=some 1 by kernel_rfl)
theorem bGk{id:Nat}{l:List Int}{u:Value}(hM:aR Tryz.prog C M w)(ho:M[id]? = some (some (pK l)))(h:Rep C M w (.own id) u):OwnI w 0 u l:=by
 refine ⟨by simp,?_⟩
 cases h with
 | own _ _ h0 ha hr =>
  rcases hr _ _ _ ho with ⟨rfl,_,hn⟩ | ⟨b,rfl,hb⟩
  ·exact .inl ⟨rfl,hn⟩
  ·rcases hM.row _ _ _ _ ho with ⟨hn',_⟩ | ⟨b',arr,inf,hb',q1,q2,q3,q4,q5,q6,q7,q8⟩
   ·rw [hb] at hn';cases hn'
   ·rw [hb] at hb';cases hb'
    obtain ⟨i,hi,hs⟩:=size3;rw [hi] at q2;cases q2
    exact .inr ⟨b,_,arr,rfl,Nat.zero_le _,q1,q5,q6,by rw [q3,hs],by rw [Nat.mul_one];exact bGj (by rw [q3,hs];omega) q7⟩

theorem aFq{l l':List Int}{u u':Value}{d:Bool}(hM:aR Tryz.prog C [some (pK l)] w)(h:Rep C [some (pK l)] w (.own 0) u)(hown:OwnI w' 0 u' l')(hg:w.grownBy w' u.ownBlock)
  (hb:u'.ownBlock=u.ownBlock) (hd:d=false→u'=u∧l'.length=l.length) :
  ∃ C',Fr C [some (pK l)] w C' (if d then [some .dead,some (pK l')] else [some (pK l')]) w'∧aR Tryz.prog C' (if d then [some .dead,some (pK l')] else [some (pK l')]) w'∧Rep C' (if d then [some .dead,some (pK l')] else [some (pK l')]) w' (.own (if d then 1 else 0)) u':=by
 have at0:∀ (id:Nat) (o:AO),([some (pK l)]:Mem)[id]? = some (some o)→id=0∧o=pK l:=fun id o h=>by
  cases id with
  | zero=>simp at h;exact ⟨rfl,h.symm⟩
  | succ i=>simp at h
 have hblk:∀ b,C.ι 0=some b→u.ownBlock=some b∧∃ cap,u = .slice (some ⟨b,0,none⟩) l.length cap∧cap=C.κ 0:=fun b hb0=>by
  cases h with
  | own _ _ h0 ha hr =>
   rcases hr _ _ _ rfl with ⟨_,hn,_⟩ | ⟨b',rfl,hb'⟩
   ·rw [hb0] at hn;cases hn
   ·rw [hb0] at hb';cases hb';exact ⟨rfl,_,rfl,rfl⟩
 have hnb:C.ι 0=none→u = .slice none 0 0:=fun hn=>by
  cases h with
  | own _ _ h0 ha hr =>
   rcases hr _ _ _ rfl with ⟨hu,_,_⟩ | ⟨b',rfl,hb'⟩
   ·exact hu
   ·rw [hn] at hb';cases hb'
 have hkeep:∀ b,b<w.heap.size→(∀ (id:Nat) (o:AO),([some (pK l)]:Mem)[id]? = some (some o)→o.live=true→C.ι id≠some b)→w'.heap[b]? = w.heap[b]? := fun b hb1 hn=>by
  refine hg.block b hb1 fun he => ?_
  cases hι:C.ι 0 with
  | none=>rw [hnb hι] at he;cases he
  | some b' =>
   rw [(hblk b' hι).1] at he;cases he
   exact hn 0 _ rfl rfl hι
 have hFz:∀ b,C.F b→w'.heap[b]? = w.heap[b]? := fun b hf=>hkeep b (hM.Fs b hf) fun id o hm hl he=>hM.nF id o b hm hl he hf
 cases d with
 | false =>
  obtain ⟨rfl,hlen⟩:=hd rfl;simp only [Bool.false_eq_true,if_false];have at1:∀ (id:Nat) (o:AO),([some (pK l')]:Mem)[id]? = some (some o)→id=0∧o=pK l':=fun id o h=>by
   cases id with
   | zero=>simp at h;exact ⟨rfl,h.symm⟩
   | succ i=>simp at h
  have hblk':∀ b,C.ι 0=some b→∃ cur,w'.heap[b]? = some (.cells cur 3 (0,0))∧l'.length≤C.κ 0∧C.κ 0≤maxLen∧cur.size=C.κ 0∧cur.toList.take l'.length=l'.map (Value.int .i64):=fun b hι=>by
   obtain ⟨_,cap,hu,hc⟩:=hblk b hι
   rcases hown.2 with ⟨he,_⟩ | ⟨g,cap',cur,hv,_,hh,r1,r2,r3,r4⟩
   ·rw [hu] at he;cases he
   ·rw [hu] at hv
    obtain ⟨e1,_,e3⟩:=Value.slice.inj hv;cases e1;subst e3;subst hc;exact ⟨cur,hh,r1,r2,by omega,by simpa using r4⟩
  refine ⟨C,⟨hg.os,hg.tape,hg.output,hg.size,hkeep,fun id o hm => ?_,fun id o hm ty n cs hx => ?_,fun id o hm o' hx hl => ?_,fun id o b hm hl hb => ?_,fun _ h=>h,fun _ h => .inl h⟩,
   ⟨fun id ty n cs hm => ?_,fun id ty cs hm => ?_,fun id es cl hm => ?_,fun id id' o o' b h1 _ h2 _ _ _ => ?_,fun id o b hm hl hb => ?_,fun b hb=>Nat.lt_of_lt_of_le (hM.Fs b hb) hg.size,fun id o b hm hl hb => ?_⟩,?_⟩
  ·obtain ⟨rfl,rfl⟩:=at0 id o hm
   exact ⟨⟨_,rfl⟩,rfl,rfl⟩
  ·obtain ⟨rfl,rfl⟩:=at0 id o hm
   obtain ⟨_,he⟩:=at1 _ _ hx;cases he;exact ⟨l.map aA,by rw [hlen];rfl⟩
  ·obtain ⟨rfl,rfl⟩:=at0 id o hm
   rfl
  ·obtain ⟨rfl,rfl⟩:=at1 id o hm
   exact .inr ⟨0,_,rfl,rfl,hb⟩
  ·obtain ⟨rfl,he⟩:=at1 id _ hm
   cases he;cases hι:C.ι 0 with
   | none =>
    have:=hnb hι
    rcases hown.2 with ⟨_,h0⟩ | ⟨g,cap',cur,hv,_⟩
    ·have:l'=[]:=List.eq_nil_of_length_eq_zero h0
     subst this;exact .inl ⟨rfl,rfl,rfl⟩
    ·rw [this] at hv;cases hv
   | some b =>
    obtain ⟨cur,q1,q2,q3,q4,q5⟩:=hblk' b hι;obtain ⟨i,hi,hs⟩:=size3;obtain ⟨r1,r2⟩:=aLy (w:=w') C.F q5;exact .inr ⟨b,cur,i,rfl,q1,hi,by rw [hs,q4,Nat.mul_one],by simp [hs],q2,q3,r1,r2⟩
  ·obtain ⟨_,he⟩:=at1 id _ hm;cases he
  ·obtain ⟨_,he⟩:=at1 id _ hm;cases he
  ·obtain ⟨rfl,_⟩:=at1 id _ h1
   obtain ⟨rfl,_⟩:=at1 id' _ h2;rfl
  ·obtain ⟨rfl,_⟩:=at1 id _ hm
   exact hM.nF 0 _ b rfl rfl hb
  ·obtain ⟨rfl,_⟩:=at1 id _ hm
   exact Nat.lt_of_lt_of_le (hM.lt 0 _ b rfl rfl hb) hg.size
  ·cases h with
   | own _ _ h0 ha hr =>
    refine .own 0 _ h0 ⟨_,rfl⟩ fun ty n cs hx => ?_
    obtain ⟨_,he⟩:=at1 0 _ hx;cases he
    rcases hr _ _ _ rfl with ⟨q1,q2,q3⟩ | ⟨b,q1,q2⟩
    ·exact .inl ⟨q1,q2,by omega⟩
    ·exact .inr ⟨b,by rw [q1,hlen],q2⟩
 | true =>
  simp only [if_true]
  let cap':Nat:=match u' with | .slice _ _ c=>c | _=>0
  have at1:∀ (id:Nat) (o:AO),([some .dead,some (pK l')]:Mem)[id]? = some (some o)→(id=0∧o = .dead)∨(id=1∧o=pK l'):=fun id o h=>by
   match id,h with
   | 0,h=>simp at h;exact .inl ⟨rfl,h.symm⟩
   | 1,h=>simp at h;exact .inr ⟨rfl,h.symm⟩
   | i+2,h=>simp at h
  refine ⟨{ ι:=fun i=>if i=1 then u'.ownBlock else C.ι i,κ:=fun i=>if i=1 then cap' else C.κ i,F:=C.F },⟨hg.os,hg.tape,hg.output,hg.size,hkeep,fun id o hm => ?_,fun id o hm ty n cs hx => ?_,fun id o hm o' hx hl => ?_,fun id o b hm hl hbb => ?_,fun _ h=>h,fun _ h => .inl h⟩,
   ⟨fun id ty n cs hm => ?_,fun id ty cs hm => ?_,fun id es cl hm => ?_,fun id id' o o' b h1 l1 h2 l2 _ _ => ?_,fun id o b hm hl hbb => ?_,fun b hb=>Nat.lt_of_lt_of_le (hM.Fs b hb) hg.size,fun id o b hm hl hbb => ?_⟩,?_⟩
  ·obtain ⟨rfl,rfl⟩:=at0 id o hm
   exact ⟨⟨_,rfl⟩,rfl,rfl⟩
  ·obtain ⟨rfl,rfl⟩:=at0 id o hm
   rcases at1 _ _ hx with ⟨_,he⟩ | ⟨he,_⟩
   ·cases he
   ·cases he
  ·obtain ⟨rfl,rfl⟩:=at0 id o hm
   rfl
  ·rcases at1 id o hm with ⟨rfl,rfl⟩ | ⟨rfl,rfl⟩
   ·cases hl
   ·simp only [if_true] at hbb
    rw [hb] at hbb
    cases hι:C.ι 0 with
    | none=>rw [hnb hι] at hbb;cases hbb
    | some b' =>
     rw [(hblk b' hι).1] at hbb;cases hbb
     exact .inr ⟨0,_,rfl,rfl,hι⟩
  ·rcases at1 id _ hm with ⟨_,he⟩ | ⟨rfl,he⟩
   ·cases he
   ·cases he
    simp only [if_true]
    rcases hown.2 with ⟨rfl,h0⟩ | ⟨g,cp,cur,rfl,_,hh,r1,r2,r3,r4⟩
    ·have:l'=[]:=List.eq_nil_of_length_eq_zero h0
     subst this;exact .inl ⟨rfl,rfl,rfl⟩
    ·obtain ⟨i,hi,hs⟩:=size3
     obtain ⟨q1,q2⟩:=aLy (w:=w') C.F (by simpa using r4)
     exact .inr ⟨g,cur,i,rfl,hh,hi,by rw [hs];exact r3,by simp [hs],r1,r2,q1,q2⟩
  ·rcases at1 id _ hm with ⟨_,he⟩ | ⟨_,he⟩ <;> cases he
  ·rcases at1 id _ hm with ⟨_,he⟩ | ⟨_,he⟩ <;> cases he
  ·rcases at1 id _ h1 with ⟨_,rfl⟩ | ⟨rfl,_⟩
   ·cases l1
   ·rcases at1 id' _ h2 with ⟨_,rfl⟩ | ⟨rfl,_⟩
    ·cases l2
    ·rfl
  ·rcases at1 id _ hm with ⟨_,rfl⟩ | ⟨rfl,_⟩
   ·cases hl
   ·simp only [if_true] at hbb
    rw [hb] at hbb
    cases hι:C.ι 0 with
    | none=>rw [hnb hι] at hbb;cases hbb
    | some b' =>
     rw [(hblk b' hι).1] at hbb;cases hbb
     exact hM.nF 0 _ _ rfl rfl hι
  ·rcases at1 id _ hm with ⟨_,rfl⟩ | ⟨rfl,_⟩
   ·cases hl
   ·simp only [if_true] at hbb
    rw [hb] at hbb
    cases hι:C.ι 0 with
    | none=>rw [hnb hι] at hbb;cases hbb
    | some b' =>
     rw [(hblk b' hι).1] at hbb;cases hbb
     exact Nat.lt_of_lt_of_le (hM.lt 0 _ _ rfl rfl hι) hg.size
  ·have h0:u'.oneCell'=true:=by
    rcases hown.2 with ⟨rfl,_⟩ | ⟨g,cp,cur,rfl,_⟩ <;> rfl
   refine .own 1 _ h0 ⟨_,rfl⟩ fun ty n cs hx => ?_
   rcases at1 _ _ hx with ⟨he,_⟩ | ⟨_,he⟩
   ·cases he
   ·cases he
    simp only [if_true]
    rcases hown.2 with ⟨rfl,h9⟩ | ⟨g,cp,cur,rfl,_⟩
    ·exact .inl ⟨rfl,rfl,h9⟩
    ·exact .inr ⟨g,rfl,rfl⟩

theorem bGl(l:List Int)(hl:l.length≤1000000):FMM Tryz.prog 57 [.own 0] [some (pK l)] (.tup []) [some (pK (l.mergeSort leB))]:=fun C w us hus hM n=>by
 obtain ⟨u,rfl,hu⟩:=uU hus;refine (callsIn_wide.2 (bGi 0 u l w (bGk hM rfl hu) hl)).mono ?_;rintro e w' ⟨rfl,h1,h2⟩;obtain ⟨C',f,m,_⟩:=aFq (d:=false) hM hu h1 h2 rfl (fun _=>⟨rfl,List.length_mergeSort l⟩)
 exact ⟨_,rfl,C',f,m,.tup [] #[] rfl (fun i h=>by simp at h)⟩
theorem aCg(l:List Int):(Lib.compact l).length≤l.length:=by
 unfold Lib.compact Lib.compactUpTo;rw [List.length_map];exact Nat.le_trans (List.length_filter_le _ _) (by simp)
theorem aLz(base:Nat)(v:Value)(l:List Int)(w:World)(hv:KL.OwnI w base v l)(hlen:l.length≤1000000) :
  Calls Tryz.prog 186 #[v] w fun e w'=>∃ p' n' cap',e = .returned (.slice p' n' cap')∧n'=(Lib.compact l).length∧KL.OwnI w' base (.slice p' n' cap') (Lib.compact l)∧w.grownBy w' v.ownBlock∧((Value.slice p' n' cap').ownBlock=v.ownBlock):=by
 have hown:=hv
 rcases hv.2 with ⟨rfl,h0⟩ | ⟨b,cap,cur,rfl,hb,hg,hn,hm,hs,ht⟩
 ·have:l=[]:=List.eq_nil_of_length_eq_zero h0
  subst this;refine (Tryz.slices_Compact_int_empty none 0 w).mono ?_;rintro e w' ⟨rfl,rfl⟩;exact ⟨_,_,_,rfl,rfl,hown,World.grownBy.refl _ _,rfl⟩
 ·refine (Tryz.slices_Compact_int b 0 cap l w (holds_of_blockI hg (by simpa using ht)) (by omega) (by simpa using hn)).mono ?_
  rintro e w' ⟨rfl,q,rfl⟩;have hfl:=aCg l;refine ⟨_,_,_,rfl,rfl,?_,?_,rfl⟩
  ·have:=ownsRow_putRow (enc:=Value.int .i64) (q:=q) (k:=(Lib.compact l).length) (ys:=Lib.compact l++List.replicate (l.length-(Lib.compact l).length) 0) hown (by simp;omega) hfl
   unfold KL.OwnI;simpa using this
  ·exact grownBy_sortedI (os := #[]) (n:=q) (g:=b) (w:=w) ((Lib.compact l++List.replicate (l.length-(Lib.compact l).length) 0).toArray)
theorem aMa(l:List Int)(hl:l.length≤1000000):FMM Tryz.prog 186 [.own 0] [some (.row 3 l.length (l.map aA))] (.own 1) [some .dead,some (.row 3 (Lib.compact l).length ((Lib.compact l).map aA))]:=fun C w us hus hM n=>by
 obtain ⟨u,rfl,hu⟩:=uU hus;refine (callsIn_wide.2 (aLz 0 u l w (bGk hM rfl hu) hl)).mono ?_;rintro e w' ⟨p',n',cap',rfl,h0,h1,h2,h3⟩;obtain ⟨C',f,m,r⟩:=aFq (d:=true) hM hu h1 h2 h3 (fun h=>by cases h)
 exact ⟨_,rfl,C',f,m,r⟩
end KV
end Go.Proofs
end
namespace Go.Proofs
namespace KV
section

noncomputable abbrev qZ:Code:=sub (cd Tryz.f142) [1,1,0,1,0,0]
noncomputable abbrev wS:Code:=sub (cd Tryz.f141) [1,0,1,0,0]
noncomputable abbrev wT:Code:=sub (cd Tryz.f141) [1,0,1,0,0,1,1,0,0,1,1,1,1,1,0,0]
theorem aHw:0≤(0:Int)∧(0:Int)<2:=by first | decide | simp
theorem aHx:0≤(1:Int)∧(1:Int)<2:=by first | decide | simp
def gP(al:List fE)(s:Nat)(t:Int)(few:Nat)(many:Nat)(i:Nat):St:=⟨fr 39 [(1,(pI (s:Int))),(2,(pI t)),(6,(pI 0)),(7,(pI 0)),(8,(pI (few:Int))),(9,(pI (many:Int))),(12,(.p (.sl al.length ((al.map hpE).flatten)))),(13,(pI (al.length:Int))),(14,(pI (i:Int)))],[]⟩
theorem bSr{al:List fE}{s:Nat}{t:Int}{few'0 many'1 i'2:Nat}(hl0:aI Tp 0 qZ (gP al s t 0 0 0) (.exit 0) (gP al s t few'0 many'1 i'2)){base:Nat}:FV Tp 142 [(.p (.sl al.length ((al.map hpE).flatten))),(pI (s:Int)),(pI t)] base (.tup [(pI (few'0:Int)),(pI (many'1:Int))]) []:=by
 exact FV.fin Tryz.func142 rfl (o:=[.k 8 ⟨(rng [(0,1),(3,3),(10,2),(15,22)]),[],[],[]⟩ (.exit 0) (gP al s t few'0 many'1 i'2)]) (l:=[_]) (by kernel_rfl) (gc hl0.code gn)
theorem aZq{al:List fE}{s:Nat}{t:Int}{few many i:Nat}{c100:List cM}{mn101 mx102:Int}{i':Nat}(h0:(i:Int)<(al.length:Int))(h1:al[i]? = some (c100,mn101,mx102))(h2:(i:Int)=(s:Int))(h3:inR (((i+1):Nat):Int))(ei':i'=(i+1)):aC Tp 0 qZ (gP al s t few many i) .normal (gP al s t few many i'):=by
 subst ei';exact aC.fin (g:=⟨(rng [(0,1),(3,3),(10,2),(15,22)]),[],[],[]⟩) (o:=[bT,.x (.agg [(.sl c100.length ((c100.map chE).flatten)),(aA mn101),(aA mx102)]),bT]) (l:=[_,_,some (.agg ((((al.map hpE).flatten).drop (i*3)).take 3):PV)=some (.agg [(.sl c100.length ((c100.map chE).flatten)),(aA mn101),(aA mx102)]),(i*3)+3≤((al.map hpE).flatten).length,0≤(i:Int)∧(i:Int)<(al.length:Int)∧(i*3)<((al.map hpE).flatten).length,_]) (by kernel_rfl) (gc h3 (gc (dR h2) (gc (lZ (E:=hpE) (i:=i) (k:=3) (fun _=>rfl) h1 rfl) (gc (tO (E:=hpE) (i:=i) (k:=3) (fun _=>rfl) h1) (gc (rC (E:=hpE) (k:=3) (i:=(i:Int)) (fun _=>rfl) (by decide) (kQ2 _) h1) (gc (aY h0) gn))))))
theorem aZr{al:List fE}{s:Nat}{t:Int}{few many i:Nat}{c100:List cM}{mn101 mx102:Int}{few' many' i':Nat}(h0:(i:Int)<(al.length:Int))(h1:al[i]? = some (c100,mn101,mx102))(h2:(i:Int)≠(s:Int))(h3:mx102<t)(h4:inR (((few+1):Nat):Int))(h5:mn101<t)(h6:inR (((many+1):Nat):Int))(h7:inR (((i+1):Nat):Int))(efew':few'=(few+1))(emany':many'=(many+1))(ei':i'=(i+1)):aC Tp 0 qZ (gP al s t few many i) .normal (gP al s t few' many' i'):=by
 subst efew' emany' ei';exact aC.fin (g:=⟨(rng [(0,1),(3,3),(10,2),(15,22)]),[],[],[]⟩) (o:=[bT,.x (.agg [(.sl c100.length ((c100.map chE).flatten)),(aA mn101),(aA mx102)]),bF,bT,bT]) (l:=[_,_,_,_,_,_,_,_,some (.agg ((((al.map hpE).flatten).drop (i*3)).take 3):PV)=some (.agg [(.sl c100.length ((c100.map chE).flatten)),(aA mn101),(aA mx102)]),(i*3)+3≤((al.map hpE).flatten).length,0≤(i:Int)∧(i:Int)<(al.length:Int)∧(i*3)<((al.map hpE).flatten).length,_]) (by kernel_rfl) (gc h7 (gc h6 (gc (aY h5) (gc aHw (gc h4 (gc (aY h3) (gc aHx (gc (bI h2) (gc (lZ (E:=hpE) (i:=i) (k:=3) (fun _=>rfl) h1 rfl) (gc (tO (E:=hpE) (i:=i) (k:=3) (fun _=>rfl) h1) (gc (rC (E:=hpE) (k:=3) (i:=(i:Int)) (fun _=>rfl) (by decide) (kQ2 _) h1) (gc (aY h0) gn))))))))))))
theorem aZs{al:List fE}{s:Nat}{t:Int}{few many i:Nat}{c100:List cM}{mn101 mx102:Int}{few' i':Nat}(h0:(i:Int)<(al.length:Int))(h1:al[i]? = some (c100,mn101,mx102))(h2:(i:Int)≠(s:Int))(h3:mx102<t)(h4:inR (((few+1):Nat):Int))(h5:t≤mn101)(h6:inR (((i+1):Nat):Int))(efew':few'=(few+1))(ei':i'=(i+1)):aC Tp 0 qZ (gP al s t few many i) .normal (gP al s t few' many i'):=by
 subst efew' ei';exact aC.fin (g:=⟨(rng [(0,1),(3,3),(10,2),(15,22)]),[],[],[]⟩) (o:=[bT,.x (.agg [(.sl c100.length ((c100.map chE).flatten)),(aA mn101),(aA mx102)]),bF,bT,bF]) (l:=[_,_,_,_,_,_,_,some (.agg ((((al.map hpE).flatten).drop (i*3)).take 3):PV)=some (.agg [(.sl c100.length ((c100.map chE).flatten)),(aA mn101),(aA mx102)]),(i*3)+3≤((al.map hpE).flatten).length,0≤(i:Int)∧(i:Int)<(al.length:Int)∧(i*3)<((al.map hpE).flatten).length,_]) (by kernel_rfl) (gc h6 (gc (bG h5) (gc aHw (gc h4 (gc (aY h3) (gc aHx (gc (bI h2) (gc (lZ (E:=hpE) (i:=i) (k:=3) (fun _=>rfl) h1 rfl) (gc (tO (E:=hpE) (i:=i) (k:=3) (fun _=>rfl) h1) (gc (rC (E:=hpE) (k:=3) (i:=(i:Int)) (fun _=>rfl) (by decide) (kQ2 _) h1) (gc (aY h0) gn)))))))))))
theorem aZt{al:List fE}{s:Nat}{t:Int}{few many i:Nat}{c100:List cM}{mn101 mx102:Int}{many' i':Nat}(h0:(i:Int)<(al.length:Int))(h1:al[i]? = some (c100,mn101,mx102))(h2:(i:Int)≠(s:Int))(h3:t≤mx102)(h4:mn101<t)(h5:inR (((many+1):Nat):Int))(h6:inR (((i+1):Nat):Int))(emany':many'=(many+1))(ei':i'=(i+1)):aC Tp 0 qZ (gP al s t few many i) .normal (gP al s t few many' i'):=by
 subst emany' ei';exact aC.fin (g:=⟨(rng [(0,1),(3,3),(10,2),(15,22)]),[],[],[]⟩) (o:=[bT,.x (.agg [(.sl c100.length ((c100.map chE).flatten)),(aA mn101),(aA mx102)]),bF,bF,bT]) (l:=[_,_,_,_,_,_,_,some (.agg ((((al.map hpE).flatten).drop (i*3)).take 3):PV)=some (.agg [(.sl c100.length ((c100.map chE).flatten)),(aA mn101),(aA mx102)]),(i*3)+3≤((al.map hpE).flatten).length,0≤(i:Int)∧(i:Int)<(al.length:Int)∧(i*3)<((al.map hpE).flatten).length,_]) (by kernel_rfl) (gc h6 (gc h5 (gc (aY h4) (gc aHw (gc (bG h3) (gc aHx (gc (bI h2) (gc (lZ (E:=hpE) (i:=i) (k:=3) (fun _=>rfl) h1 rfl) (gc (tO (E:=hpE) (i:=i) (k:=3) (fun _=>rfl) h1) (gc (rC (E:=hpE) (k:=3) (i:=(i:Int)) (fun _=>rfl) (by decide) (kQ2 _) h1) (gc (aY h0) gn)))))))))))
theorem aZu{al:List fE}{s:Nat}{t:Int}{few many i:Nat}{c100:List cM}{mn101 mx102:Int}{i':Nat}(h0:(i:Int)<(al.length:Int))(h1:al[i]? = some (c100,mn101,mx102))(h2:(i:Int)≠(s:Int))(h3:t≤mx102)(h4:t≤mn101)(h5:inR (((i+1):Nat):Int))(ei':i'=(i+1)):aC Tp 0 qZ (gP al s t few many i) .normal (gP al s t few many i'):=by
 subst ei';exact aC.fin (g:=⟨(rng [(0,1),(3,3),(10,2),(15,22)]),[],[],[]⟩) (o:=[bT,.x (.agg [(.sl c100.length ((c100.map chE).flatten)),(aA mn101),(aA mx102)]),bF,bF,bF]) (l:=[_,_,_,_,_,_,some (.agg ((((al.map hpE).flatten).drop (i*3)).take 3):PV)=some (.agg [(.sl c100.length ((c100.map chE).flatten)),(aA mn101),(aA mx102)]),(i*3)+3≤((al.map hpE).flatten).length,0≤(i:Int)∧(i:Int)<(al.length:Int)∧(i*3)<((al.map hpE).flatten).length,_]) (by kernel_rfl) (gc h5 (gc (bG h4) (gc aHw (gc (bG h3) (gc aHx (gc (bI h2) (gc (lZ (E:=hpE) (i:=i) (k:=3) (fun _=>rfl) h1 rfl) (gc (tO (E:=hpE) (i:=i) (k:=3) (fun _=>rfl) h1) (gc (rC (E:=hpE) (k:=3) (i:=(i:Int)) (fun _=>rfl) (by decide) (kQ2 _) h1) (gc (aY h0) gn))))))))))
theorem aZv{al:List fE}{s:Nat}{t:Int}{few many i:Nat}(h0:(al.length:Int)≤(i:Int)):aC Tp 0 qZ (gP al s t few many i) (.exit 0) (gP al s t few many i):=by
 exact aC.fin (g:=⟨(rng [(0,1),(3,3),(10,2),(15,22)]),[],[],[]⟩) (o:=[bF]) (l:=[_]) (by kernel_rfl) (gc (bG h0) gn)
def iK(al:List fE)(s:Nat)(t:Int):Nat→Nat × Nat
 | 0=>(0,0)
 | i+1=>match al[i]? with
  | some h=>if i=s then iK al s t i else ((if h.2.2<t then (iK al s t i).1+1 else (iK al s t i).1),(if h.2.1<t then (iK al s t i).2+1 else (iK al s t i).2))
  | none=>iK al s t i
abbrev cX(al:List fE)(s:Nat)(t:Int):Nat × Nat:=iK al s t al.length
theorem oD(al:List fE)(s:Nat)(t:Int):∀ i,(iK al s t i).1≤i∧(iK al s t i).2≤i
 | 0=>⟨dU _,dU _⟩
 | i+1=>by
  have:=oD al s t i;unfold iK
  split
  ·split
   ·omega
   ·dsimp only
    split <;> split <;> omega
  ·omega
theorem bSs(al:List fE)(s:Nat)(t:Int)(hl:al.length≤1000){base:Nat}:FV Tp 142 [.p (.sl al.length (al.map hpE).flatten),.p (aA s),.p (aA t)] base (.tup [.p (aA ((cX al s t).1:Nat)),.p (aA ((cX al s t).2:Nat))]) []:=by
 obtain ⟨a,hI,hL⟩:=aI.ex (P:=Tp) (k:=0) (b:=qZ) (e := .exit 0) (fun i (a:Nat × Nat)=>gP al s t a.1 a.2 i) (fun a=>gP al s t a.1 a.2 al.length) (fun i a=>a=iK al s t i) (by simp) al.length
  (fun i a hi ha=>by
   obtain ⟨⟨c,mn,mx⟩,hx⟩:∃ x,al[i]? = some x:=⟨_,kQ0 hi⟩;have hle:=oD al s t i;refine ⟨_,rfl,?_⟩;subst ha;have e:iK al s t (i+1)=if i=s then iK al s t i else ((if mx<t then (iK al s t i).1+1 else (iK al s t i).1),(if mn<t then (iK al s t i).2+1 else (iK al s t i).2)):=by
    conv=>lhs;unfold iK
    rw [hx]
   rw [e]
   by_cases his:i=s
   ·rw [if_pos his];exact aZq (by omega) hx (by omega) (aO (by omega)) rfl
   ·rw [if_neg his]
    by_cases h1:mx<t <;> by_cases h2:mn<t
    ·rw [if_pos h1,if_pos h2];exact aZr (by omega) hx (by omega) h1 (aO (by omega)) h2 (aO (by omega)) (aO (by omega)) rfl rfl rfl
    ·rw [if_pos h1,if_neg h2];exact aZs (by omega) hx (by omega) h1 (aO (by omega)) (by omega) (aO (by omega)) rfl rfl
    ·rw [if_neg h1,if_pos h2];exact aZt (by omega) hx (by omega) (by omega) h2 (aO (by omega)) (aO (by omega)) rfl rfl
    ·rw [if_neg h1,if_neg h2];exact aZu (by omega) hx (by omega) (by omega) (by omega) (aO (by omega)) rfl)
  (fun a _=>aZv (by omega)) (acc:=(0,0)) rfl
 subst hI;exact bSr hL
def kG(al:List fE)(s:Nat)(c0:List cM)(on:Nat)(oc:List PV)(ou:Bool)(inn:Bool)(i:Nat):St:=⟨fr 51 [(0,(.p (.sl al.length ((al.map hpE).flatten)))),(1,(pI (s:Int))),(4,(.own 0)),(5,(pB ou)),(6,(pB inn)),(16,(.p (.sl c0.length ((c0.map chE).flatten)))),(17,(pI (c0.length:Int))),(18,(pI (i:Int)))],[some (.row 3 on oc)]⟩
theorem bSt{al:List fE}{s:Nat}{c0:List cM}{mn1 mx2:Int}{o'3:List Int}{ou'4 inn'5:Bool}{i'6:Nat}(h0:al[s]? = some (c0,mn1,mx2))(hl1:aI Tp 0 wS (kG al s c0 0 [] false false 0) (.exit 0) (kG al s c0 o'3.length (o'3.map aA) ou'4 inn'5 i'6))(h2:o'3.length≤1000000)(h3:(o'3.mergeSort KL.leB).length≤1000000){base:Nat}:FV Tp 141 [(.p (.sl al.length ((al.map hpE).flatten))),(pI (s:Int))] base (.tup [(.p (aG (Lib.compact (o'3.mergeSort KL.leB)))),(pB ou'4),(pB inn'5)]) []:=by
 exact FV.frz (FMM.fin (k:=0) (g:=⟨[],[],[1],[]⟩) rfl Tryz.func141 rfl (o:=[.x (.sl c0.length ((c0.map chE).flatten)),.k 1 ⟨(rng [(2,2),(7,9),(19,26),(46,1)]),[0],[],[(4,3),(5,0),(6,0)]⟩ (.exit 0) (kG al s c0 o'3.length (o'3.map aA) ou'4 inn'5 i'6),.c (.tup []) [(0,(.row 3 ((o'3.mergeSort KL.leB).length) ((o'3.mergeSort KL.leB).map aA)))],.c (.own 1) [(0,.dead),(1,(.row 3 ((Lib.compact (o'3.mergeSort KL.leB)).length) ((Lib.compact (o'3.mergeSort KL.leB)).map aA)))]]) (l:=[FC Tp 186 [(.own 0)] [(0,(.row 3 ((o'3.mergeSort KL.leB).length) ((o'3.mergeSort KL.leB).map aA)))] 1 (.own 1) [(0,.dead),(1,(.row 3 ((Lib.compact (o'3.mergeSort KL.leB)).length) ((Lib.compact (o'3.mergeSort KL.leB)).map aA)))],FC Tp 57 [(.own 0)] [(0,(.row 3 o'3.length (o'3.map aA)))] 1 (.tup []) [(0,(.row 3 ((o'3.mergeSort KL.leB).length) ((o'3.mergeSort KL.leB).map aA)))],_,((al.map hpE).flatten)[(s*3)]? = some (.sl c0.length ((c0.map chE).flatten)),0≤(s:Int)∧(s:Int)<(al.length:Int)∧(s*3)<((al.map hpE).flatten).length]) (by kernel_rfl) (gc (FMM.fc (ids:=[0]) (aMa (o'3.mergeSort KL.leB) h3) (by kernel_rfl)) (gc (FMM.fc (ids:=[0]) (bGl o'3 h2) (by kernel_rfl)) (gc hl1.code (gc (bBh (E:=hpE) (i:=s) (f:=0) (k:=3) (fun _=>rfl) h0 rfl) (gc (rC (E:=hpE) (k:=3) (i:=(s:Int)) (fun _=>rfl) (by decide) (kQ2 _) h0) gn)))))) (by kernel_rfl)
def kH(al:List fE)(s:Nat)(c0:List cM)(ou:Bool)(i:Nat)(t100:Int)(b101:Bool)(q102:List Int)(on:Nat)(oc:List PV)(n:Nat):St:=⟨fr 51 [(0,(.p (.sl al.length ((al.map hpE).flatten)))),(1,(pI (s:Int))),(4,(.own 0)),(5,(pB ou)),(6,(.kb true)),(8,(.ptr 1 0)),(9,(pI (((cX al s t100).1:Nat):Int))),(10,(pI (((cX al s t100).2:Nat):Int))),(11,(pI (n:Int))),(16,(.p (.sl c0.length ((c0.map chE).flatten)))),(17,(pI (c0.length:Int))),(18,(pI (i:Int))),(19,(pB (decide ((i:Int)<(c0.length:Int))))),(20,(.rp ((c0.map chE).flatten) (i*3))),(21,(.p (.agg [(aA t100),(blP b101),(aG q102)]))),(22,(.ptr 1 1)),(23,(pB b101)),(24,(.tup [(pI (((cX al s t100).1:Nat):Int)),(pI (((cX al s t100).2:Nat):Int))])),(25,(.p (.sl al.length ((al.map hpE).flatten)))),(26,(pI (s:Int))),(27,(.ptr 1 0)),(28,(pI t100)),(29,(.tup [(pI (((cX al s t100).1:Nat):Int)),(pI (((cX al s t100).2:Nat):Int))])),(30,(pI (((cX al s t100).1:Nat):Int))),(31,(pI (((cX al s t100).2:Nat):Int))),(32,(pI (((cX al s t100).1:Nat):Int))),(33,(pI ((((cX al s t100).1+1):Nat):Int)))],[some (.row 3 on oc),some (.box 197 [(pI t100),(pB b101),(.p (aG q102))])]⟩
theorem aZw{al:List fE}{s:Nat}{c0:List cM}{o:List Int}{ou inn:Bool}{i:Nat}{t100:Int}{b101:Bool}{q102:List Int}{i':Nat}(h0:(i:Int)<(c0.length:Int))(h1:c0[i]? = some (t100,b101,q102))(h2:b101=true)(h3:inR (((i+1):Nat):Int))(ei':i'=(i+1)):aC Tp 0 wS (kG al s c0 o.length (o.map aA) ou inn i) .normal (kG al s c0 o.length (o.map aA) true inn i'):=by
 subst ei';exact aC.fin (g:=⟨(rng [(2,2),(7,9),(19,26),(46,1)]),[0],[],[(5,0)]⟩) (o:=[bT,.x (.agg [(aA t100),(blP b101),(aG q102)]),bT]) (l:=[_,_,some (.agg ((((c0.map chE).flatten).drop (i*3)).take 3):PV)=some (.agg [(aA t100),(blP b101),(aG q102)]),(i*3)+3≤((c0.map chE).flatten).length,0≤(i:Int)∧(i:Int)<(c0.length:Int)∧(i*3)<((c0.map chE).flatten).length,_]) (by kernel_rfl) (gc h3 (gc h2 (gc (lZ (E:=chE) (i:=i) (k:=3) (fun _=>rfl) h1 rfl) (gc (tO (E:=chE) (i:=i) (k:=3) (fun _=>rfl) h1) (gc (rC (E:=chE) (k:=3) (i:=(i:Int)) (fun _=>rfl) (by decide) (kQ2 _) h1) (gc (aY h0) gn))))))
theorem aZx{al:List fE}{s:Nat}{c0:List cM}{o:List Int}{ou inn:Bool}{i:Nat}{t100:Int}{b101:Bool}{q102 o'103:List Int}{n'104:Nat}{o':List Int}{i':Nat}(h0:(i:Int)<(c0.length:Int))(h1:c0[i]? = some (t100,b101,q102))(h2:b101=false)(h3:al.length≤1000)(h4:inR ((((cX al s t100).1+1):Nat):Int))(hl5:aI Tp 0 wT (kH al s c0 ou i t100 b101 q102 o.length (o.map aA) ((cX al s t100).1+1)) (.exit 2) (kH al s c0 ou i t100 b101 q102 o'103.length (o'103.map aA) n'104))(h6:inR (((i+1):Nat):Int))(eo'n:o'.length=o'103.length)(eo'c:o'.map aA=(o'103.map aA))(ei':i'=(i+1)):aC Tp 0 wS (kG al s c0 o.length (o.map aA) ou inn i) .normal (kG al s c0 o'.length (o'.map aA) ou true i'):=by
 subst ei';have raw:aC Tp 0 wS (kG al s c0 o.length (o.map aA) ou inn i) .normal (kG al s c0 o'103.length (o'103.map aA) ou true (i+1)):=aC.fin (g:=⟨(rng [(2,2),(7,9),(19,26),(46,1)]),[0],[],[(6,0)]⟩) (o:=[bT,.x (.agg [(aA t100),(blP b101),(aG q102)]),bF,.c (.tup [(pI (((cX al s t100).1:Nat):Int)),(pI (((cX al s t100).2:Nat):Int))]) [],.k 3 ⟨(rng [(2,2),(7,1),(12,4),(34,10),(46,1)]),[0,1],[],[]⟩ (.exit 2) (kH al s c0 ou i t100 b101 q102 o'103.length (o'103.map aA) n'104)]) (l:=[_,_,_,_,_,some (.agg ((((c0.map chE).flatten).drop (i*3)).take 3):PV)=some (.agg [(aA t100),(blP b101),(aG q102)]),(i*3)+3≤((c0.map chE).flatten).length,0≤(i:Int)∧(i:Int)<(c0.length:Int)∧(i*3)<((c0.map chE).flatten).length,_]) (by kernel_rfl) (gc h6 (gc hl5.code (gc h4 (gc (fk 2 (bSs al s t100 h3) rfl) (gc h2 (gc (lZ (E:=chE) (i:=i) (k:=3) (fun _=>rfl) h1 rfl) (gc (tO (E:=chE) (i:=i) (k:=3) (fun _=>rfl) h1) (gc (rC (E:=chE) (k:=3) (i:=(i:Int)) (fun _=>rfl) (by decide) (kQ2 _) h1) (gc (aY h0) gn)))))))))
 exact raw.cast (by rw [eo'n,eo'c])
theorem aZy{al:List fE}{s:Nat}{c0:List cM}{o:List Int}{ou inn:Bool}{i:Nat}(h0:(c0.length:Int)≤(i:Int)):aC Tp 0 wS (kG al s c0 o.length (o.map aA) ou inn i) (.exit 0) (kG al s c0 o.length (o.map aA) ou inn i):=by
 exact aC.fin (g:=⟨(rng [(2,2),(7,9),(19,26),(46,1)]),[0],[],[]⟩) (o:=[bF]) (l:=[_]) (by kernel_rfl) (gc (bG h0) gn)
theorem aZz{al:List fE}{s:Nat}{c0:List cM}{ou:Bool}{i:Nat}{t100:Int}{b101:Bool}{q102 o:List Int}{n:Nat}{o':List Int}{n':Nat}(h0:inR ((((cX al s t100).2+1):Nat):Int))(h1:(n:Int)≤((((cX al s t100).2+1):Nat):Int))(h2:[(aA (n:Int))].length=1*1∧o.length+1≤1000000)(h3:inR (((n+1):Nat):Int))(eo'n:o'.length=(o.length+1))(eo'c:o'.map aA=((o.map aA)++[(aA (n:Int))]))(en':n'=(n+1)):aC Tp 0 wT (kH al s c0 ou i t100 b101 q102 o.length (o.map aA) n) .normal (kH al s c0 ou i t100 b101 q102 o'.length (o'.map aA) n'):=by
 subst en';have raw:aC Tp 0 wT (kH al s c0 ou i t100 b101 q102 o.length (o.map aA) n) .normal (kH al s c0 ou i t100 b101 q102 (o.length+1) ((o.map aA)++[(aA (n:Int))]) (n+1)):=aC.fin (g:=⟨(rng [(2,2),(7,1),(12,4),(34,10),(46,1)]),[3,1],[],[]⟩) (o:=[bT]) (l:=[_,_,_,_]) (by kernel_rfl) (gc h3 (gc h2 (gc (aKm h1) (gc h0 gn))))
 exact raw.cast (by rw [eo'n,eo'c])
theorem bAa{al:List fE}{s:Nat}{c0:List cM}{ou:Bool}{i:Nat}{t100:Int}{b101:Bool}{q102 o:List Int}{n:Nat}(h0:inR ((((cX al s t100).2+1):Nat):Int))(h1:((((cX al s t100).2+1):Nat):Int)<(n:Int)):aC Tp 0 wT (kH al s c0 ou i t100 b101 q102 o.length (o.map aA) n) (.exit 2) (kH al s c0 ou i t100 b101 q102 o.length (o.map aA) n):=by
 exact aC.fin (g:=⟨(rng [(2,2),(7,1),(12,4),(34,10),(46,1)]),[0,1],[],[]⟩) (o:=[bF]) (l:=[_,_]) (by kernel_rfl) (gc (kP h1) (gc h0 gn))
def aLo(few many:Nat):List Int:=(List.range (many+1-few)).map fun j=>((few+1+j:Nat):Int)
def chL(al:List fE)(s:Nat)(c:cM):List Int:=if c.2.1 then [] else aLo (cX al s c.1).1 (cX al s c.1).2
def lI(al:List fE)(s:Nat)(c:List cM):List Int:=Lib.compact ((c.flatMap (chL al s)).mergeSort KL.leB)
theorem bFp{a b:Nat}(h:b≤1000):(aLo a b).length≤1001:=by unfold aLo;simp;omega
theorem bKy(al:List fE)(hal:al.length≤1000)(s:Nat)(c:cM):(chL al s c).length≤1001:=by
 unfold chL
 split
 ·simp
 ·exact bFp (by have:(cX al s c.1).2≤al.length:=(oD al s c.1 al.length).2;omega)
theorem aHy{al:List fE}(hal:al.length≤1000)(s:Nat):∀ c:List cM,(c.flatMap (chL al s)).length≤c.length*1001
 | []=>by simp
 | x::c=>by
  rw [List.flatMap_cons,mD,tC];have:=bKy al hal s x;have:=aHy hal s c;omega
theorem bSu{al:List fE}(hal:al.length≤1000)(s:Nat)(c0:List cM)(ou:Bool)(i:Nat)(t:Int)(b:Bool)(q o:List Int)(ho:o.length≤900000) :
  ∃ n',aI Tp 0 wT (kH al s c0 ou i t b q o.length (o.map aA) ((cX al s t).1+1)) (.exit 2) (kH al s c0 ou i t b q (o++aLo (cX al s t).1 (cX al s t).2).length ((o++aLo (cX al s t).1 (cX al s t).2).map aA) n'):=by
 have h1:(cX al s t).1≤al.length:=(oD al s t al.length).1;have h2:(cX al s t).2≤al.length:=(oD al s t al.length).2;obtain ⟨x,hI,hL⟩:=aI.ex (P:=Tp) (k:=0) (b:=wT) (e := .exit 2) (fun j (x:List Int)=>kH al s c0 ou i t b q x.length (x.map aA) ((cX al s t).1+1+j)) (fun x=>kH al s c0 ou i t b q x.length (x.map aA) ((cX al s t).1+1+((cX al s t).2+1-(cX al s t).1)))
  (fun j x=>x=o++(List.range j).map fun j=>(((cX al s t).1+1+j:Nat):Int)) (by simp) ((cX al s t).2+1-(cX al s t).1)
  (fun j x hj hx=>by
   have hlen:x.length=o.length+j:=by rw [hx];simp
   refine ⟨x++[(((cX al s t).1+1+j:Nat):Int)],?_,aZz (aO (by omega)) (by omega) ⟨rfl,by omega⟩ (aO (by omega)) (by simp) (by simp) rfl⟩
   rw [hx,List.range_succ];simp)
  (fun x _=>bAa (aO (by omega)) (by omega)) (acc:=o) (by simp)
 rw [show o++aLo (cX al s t).1 (cX al s t).2=x from hI.symm]
 exact ⟨_,hL⟩
theorem aQb{al:List fE}(hal:al.length≤1000){s:Nat}{c:List cM}{mn mx:Int}(hx:al[s]? = some (c,mn,mx))(hc:c.length≤256){base:Nat} :
  FV Tp 141 [.p (.sl al.length (al.map hpE).flatten),.p (aA s)] base (.tup [.p (aG (lI al s c)),.p (blP (c.any fun x=>x.2.1)),.p (blP (c.any fun x => !x.2.1))]) []:=by
 obtain ⟨a,⟨hI,hJ,hK⟩,hL⟩:=aI.ex (P:=Tp) (k:=0) (b:=wS) (e := .exit 0) (fun i (a:List Int × Bool × Bool)=>kG al s c a.1.length (a.1.map aA) a.2.1 a.2.2 i) (fun a=>kG al s c a.1.length (a.1.map aA) a.2.1 a.2.2 c.length)
  (fun i a=>a.1=(c.take i).flatMap (chL al s)∧a.2.1=((c.take i).any fun x=>x.2.1)∧a.2.2=((c.take i).any fun x => !x.2.1)) (by simp) c.length
  (fun i a hi ha=>by
   obtain ⟨ha1,ha2,ha3⟩:=ha;obtain ⟨⟨t,b,q⟩,hx⟩:∃ x,c[i]? = some x:=⟨_,kQ0 hi⟩;have hlen:a.1.length≤256*1001:=by
    rw [ha1];have:=aHy hal s (c.take i);rw [mX] at this
    have:min i c.length≤256:=by omega
    omega
   have e1:c.take (i+1)=c.take i++[(t,b,q)]:=by rw [List.take_add_one,hx];rfl
   cases b with
   | true=>exact ⟨(a.1,true,a.2.2),⟨by rw [ha1,e1];simp [chL],by rw [e1];simp,by rw [ha3,e1];simp⟩,aZw (by omega) hx rfl (aO (by omega)) rfl⟩
   | false =>
    have h1:(cX al s t).1≤al.length:=(oD al s t al.length).1;obtain ⟨n',hl⟩:=bSu hal s c a.2.1 i t false q a.1 (by omega)
    exact ⟨(a.1++aLo (cX al s t).1 (cX al s t).2,a.2.1,true),⟨by rw [ha1,e1];simp [chL],by rw [ha2,e1];simp,by rw [e1];simp⟩,aZx (by omega) hx rfl hal (aO (by omega)) hl (aO (by omega)) rfl rfl rfl⟩)
  (fun a _=>aZy (by omega)) (acc:=([],false,false)) (by simp)
 rw [List.take_length] at hI hJ hK
 have hb:=aHy hal s c;have:=bSt (s:=s) hx hL (by rw [hI];omega) (by rw [List.length_mergeSort,hI];omega) (base:=base)
 rw [hI,hJ,hK] at this
 exact this
end
section
variable {dl:Int}{sk dc:Lqq}

theorem bFo:((0:Int) != (0:Int))=false:=by first | decide | simp
def qY(l:Lqq)(x0:Int)(x1:Int)(i:Nat):St:=⟨fr 19 [(0,(.p (fS l))),(3,(.ptr 0 0)),(7,(pI (l.length:Int))),(8,(pI (i:Int)))],[some (.box 31 [(pI x0),(pI x1)])]⟩
theorem bSn{l:Lqq}{x0 x1:Int}{i'0:Nat}(hl0:aI Tp 0 (sub (cd Tryz.f185) [1,0,1,0,0]) (qY l x0 x1 0) .ret (cF (qY l x0 x1 i'0) [(4,(pI (i'0:Int)))])){base:Nat}:FV Tp 185 [(.p (fS l)),(.p (.agg [(aA x0),(aA x1)]))] base (pI (i'0:Int)) []:=by
 exact FV.fin Tryz.func185 rfl (o:=[.k 6 ⟨(rng [(1,2),(4,3),(9,10)]),[0],[],[]⟩ .ret (cF (qY l x0 x1 i'0) [(4,(pI (i'0:Int)))])]) (l:=[_]) (by kernel_rfl) (gc hl0.code gn)
theorem aZo{l:Lqq}{x0 x1:Int}{i:Nat}{y100 y101:Int}(h0:(i:Int)<(l.length:Int))(h1:l[i]? = some [y100,y101])(h2:uni 2 l)(h3:cY [(aA x0),(aA x1)] [(0,3,true),(1,3,true)]=true∧cY [(aA y100),(aA y101)] [(0,3,true),(1,3,true)]=true)(h4:(jL [(aA x0),(aA x1)] [(aA y100),(aA y101)] [(0,3,true),(1,3,true)])=true):aC Tp 0 (sub (cd Tryz.f185) [1,0,1,0,0]) (qY l x0 x1 i) .ret (cF (qY l x0 x1 i) [(4,(pI (i:Int)))]):=by
 exact aC.fin (g:=⟨(rng [(1,2),(5,2),(9,10)]),[0],[],[]⟩) (o:=[bT,.x (.agg [(aA y100),(aA y101)]),bT]) (l:=[_,_,_,_,0≤(i:Int)∧(i:Int)<(l.length:Int)∧(i*2)<(l.flatten.map aA).length,_]) (by kernel_rfl) (gc h4 (gc h3 (gc (aS (i:=i) h2 h1) (gc (bH (i:=i) h2 h1) (gc (bR (k:=2) (i:=(i:Int)) (by decide) h2 (kQ2 _) h1) (gc (aY h0) gn))))))
theorem aZp{l:Lqq}{x0 x1:Int}{i:Nat}{y100 y101:Int}{i':Nat}(h0:(i:Int)<(l.length:Int))(h1:l[i]? = some [y100,y101])(h2:uni 2 l)(h3:cY [(aA x0),(aA x1)] [(0,3,true),(1,3,true)]=true∧cY [(aA y100),(aA y101)] [(0,3,true),(1,3,true)]=true)(h4:(jL [(aA x0),(aA x1)] [(aA y100),(aA y101)] [(0,3,true),(1,3,true)])=false)(h5:inR (((i+1):Nat):Int))(ei':i'=(i+1)):aC Tp 0 (sub (cd Tryz.f185) [1,0,1,0,0]) (qY l x0 x1 i) .normal (qY l x0 x1 i'):=by
 subst ei';exact aC.fin (g:=⟨(rng [(1,2),(4,3),(9,10)]),[0],[],[]⟩) (o:=[bT,.x (.agg [(aA y100),(aA y101)]),bF]) (l:=[_,_,_,_,_,0≤(i:Int)∧(i:Int)<(l.length:Int)∧(i*2)<(l.flatten.map aA).length,_]) (by kernel_rfl) (gc h5 (gc h4 (gc h3 (gc (aS (i:=i) h2 h1) (gc (bH (i:=i) h2 h1) (gc (bR (k:=2) (i:=(i:Int)) (by decide) h2 (kQ2 _) h1) (gc (aY h0) gn)))))))
theorem bSo{l:Lqq}(hu:uni 2 l)(hn:(aJ l 0).Nodup)(hl:l.length≤1000){i:Nat}{x0 x1:Int}(hi:l[i]? = some [x0,x1]){base:Nat}:FV Tp 185 [.p (fS l),.p (.agg [aA x0,aA x1])] base (pI (i:Int)) []:=by
 have hlt:=bC hi;refine bSn (i'0:=i) ?_;have hne:∀ j,j<i→∃ y0 y1,l[j]? = some [y0,y1]∧y0≠x0:=fun j hj=>by
  obtain ⟨y0,y1,hy⟩:=at2 hu (i:=j) (by omega)
  refine ⟨y0,y1,hy,fun e => ?_⟩
  have e1:(aJ l 0)[j]? = some y0:=by unfold aJ;rw [iG,hy];rfl
  have e2:(aJ l 0)[i]? = some x0:=by unfold aJ;rw [iG,hi];rfl
  obtain ⟨hj1,hj2⟩:=kQ3.1 e1;obtain ⟨hi1,hi2⟩:=kQ3.1 e2;have:=List.pairwise_iff_getElem.1 hn j i hj1 hi1 hj;rw [hj2,hi2] at this
  exact this e
 exact aI.until (P:=Tp) i (fun j=>qY l x0 x1 j) i (dU _)
  (fun j hj=>by
   obtain ⟨y0,y1,hy,hn⟩:=hne j hj;exact aZp (by omega) hy hu ⟨rfl,rfl⟩ (by simp [jL,uI];exact fun h=>absurd h.symm hn) (aO (by omega)) rfl)
  (aZo (by omega) hi hu ⟨rfl,rfl⟩ (by simp [jL,uI])) (by simp)
theorem rS(h:cB dl sk dc):uni 2 (aB sk)∧(aB sk).length≤30∧(∀ s∈aB sk,-1≤s.getD 1 0∧s.getD 1 0≤360000)∧(aJ (aB sk) 0).Nodup:=by
 have hp:=eR sk;refine ⟨fA h.us,by rw [eO];exact h.len.2,fun s hs=>(aHc.1 (h.hsk s (hp.mem_iff.1 hs))).2,?_⟩
 unfold aJ;exact (hp.map _).nodup_iff.2 h.ns
theorem aTd(h:cB dl sk dc)(ho:(aP dl (aB dc)).length≤8){base:Nat}:FV Tp 161 [pQ dl (aB sk) (aB dc)] base (.tup [.own base,.p (aA 0)]) [(base,.row 195 (bL dl (aB sk) (aB dc)).length ((bL dl (aB sk) (aB dc)).map hpE).flatten)]:=by
 obtain ⟨h1,h2,h3,_⟩:=rS h;exact bSw (gM h) h1 (by omega) h3 ho
theorem bKx(h:cB dl sk dc){i:Nat}{x0 x1:Int}(hi:(aB sk)[i]? = some [x0,x1]){base:Nat}:FV Tp 185 [.p (fS (aB sk)),.p (.agg [aA x0,aA x1])] base (pI (i:Int)) []:=by
 obtain ⟨h1,h2,_,h4⟩:=rS h;exact bSo h1 h4 (by omega) hi
theorem bSp{bib:Int}{i0:Nat}{s1 s2:Int}(h0:cB dl sk dc)(h1:rB (aB sk) bib=(i0:Int))(h2:(aB sk)[i0]? = some [s1,s2])(h3:(aP dl (aB dc)).length≤8){base:Nat}:FV Tp 140 [(.p (.agg (cL dl sk dc))),(pI bib)] base (.tup [(.p (.sl ((bL dl (aB sk) (aB dc)).length) (((bL dl (aB sk) (aB dc)).map hpE).flatten))),(pI (i0:Int)),(pI 0)]) []:=by
 exact FV.frz (FMM.fin (k:=0) (g:=⟨[],[],[2],[]⟩) rfl Tryz.func140 rfl (o:=[.c (.tup [(.rp (aH dl (aB sk) (aB dc)) 0),(.p (.agg [(aA s1),(aA s2)])),(pI 0)]) [],bF,.c (.tup [(.own 2),(pI 0)]) [(2,(.row 195 ((bL dl (aB sk) (aB dc)).length) (((bL dl (aB sk) (aB dc)).map hpE).flatten)))],.x (.sl ((aB sk).length) ((aB sk).flatten.map aA)),.c (pI (i0:Int)) []]) (l:=[_,(aH dl (aB sk) (aB dc))[1]? = some (.sl ((aB sk).length) ((aB sk).flatten.map aA)),_,_,_]) (by kernel_rfl) (gc (fk 3 (bKx h0 h2) rfl) (gc rfl (gc (fk 2 (aTd h0 h3) rfl) (gc bFo (gc (fk 1 (bGd h0 h1 h2) rfl) gn)))))) (by kernel_rfl)
theorem bSq{bib:Int}{i0:Nat}{s1 s2:Int}{c3:List cM}{mn4 mx5:Int}{r0:Bool}(h0:cB dl sk dc)(h1:rB (aB sk) bib=(i0:Int))(h2:(aB sk)[i0]? = some [s1,s2])(h3:(aP dl (aB dc)).length≤8)(h4:(bL dl (aB sk) (aB dc))[i0]? = some (c3,mn4,mx5))(h5:(bL dl (aB sk) (aB dc)).length≤1000)(h6:c3.length≤256)(er0:r0=(c3.any fun x=>x.2.1)){base:Nat}:FV Tp 71 [(.p (.agg (cL dl sk dc))),(pI bib)] base (.tup [(.p (aG (lI (bL dl (aB sk) (aB dc)) i0 c3))),(pB r0),(pI 0)]) []:=by
 subst er0;exact FV.fin Tryz.func71 rfl (o:=[.c (.tup [(.p (.sl ((bL dl (aB sk) (aB dc)).length) (((bL dl (aB sk) (aB dc)).map hpE).flatten))),(pI (i0:Int)),(pI 0)]) [],bF,.c (.tup [(.p (aG (lI (bL dl (aB sk) (aB dc)) i0 c3))),(pB (c3.any fun x=>x.2.1)),(pB (c3.any fun x => !x.2.1))]) []]) (l:=[_,_,FC Tp 140 [(.p (.agg (cL dl sk dc))),(pI bib)] [] 1 (.tup [(.p (.sl ((bL dl (aB sk) (aB dc)).length) (((bL dl (aB sk) (aB dc)).map hpE).flatten))),(pI (i0:Int)),(pI 0)]) []]) (by kernel_rfl) (gc (fk 1 (aQb h5 h4 h6) rfl) (gc bFo (gc (FV.fc (bSp h0 h1 h2 h3) rfl) gn)))
end
section
variable {dl:Int}{sk dc:Lqq}

noncomputable abbrev aCc:Code:=sub (cd Tryz.f93) [1,1,1,1,1,1,1,0,1,0,0]
theorem bFm:((0:Int) != (0:Int))=false:=by first | decide | simp
theorem bSi{l:List Int}{a b:Bool}{f x0:Int}{r0:Bool}(h0:b=true)(h1:a=false)(h2:inR ((l.length:Int)-1))(h3:l[((l.length:Int)-1).toNat]? = some x0)(h4:0≤((l.length:Int)-1))(er0:r0=(decide (x0≤f))){base:Nat}:FV Tp 95 [(.p (aG l)),(pB a),(pB b),(.rp [(aA f)] 0)] base (pB r0) []:=by
 subst er0;exact FV.fin Tryz.func95 rfl (o:=[bT,bT,bT,bT,bT,bT,bT,bT,bT,.x (aA x0),bT,.x (aA f),bT,bT]) (l:=[_,_,[(aA f)][0]? = some (aA f),_,(l.map aA)[(((l.length:Int)-1).toNat*1)]? = some (aA x0),_,_,_,_,_,_,_,_,_,_,_]) (by kernel_rfl) (g2c (bU h1) (gc rfl (gc (bU h1) (gc (lS (i:=((l.length:Int)-1).toNat) h3) (gc (bU h1) (gc (oX (g:=aA) h4 h3) (gc (bU h1) (gc h2 (g4c (bU h1) (g3c h0 gn))))))))))
theorem bSj{l:List Int}{a b:Bool}{f:Int}(h0:b=true)(h1:a=true){base:Nat}:FV Tp 95 [(.p (aG l)),(pB a),(pB b),(.rp [(aA f)] 0)] base (pB false) []:=by
 exact FV.fin Tryz.func95 rfl (o:=[bT,bT,bT,bF,bF,bF,bF,bF,bF,bF,bF,bF]) (l:=[_,_,_,_,_,_,_,_,_,_,_,_]) (by kernel_rfl) (g8c (aV h1) (gc (aV h1) (g3c h0 gn)))
theorem bSk{l:List Int}{a b:Bool}{f:Int}(h0:b=false){base:Nat}:FV Tp 95 [(.p (aG l)),(pB a),(pB b),(.rp [(aA f)] 0)] base (pB false) []:=by
 exact FV.fin Tryz.func95 rfl (o:=[bF,bF,bF]) (l:=[_,_,_]) (by kernel_rfl) (g3c h0 gn)
def aHv(l:List Int)(a b:Bool)(f:Int):Bool:=b && (!a && decide (l.getD (l.length-1) 0≤f))
theorem bFn(l:List Int)(a b:Bool)(f:Int)(hl:l.length≤1000000)(hb:b=true→l≠[]){base:Nat}:FV Tp 95 [.p (aG l),.p (blP a),.p (blP b),.rp [aA f] 0] base (pB (aHv l a b f)) []:=by
 cases b with
 | false=>exact bSk rfl
 | true =>
  cases a with
  | true=>exact bSj rfl rfl
  | false =>
   have h0:=hb rfl;have h1:0<l.length:=List.length_pos_iff.2 h0;have h2:l[l.length-1]? = some (l.getD (l.length-1) 0):=by rw [kQ4,kQ0 (by omega)];rfl
   have e:((l.length:Int)-1).toNat=l.length-1:=by omega
   exact bSi (x0:=l.getD (l.length-1) 0) rfl rfl (by unfold inR;omega) (by rw [e];exact h2) (by omega) (by unfold aHv;simp)
def kF(dl:Int)(sk:Lqq)(dc:Lqq)(fi:Int)(on:Nat)(oc:List PV)(i:Nat):St:=⟨fr 58 [(2,(.fn 95 [] [(.rp [(aA fi)] 0)])),(6,(.p bW)),(7,(pI 0)),(10,(.p (.sl ((bL dl (aB sk) (aB dc)).length) (((bL dl (aB sk) (aB dc)).map hpE).flatten)))),(11,(.own 0)),(36,(.p (.sl ((aB sk).length) ((aB sk).flatten.map aA)))),(37,(pI (((aB sk).length:Nat):Int))),(38,(pI (i:Int)))],[some (.row 3 on oc)]⟩
theorem bSl{fi:Int}{o'0:List Int}{i'1:Nat}(h0:cB dl sk dc)(h1:(1:Int)≤fi)(h2:(aP dl (aB dc)).length≤8)(hl3:aI Tp 0 aCc (kF dl sk dc fi 0 [] 0) (.exit 0) (kF dl sk dc fi o'0.length (o'0.map aA) i'1)){base:Nat}:FV Tp 93 [(.p (.agg (cL dl sk dc))),(pI fi),(.fn 95 [] [(.rp [(aA fi)] 0)])] base (.tup [(.p (aG o'0)),(pI 0)]) []:=by
 exact FV.frz (FMM.fin (k:=0) (g:=⟨[],[],[0],[]⟩) rfl Tryz.func93 rfl (o:=[.c (.tup [(.rp (aH dl (aB sk) (aB dc)) 0),(pI 0)]) [],bF,bF,.c (.tup [(.own 1),(pI 0)]) [(1,(.row 195 ((bL dl (aB sk) (aB dc)).length) (((bL dl (aB sk) (aB dc)).map hpE).flatten)))],bF,.g 1 ⟨[],[0],[1],[]⟩,.x (.sl ((aB sk).length) ((aB sk).flatten.map aA)),.k 1 ⟨(rng [(0,2),(3,3),(8,2),(12,24),(39,18)]),[1],[],[(11,3)]⟩ (.exit 0) (kF dl sk dc fi o'0.length (o'0.map aA) i'1)]) (l:=[_,(aH dl (aB sk) (aB dc))[1]? = some (.sl ((aB sk).length) ((aB sk).flatten.map aA)),_,_,_,_,_]) (by kernel_rfl) (gc hl3.code (gc rfl (gc bFm (gc (fk 1 (aTd h0 h2) rfl) (gc (bG h1) (gc bFm (gc (fk 1 (jT dl sk dc h0) rfl) gn)))))))) (by kernel_rfl)
theorem aZl{fi:Int}{o:List Int}{i:Nat}{y100 y101:Int}{c102:List cM}{mn103 mx104:Int}{o':List Int}{i':Nat}(h0:(i:Int)<(((aB sk).length:Nat):Int))(h1:(aB sk)[i]? = some [y100,y101])(h2:uni 2 (aB sk))(h3:(bL dl (aB sk) (aB dc))[i]? = some (c102,mn103,mx104))(h4:(bL dl (aB sk) (aB dc)).length≤1000)(h5:c102.length≤256)(h6:(lI (bL dl (aB sk) (aB dc)) i c102).length≤1000000)(h7:(c102.any fun x => !x.2.1)=true→(lI (bL dl (aB sk) (aB dc)) i c102)≠[])(h8:(aHv (lI (bL dl (aB sk) (aB dc)) i c102) (c102.any fun x=>x.2.1) (c102.any fun x => !x.2.1) fi)=true)(h9:[(aA y100)].length=1*1∧o.length+1≤1000000)(h10:inR (((i+1):Nat):Int))(eo'n:o'.length=(o.length+1))(eo'c:o'.map aA=((o.map aA)++[(aA y100)]))(ei':i'=(i+1)):aC Tp 0 aCc (kF dl sk dc fi o.length (o.map aA) i) .normal (kF dl sk dc fi o'.length (o'.map aA) i'):=by
 subst ei';have raw:aC Tp 0 aCc (kF dl sk dc fi o.length (o.map aA) i) .normal (kF dl sk dc fi (o.length+1) ((o.map aA)++[(aA y100)]) (i+1)):=aC.fin (g:=⟨(rng [(0,2),(3,3),(8,2),(12,24),(39,18)]),[3],[],[]⟩) (o:=[bT,.x (.agg [(aA y100),(aA y101)]),.c (.tup [(.p (aG (lI (bL dl (aB sk) (aB dc)) i c102))),(pB (c102.any fun x=>x.2.1)),(pB (c102.any fun x => !x.2.1))]) [],.c (pB (aHv (lI (bL dl (aB sk) (aB dc)) i c102) (c102.any fun x=>x.2.1) (c102.any fun x => !x.2.1) fi)) [],bT]) (l:=[_,_,_,_,_,_,_,0≤(i:Int)∧(i:Int)<(((aB sk).length:Nat):Int)∧(i*2)<((aB sk).flatten.map aA).length,_]) (by kernel_rfl) (gc h10 (gc h9 (gc h8 (gc (fk 2 (bFn (lI (bL dl (aB sk) (aB dc)) i c102) (c102.any fun x=>x.2.1) (c102.any fun x => !x.2.1) fi h6 h7) rfl) (gc (fk 2 (aQb h4 h3 h5) rfl) (gc (aS (i:=i) h2 h1) (gc (bH (i:=i) h2 h1) (gc (bR (k:=2) (i:=(i:Int)) (by decide) h2 (kQ2 _) h1) (gc (aY h0) gn)))))))))
 exact raw.cast (by rw [eo'n,eo'c])
theorem aZm{fi:Int}{o:List Int}{i:Nat}{y100 y101:Int}{c102:List cM}{mn103 mx104:Int}{i':Nat}(h0:(i:Int)<(((aB sk).length:Nat):Int))(h1:(aB sk)[i]? = some [y100,y101])(h2:uni 2 (aB sk))(h3:(bL dl (aB sk) (aB dc))[i]? = some (c102,mn103,mx104))(h4:(bL dl (aB sk) (aB dc)).length≤1000)(h5:c102.length≤256)(h6:(lI (bL dl (aB sk) (aB dc)) i c102).length≤1000000)(h7:(c102.any fun x => !x.2.1)=true→(lI (bL dl (aB sk) (aB dc)) i c102)≠[])(h8:(aHv (lI (bL dl (aB sk) (aB dc)) i c102) (c102.any fun x=>x.2.1) (c102.any fun x => !x.2.1) fi)=false)(h9:inR (((i+1):Nat):Int))(ei':i'=(i+1)):aC Tp 0 aCc (kF dl sk dc fi o.length (o.map aA) i) .normal (kF dl sk dc fi o.length (o.map aA) i'):=by
 subst ei';exact aC.fin (g:=⟨(rng [(0,2),(3,3),(8,2),(12,24),(39,18)]),[0],[],[]⟩) (o:=[bT,.x (.agg [(aA y100),(aA y101)]),.c (.tup [(.p (aG (lI (bL dl (aB sk) (aB dc)) i c102))),(pB (c102.any fun x=>x.2.1)),(pB (c102.any fun x => !x.2.1))]) [],.c (pB (aHv (lI (bL dl (aB sk) (aB dc)) i c102) (c102.any fun x=>x.2.1) (c102.any fun x => !x.2.1) fi)) [],bF]) (l:=[_,_,_,_,_,_,0≤(i:Int)∧(i:Int)<(((aB sk).length:Nat):Int)∧(i*2)<((aB sk).flatten.map aA).length,_]) (by kernel_rfl) (gc h9 (gc h8 (gc (fk 2 (bFn (lI (bL dl (aB sk) (aB dc)) i c102) (c102.any fun x=>x.2.1) (c102.any fun x => !x.2.1) fi h6 h7) rfl) (gc (fk 2 (aQb h4 h3 h5) rfl) (gc (aS (i:=i) h2 h1) (gc (bH (i:=i) h2 h1) (gc (bR (k:=2) (i:=(i:Int)) (by decide) h2 (kQ2 _) h1) (gc (aY h0) gn))))))))
theorem aZn{fi:Int}{o:List Int}{i:Nat}(h0:(((aB sk).length:Nat):Int)≤(i:Int)):aC Tp 0 aCc (kF dl sk dc fi o.length (o.map aA) i) (.exit 0) (kF dl sk dc fi o.length (o.map aA) i):=by
 exact aC.fin (g:=⟨(rng [(0,2),(3,3),(8,2),(12,24),(39,18)]),[0],[],[]⟩) (o:=[bF]) (l:=[_]) (by kernel_rfl) (gc (bG h0) gn)
abbrev bVk(dl:Int)(sk dc:Lqq)(fi:Int)(o:List Int)(e:Int):Prop:=∀ base:Nat,FV Tp 93 [.p (.agg (cL dl sk dc)),.p (aA fi),.fn 95 [] [.rp [aA fi] 0]] base (.tup [.p (aG o),.p (aA e)]) []
theorem bSm{fi e0:Int}{o1:List Int}(h0:bVk dl sk dc fi o1 e0){base:Nat}:FV Tp 33 [(.p (.agg (cL dl sk dc))),(pI fi)] base (.tup [(.p (aG o1)),(pI e0)]) []:=by
 exact FV.fin Tryz.func33 rfl (o:=[.g 3 ⟨[],[0],[1],[]⟩,.x (aA fi),.c (.tup [(.p (aG o1)),(pI e0)]) []]) (l:=[FC Tp 93 [(.p (.agg (cL dl sk dc))),(pI fi),(.fn 95 [] [(.rp [(aA fi)] 0)])] [] 1 (.tup [(.p (aG o1)),(pI e0)]) [],[(aA fi)][0]? = some (aA fi)]) (by kernel_rfl) (gc (FV.fc (h0 _) rfl) (gc rfl gn))
end
end KV
end Go.Proofs
section
namespace Go.Proofs
open Go.RowKit Go.Lib
namespace KV
theorem bKu(o:List Int):jE o≠[]:=fun h=>by
 have:=vG o;rw [h] at this
 have:=Nat.two_pow_pos o.length;simp at *
 omega
theorem bFj(l:List cM):∀ m,l.foldl (fun m x=>if x.1<m then x.1 else m) m≤m∧∀ x∈l,l.foldl (fun m x=>if x.1<m then x.1 else m) m≤x.1:=by
 induction l with
 | nil=>intro m;exact ⟨aVq _,fun x h=>by cases h⟩
 | cons a l ih =>
  intro m;rw [wF];obtain ⟨h1,h2⟩:=ih (if a.1<m then a.1 else m)
  have ha:(if a.1<m then a.1 else m)≤m∧(if a.1<m then a.1 else m)≤a.1:=by split <;> omega
  exact ⟨by omega,fun x hx=>by
   rcases iO.1 hx with rfl | hx
   ·omega
   ·exact h2 x hx⟩
theorem bFk(l:List cM):∀ m,m≤l.foldl (fun m x=>if x.1 > m then x.1 else m) m∧∀ x∈l,x.1≤l.foldl (fun m x=>if x.1 > m then x.1 else m) m:=by
 induction l with
 | nil=>intro m;exact ⟨aVq _,fun x h=>by cases h⟩
 | cons a l ih =>
  intro m;rw [wF];obtain ⟨h1,h2⟩:=ih (if a.1 > m then a.1 else m)
  have ha:m≤(if a.1 > m then a.1 else m)∧a.1≤(if a.1 > m then a.1 else m):=by split <;> omega
  exact ⟨by omega,fun x hx=>by
   rcases iO.1 hx with rfl | hx
   ·omega
   ·exact h2 x hx⟩
theorem bKv{l:List cM}(h:l≠[]):mnM l≤mxM l:=by
 obtain ⟨x,hx⟩:=List.exists_mem_of_ne_nil l h;exact Int.le_trans ((bFj l far).2 x hx) ((bFk l 0).2 x hx)
theorem bKw(dl:Int)(dc:Lqq)(s0 s1:Int)(o:List Int):(oE dl dc s0 s1 o).2.1≤(oE dl dc s0 s1 o).2.2:=bKv fun h=>bKu o (List.map_eq_nil_iff.1 h)
theorem aFg(dl:Int)(sk dc:Lqq):(bL dl sk dc).length=sk.length:=by unfold bL;simp
theorem aLl{dl:Int}{sk dc:Lqq}{i:Nat}{s:List Int}(h:sk[i]? = some s):(bL dl sk dc)[i]? = some (oE dl dc (s.getD 0 0) (s.getD 1 0) (tM dl dc (s.getD 0 0))):=by
 unfold bL;rw [iG,h];rfl
theorem aLm{dl:Int}{dc:Lqq}{s0 s1:Int}(b:Int)(ho:(aP dl dc).length≤8):(oE dl dc s0 s1 (tM dl dc b)).1.length≤256:=by
 show ((jE (tM dl dc b)).map _).length≤256;rw [kQ9,vG];have:=bFq dl dc b;exact gJ (Nat.pow_le_pow_right (by omega) (show (tM dl dc b).length≤8 by omega)) (by decide)
theorem aTb{al:List fE}(h:∀ x∈al,x.2.1≤x.2.2)(s:Nat)(t:Int):∀ i,(iK al s t i).1≤(iK al s t i).2
 | 0=>dU _
 | i+1=>by
  have ih:=aTb h s t i;unfold iK
  split
  ·rename_i x hx
   have:=h x (kQ5 hx)
   split
   ·exact ih
   ·dsimp only
    split <;> split <;> omega
  ·exact ih
theorem aQa{l:List Int}(h:l≠[]):Lib.compact l≠[]:=fun e=>by
 have:(Lib.compact l).length=0:=by rw [e];rfl
 unfold Lib.compact Lib.compactUpTo at this
 rw [kQ9] at this
 have h0:0∈(List.range l.length).filter (Lib.keeps l.toArray):=aGx.2 ⟨rV.2 (List.length_pos_iff.2 h),Lib.keeps_lt_one _ 0 (by omega)⟩
 rw [aDa this] at h0
 cases h0
theorem bFl{al:List fE}(h:∀ x∈al,x.2.1≤x.2.2)(s:Nat){c:List cM}(hc:(c.any fun x => !x.2.1)=true):lI al s c≠[]:=by
 unfold lI;refine aQa fun e => ?_
 have e2:c.flatMap (chL al s)=[]:=by
  have:=List.length_mergeSort (le:=KL.leB) (c.flatMap (chL al s));rw [e] at this
  exact aDa this.symm
 obtain ⟨x,hx,hn⟩:=List.any_eq_true.1 hc;have h1:chL al s x=[]:=List.flatMap_eq_nil_iff.1 e2 x hx;have hf:x.2.1=false:=by simpa using hn
 unfold chL aLo at h1
 rw [hf] at h1
 have:=congrArg List.length h1;have hl:=aTb h s x.1 al.length;simp at this
 have h3:(cX al s x.1).1≤(cX al s x.1).2:=hl;omega
theorem aTc{al:List fE}(hal:al.length≤1000)(s:Nat){c:List cM}(hc:c.length≤256):(lI al s c).length≤1000000:=by
 unfold lI;refine gJ (aCg _) ?_;rw [List.length_mergeSort];have:=aHy hal s c;omega
theorem aLn(dl:Int)(sk dc:Lqq):∀ x∈bL dl sk dc,x.2.1≤x.2.2:=fun x hx=>by
 obtain ⟨s,_,rfl⟩:=eK.1 hx;exact bKw ..
end KV
end Go.Proofs
end
namespace Go.Proofs
namespace KV
section
def yF(dl:Int)(sk dc:Lqq)(f:Int)(i:Nat):Bool:=match (bL dl sk dc)[i]? with
 | some h=>aHv (lI (bL dl sk dc) i h.1) (h.1.any fun x=>x.2.1) (h.1.any fun x => !x.2.1) f
 | none=>false
def aLk(dl:Int)(sk dc:Lqq)(f:Int):List Int:=((List.range sk.length).filter (yF dl sk dc f)).map fun i=>(sk.getD i []).getD 0 0
theorem bSf{dl:Int}{sk dc:Lqq}(h:cB dl sk dc){bib:Int}{i:Nat}{s0 s1:Int}(hp:rB (aB sk) bib=(i:Int))(hs:(aB sk)[i]? = some [s0,s1])(ho:(aP dl (aB dc)).length≤8){base:Nat} :
  FV Tp 71 [.p (.agg (cL dl sk dc)),.p (aA bib)] base (.tup [.p (aG (lI (bL dl (aB sk) (aB dc)) i (oE dl (aB dc) s0 s1 (tM dl (aB dc) s0)).1)),.p (blP ((oE dl (aB dc) s0 s1 (tM dl (aB dc) s0)).1.any fun x=>x.2.1)),.p (aA 0)]) []:=by
 obtain ⟨_,h2,_,_⟩:=rS h;exact bSq h hp hs ho (aLl hs) (by rw [aFg];omega) (aLm s0 ho) rfl
theorem bSg{dl:Int}{sk dc:Lqq}(h:cB dl sk dc){f:Int}(hf:1≤f)(ho:(aP dl (aB dc)).length≤8):bVk dl sk dc f (aLk dl (aB sk) (aB dc) f) 0:=fun base=>by
 obtain ⟨h1,h2,_,_⟩:=rS h;obtain ⟨o,hI,hL⟩:=aI.ex (P:=Tp) (k:=0) (b:=sub (cd Tryz.f93) [1,1,1,1,1,1,1,0,1,0,0]) (e := .exit 0) (fun i (o:List Int)=>kF dl sk dc f o.length (o.map aA) i) (fun o=>kF dl sk dc f o.length (o.map aA) (aB sk).length)
  (fun i o=>o=((List.range i).filter (yF dl (aB sk) (aB dc) f)).map fun i=>((aB sk).getD i []).getD 0 0) (by simp) (aB sk).length
  (fun i o hi hoE=>by
   obtain ⟨y0,y1,hy⟩:=at2 h1 hi;have hat:=aLl (dl:=dl) (dc:=aB dc) hy;have hlen:o.length≤i:=by
    rw [hoE,kQ9];have:=wD (yF dl (aB sk) (aB dc) f) (List.range i);simpa using this
   have hmb:yF dl (aB sk) (aB dc) f i=aHv (lI (bL dl (aB sk) (aB dc)) i (oE dl (aB dc) y0 y1 (tM dl (aB dc) y0)).1) ((oE dl (aB dc) y0 y1 (tM dl (aB dc) y0)).1.any fun x=>x.2.1) ((oE dl (aB dc) y0 y1 (tM dl (aB dc) y0)).1.any fun x => !x.2.1) f:=by
    unfold yF;rw [hat];rfl
   have hal:(bL dl (aB sk) (aB dc)).length≤1000:=by rw [aFg];omega
   have hc:=aLm (s0:=y0) (s1:=y1) y0 ho;have hg:((aB sk).getD i []).getD 0 0=y0:=by simp [kQ4,hy]
   cases hb:yF dl (aB sk) (aB dc) f i with
   | true =>
    refine ⟨o++[y0],?_,aZl (by omega) hy h1 hat hal hc (aTc hal i hc) (fun hn=>bFl (aLn _ _ _) i hn) (by rw [← hb,hmb];rfl) ⟨rfl,by omega⟩ (aO (by omega)) (by simp) (by simp) rfl⟩
    rw [hoE,List.range_succ,rU,gI];simp only [List.filter_cons,hb,if_true,List.filter_nil,iI,List.map_nil,hg]
   | false =>
    refine ⟨o,?_,aZm (by omega) hy h1 hat hal hc (aTc hal i hc) (fun hn=>bFl (aLn _ _ _) i hn) (by rw [← hb,hmb];rfl) (aO (by omega)) rfl⟩
    rw [hoE,List.range_succ,rU,gI];simp [List.filter_cons,hb])
  (fun o _=>aZn (by omega)) (acc:=[]) (by simp)
 have e:o=aLk dl (aB sk) (aB dc) f:=hI;rw [← e];exact bSl h hf ho hL
theorem bSh{dl:Int}{sk dc:Lqq}(h:cB dl sk dc){f:Int}(hf:1≤f)(ho:(aP dl (aB dc)).length≤8){base:Nat}:FV Tp 33 [.p (.agg (cL dl sk dc)),.p (aA f)] base (.tup [.p (aG (aLk dl (aB sk) (aB dc) f)),.p (aA 0)]) []:=bSm (bSg h hf ho)
end
section

noncomputable abbrev wQ:Code:=sub (cd Tryz.f51) [1,1,0,1,0,0]
noncomputable abbrev wR:Code:=sub (cd Tryz.f41) [1,1,0,1,0,0]
theorem bFh{dl:Int}{sk dc:Lqq}{bib:Int}{i0:Nat}{s1 s2 n3:Int}{b4:Bool}{T5:Lqb}(h0:cB dl sk dc)(h1:rB (aB sk) bib=(i0:Int))(h2:(aB sk)[i0]? = some [s1,s2])(h3:aDd dl (aB sk) (aB dc) bW [s1,s2] n3 b4 ([]:Lqb) T5){base:Nat}:FV Tp 61 [(.p (.agg (cL dl sk dc))),(pI bib)] base (.tup [(pI n3),(pB b4),(pI 0)]) []:=by
 exact FV.fin Tryz.func61 rfl (o:=[.c (.tup [(.rp (aH dl (aB sk) (aB dc)) 0),(.p (.agg [(aA s1),(aA s2)])),(pI 0)]) [],bF,.c (.agg (kVL 6 7 2 4 8 3)) [(2,(vB0 dl (aB sk) (aB dc))),(3,(.box 33 [(.p bW)])),(4,(.box 139 (kVL 6 7 2 4 8 3))),(5,(.mp (aE ([]:Lqb)) 0)),(6,(.box 207 [(.mp 5)])),(7,(vB5 dl (aB sk) (aB dc))),(8,(.box 209 [(.fn 153 [] [(.ptr 2 0),(.ptr 4 0)])]))],.c (.tup [(pI n3),(pB b4)]) [(2,(vB0 dl (aB sk) (aB dc))),(3,(.box 33 [(.p bW)])),(4,(.box 139 (kVL 6 7 2 4 8 3))),(5,(.mp (aE T5) T5.length)),(6,(.box 207 [(.mp 5)])),(7,(vB5 dl (aB sk) (aB dc))),(8,(.box 209 [(.fn 153 [] [(.ptr 2 0),(.ptr 4 0)])]))]]) (l:=[FC Tp 134 [(.rp (aH dl (aB sk) (aB dc)) 0),(.p (.agg [(aA s1),(aA s2)])),(.agg (kVL 6 7 2 4 8 3))] [(6,(.box 207 [(.mp 5)])),(7,(vB5 dl (aB sk) (aB dc))),(2,(vB0 dl (aB sk) (aB dc))),(4,(.box 139 (kVL 6 7 2 4 8 3))),(8,(.box 209 [(.fn 153 [] [(.ptr 2 0),(.ptr 4 0)])])),(3,(.box 33 [(.p bW)])),(5,(.mp (aE ([]:Lqb)) 0))] 10 (.tup [(pI n3),(pB b4)]) [(2,(vB0 dl (aB sk) (aB dc))),(3,(.box 33 [(.p bW)])),(4,(.box 139 (kVL 6 7 2 4 8 3))),(5,(.mp (aE T5) T5.length)),(6,(.box 207 [(.mp 5)])),(7,(vB5 dl (aB sk) (aB dc))),(8,(.box 209 [(.fn 153 [] [(.ptr 2 0),(.ptr 4 0)])]))],FC Tp 87 [(.rp (aH dl (aB sk) (aB dc)) 0),(.p bW)] [] 2 (.agg (kVL 6 7 2 4 8 3)) [(2,(vB0 dl (aB sk) (aB dc))),(3,(.box 33 [(.p bW)])),(4,(.box 139 (kVL 6 7 2 4 8 3))),(5,(.mp (aE ([]:Lqb)) 0)),(6,(.box 207 [(.mp 5)])),(7,(vB5 dl (aB sk) (aB dc))),(8,(.box 209 [(.fn 153 [] [(.ptr 2 0),(.ptr 4 0)])]))],((0:Int) != (0:Int))=false,_]) (by kernel_rfl) (gc (FMM.fc (ids:=[2,3,4,5,6,7,8]) h3 (by kernel_rfl)) (gc (FMM.fcN (k:=7) rfl (ids:=[]) (zA (dl:=dl) (sk:=(aB sk)) (dc:=(aB dc))) (by kernel_rfl)) (gc (by first | decide | simp) (gc (fk 1 (bGd h0 h1 h2) rfl) gn))))
def iS(a:Lqq)(b:Lqq)(i:Nat):St:=⟨fr 26 [(0,(.p (fS a))),(1,(.p (fS b))),(12,(pI (a.length:Int))),(13,(pI (i:Int)))],[]⟩
theorem bRz{a b:Lqq}(h0:(a.length:Int)≠(b.length:Int)){base:Nat}:FV Tp 51 [(.p (fS a)),(.p (fS b))] base (pB false) []:=by
 exact FV.fin Tryz.func51 rfl (o:=[bT]) (l:=[_]) (by kernel_rfl) (gc (nX h0) gn)
theorem bSa{a b:Lqq}{i'0:Nat}(h0:(a.length:Int)=(b.length:Int))(hl1:aI Tp 0 wQ (iS a b 0) (.exit 0) (iS a b i'0)){base:Nat}:FV Tp 51 [(.p (fS a)),(.p (fS b))] base (pB true) []:=by
 exact FV.fin Tryz.func51 rfl (o:=[bF,.k 4 ⟨(rng [(2,10),(14,12)]),[],[],[]⟩ (.exit 0) (iS a b i'0)]) (l:=[_,_]) (by kernel_rfl) (gc hl1.code (gc (cG h0) gn))
theorem bSb{a b:Lqq}{i'0:Nat}(h0:(a.length:Int)=(b.length:Int))(hl1:aI Tp 0 wQ (iS a b 0) .ret (cF (iS a b i'0) [(4,(.kb false))])){base:Nat}:FV Tp 51 [(.p (fS a)),(.p (fS b))] base (pB false) []:=by
 exact FV.fin Tryz.func51 rfl (o:=[bF,.k 4 ⟨(rng [(2,10),(14,12)]),[],[],[]⟩ .ret (cF (iS a b i'0) [(4,(.kb false))])]) (l:=[_,_]) (by kernel_rfl) (gc hl1.code (gc (cG h0) gn))
theorem aZf{a b:Lqq}{i:Nat}{y100 y101 y102 y103 y104 y105:Int}(h0:(i:Int)<(a.length:Int))(h1:a[i]? = some [y100,y101,y102])(h2:uni 3 a)(h3:b[i]? = some [y103,y104,y105])(h4:uni 3 b)(h5:cY [(aA y100),(aA y101),(aA y102)] [(0,3,true),(1,3,true),(2,3,true)]=true∧cY [(aA y103),(aA y104),(aA y105)] [(0,3,true),(1,3,true),(2,3,true)]=true)(h6:(jL [(aA y100),(aA y101),(aA y102)] [(aA y103),(aA y104),(aA y105)] [(0,3,true),(1,3,true),(2,3,true)])=false):aC Tp 0 wQ (iS a b i) .ret (cF (iS a b i) [(4,(.kb false))]):=by
 exact aC.fin (g:=⟨(rng [(2,2),(5,7),(14,12)]),[],[],[]⟩) (o:=[bT,.x (.agg [(aA y100),(aA y101),(aA y102)]),.x (.agg [(aA y103),(aA y104),(aA y105)]),bT]) (l:=[_,_,_,_,0≤(i:Int)∧(i:Int)<(b.length:Int)∧(i*3)<(b.flatten.map aA).length,_,_,0≤(i:Int)∧(i:Int)<(a.length:Int)∧(i*3)<(a.flatten.map aA).length,_]) (by kernel_rfl) (gc (bU h6) (gc h5 (gc (aS (i:=i) h4 h3) (gc (bH (i:=i) h4 h3) (gc (bR (k:=3) (i:=(i:Int)) (by decide) h4 (kQ2 _) h3) (gc (aS (i:=i) h2 h1) (gc (bH (i:=i) h2 h1) (gc (bR (k:=3) (i:=(i:Int)) (by decide) h2 (kQ2 _) h1) (gc (aY h0) gn)))))))))
theorem aZg{a b:Lqq}{i:Nat}{y100 y101 y102 y103 y104 y105:Int}{i':Nat}(h0:(i:Int)<(a.length:Int))(h1:a[i]? = some [y100,y101,y102])(h2:uni 3 a)(h3:b[i]? = some [y103,y104,y105])(h4:uni 3 b)(h5:cY [(aA y100),(aA y101),(aA y102)] [(0,3,true),(1,3,true),(2,3,true)]=true∧cY [(aA y103),(aA y104),(aA y105)] [(0,3,true),(1,3,true),(2,3,true)]=true)(h6:(jL [(aA y100),(aA y101),(aA y102)] [(aA y103),(aA y104),(aA y105)] [(0,3,true),(1,3,true),(2,3,true)])=true)(h7:inR (((i+1):Nat):Int))(ei':i'=(i+1)):aC Tp 0 wQ (iS a b i) .normal (iS a b i'):=by
 subst ei';exact aC.fin (g:=⟨(rng [(2,10),(14,12)]),[],[],[]⟩) (o:=[bT,.x (.agg [(aA y100),(aA y101),(aA y102)]),.x (.agg [(aA y103),(aA y104),(aA y105)]),bF]) (l:=[_,_,_,_,_,0≤(i:Int)∧(i:Int)<(b.length:Int)∧(i*3)<(b.flatten.map aA).length,_,_,0≤(i:Int)∧(i:Int)<(a.length:Int)∧(i*3)<(a.flatten.map aA).length,_]) (by kernel_rfl) (gc h7 (gc (aV h6) (gc h5 (gc (aS (i:=i) h4 h3) (gc (bH (i:=i) h4 h3) (gc (bR (k:=3) (i:=(i:Int)) (by decide) h4 (kQ2 _) h3) (gc (aS (i:=i) h2 h1) (gc (bH (i:=i) h2 h1) (gc (bR (k:=3) (i:=(i:Int)) (by decide) h2 (kQ2 _) h1) (gc (aY h0) gn))))))))))
theorem aZh{a b:Lqq}{i:Nat}(h0:(a.length:Int)≤(i:Int)):aC Tp 0 wQ (iS a b i) (.exit 0) (iS a b i):=by
 exact aC.fin (g:=⟨(rng [(2,10),(14,12)]),[],[],[]⟩) (o:=[bF]) (l:=[_]) (by kernel_rfl) (gc (bG h0) gn)
theorem bFi(a b:Lqq)(ha:uni 3 a)(hb:uni 3 b)(hl:a.length≤1000){base:Nat}:FV Tp 51 [.p (fS a),.p (fS b)] base (pB (decide (a=b))) []:=by
 by_cases hlen:a.length=b.length
 ·have eqx:∀ i,i<a.length→∃ x y,a[i]? = some x∧b[i]? = some y∧x.length=3∧y.length=3:=fun i hi =>
   ⟨a[i],b[i],kQ0 hi,kQ0 (by omega),ha _ (eY hi),hb _ (eY (by omega))⟩
  rcases aI.find (P:=Tp) (k:=0) (b:=wQ) (fun i=>iS a b i) (fun i _=>cF (iS a b i) [(4,.kb false)]) (iS a b a.length) .ret (.exit 0) (by simp) (by simp) (fun j=>decide (a.getD j []≠b.getD j [])) (List.range a.length)
   (fun i x hx hp=>by
    have hi:i<a.length:=by have:=bC hx;simpa using this
    obtain ⟨y,z,hy,hz,ly,lz⟩:=eqx i hi;obtain ⟨a,b,c,rfl⟩:=len3 ly;obtain ⟨a',b',c',rfl⟩:=len3 lz;have hxi:x=i:=by rw [wE hi] at hx;exact (Option.some.inj hx).symm
    subst hxi;have he:=of_decide_eq_false hp;simp only [kQ4,hy,hz,Option.getD_some,ne_eq,Classical.not_not] at he
    cases he;exact aZg (by omega) hy ha hz hb ⟨rfl,rfl⟩ (by simp [jL,uI]) (aO (by omega)) rfl)
   (fun i x hx hp=>by
    have hi:i<a.length:=by have:=bC hx;simpa using this
    obtain ⟨y,z,hy,hz,ly,lz⟩:=eqx i hi;obtain ⟨a,b,c,rfl⟩:=len3 ly;obtain ⟨a',b',c',rfl⟩:=len3 lz;have hxi:x=i:=by rw [wE hi] at hx;exact (Option.some.inj hx).symm
    subst hxi;have he:=of_decide_eq_true hp;simp only [kQ4,hy,hz,Option.getD_some] at he
    exact aZf (by omega) hy ha hz hb ⟨rfl,rfl⟩ (by
     rw [Bool.eq_false_iff];intro h;simp [jL,uI] at h
     exact he (by simp [h])))
   (by rw [aNy];exact aZh (by omega)) with ⟨i,x,h1,h2,h3,h4⟩ | ⟨h1,h2,h3⟩
  ·have hi:i<a.length:=by have:=bC h1;simpa using this
   have hxi:x=i:=by rw [wE hi] at h1;exact (Option.some.inj h1).symm
   have he:=of_decide_eq_true h3;rw [decide_eq_false (fun e=>he (by rw [e]))]
   exact bSb (by omega) h4
  ·have hall:∀ i,i<a.length→a.getD i []=b.getD i []:=fun i hi=>by
    have:=List.any_eq_false.1 h2 i (rV.2 hi);simpa using this
   have e:a=b:=by
    apply List.ext_getElem hlen;intro i h1 h2;have:=hall i h1;simpa [kQ4,kQ0 h1,kQ0 h2] using this
   rw [decide_eq_true e];exact bSa (by omega) h3
 ·rw [decide_eq_false (fun e=>hlen (by rw [e]))]
  exact bRz (by omega)
def iT(a:List Int)(b:List Int)(i:Nat):St:=⟨fr 26 [(0,(.p (aG a))),(1,(.p (aG b))),(12,(pI (a.length:Int))),(13,(pI (i:Int)))],[]⟩
theorem bSc{a b:List Int}(h0:(a.length:Int)≠(b.length:Int)){base:Nat}:FV Tp 41 [(.p (aG a)),(.p (aG b))] base (pB false) []:=by
 exact FV.fin Tryz.func41 rfl (o:=[bT]) (l:=[_]) (by kernel_rfl) (gc (nX h0) gn)
theorem bSd{a b:List Int}{i'0:Nat}(h0:(a.length:Int)=(b.length:Int))(hl1:aI Tp 0 wR (iT a b 0) (.exit 0) (iT a b i'0)){base:Nat}:FV Tp 41 [(.p (aG a)),(.p (aG b))] base (pB true) []:=by
 exact FV.fin Tryz.func41 rfl (o:=[bF,.k 4 ⟨(rng [(2,10),(14,12)]),[],[],[]⟩ (.exit 0) (iT a b i'0)]) (l:=[_,_]) (by kernel_rfl) (gc hl1.code (gc (cG h0) gn))
theorem bSe{a b:List Int}{i'0:Nat}(h0:(a.length:Int)=(b.length:Int))(hl1:aI Tp 0 wR (iT a b 0) .ret (cF (iT a b i'0) [(4,(.kb false))])){base:Nat}:FV Tp 41 [(.p (aG a)),(.p (aG b))] base (pB false) []:=by
 exact FV.fin Tryz.func41 rfl (o:=[bF,.k 4 ⟨(rng [(2,10),(14,12)]),[],[],[]⟩ .ret (cF (iT a b i'0) [(4,(.kb false))])]) (l:=[_,_]) (by kernel_rfl) (gc hl1.code (gc (cG h0) gn))
theorem aZi{a b:List Int}{i:Nat}{x100 x101:Int}(h0:(i:Int)<(a.length:Int))(h1:a[i]? = some x100)(h2:b[i]? = some x101)(h3:x100≠x101):aC Tp 0 wR (iT a b i) .ret (cF (iT a b i) [(4,(.kb false))]):=by
 exact aC.fin (g:=⟨(rng [(2,2),(5,7),(14,12)]),[],[],[]⟩) (o:=[bT,.x (aA x100),.x (aA x101),bT]) (l:=[_,_,_,_,_,_]) (by kernel_rfl) (gc (nX h3) (gc (atm aA h2) (gc (ixn aA h2) (gc (atm aA h1) (gc (ixn aA h1) (gc (aY h0) gn))))))
theorem aZj{a b:List Int}{i:Nat}{x100 x101:Int}{i':Nat}(h0:(i:Int)<(a.length:Int))(h1:a[i]? = some x100)(h2:b[i]? = some x101)(h3:x100=x101)(h4:inR (((i+1):Nat):Int))(ei':i'=(i+1)):aC Tp 0 wR (iT a b i) .normal (iT a b i'):=by
 subst ei';exact aC.fin (g:=⟨(rng [(2,10),(14,12)]),[],[],[]⟩) (o:=[bT,.x (aA x100),.x (aA x101),bF]) (l:=[_,_,_,_,_,_,_]) (by kernel_rfl) (gc h4 (gc (cG h3) (gc (atm aA h2) (gc (ixn aA h2) (gc (atm aA h1) (gc (ixn aA h1) (gc (aY h0) gn)))))))
theorem aZk{a b:List Int}{i:Nat}(h0:(a.length:Int)≤(i:Int)):aC Tp 0 wR (iT a b i) (.exit 0) (iT a b i):=by
 exact aC.fin (g:=⟨(rng [(2,10),(14,12)]),[],[],[]⟩) (o:=[bF]) (l:=[_]) (by kernel_rfl) (gc (bG h0) gn)
theorem aHt(a b:List Int)(hl:a.length≤1000){base:Nat}:FV Tp 41 [.p (aG a),.p (aG b)] base (pB (decide (a=b))) []:=by
 by_cases hlen:a.length=b.length
 ·rcases aI.find (P:=Tp) (k:=0) (b:=wR) (fun i=>iT a b i) (fun i _=>cF (iT a b i) [(4,.kb false)]) (iT a b a.length) .ret (.exit 0) (by simp) (by simp) (fun j=>decide (a.getD j 0≠b.getD j 0)) (List.range a.length)
   (fun i x hx hp=>by
    have hi:i<a.length:=by have:=bC hx;simpa using this
    have hxi:x=i:=by rw [wE hi] at hx;exact (Option.some.inj hx).symm
    subst hxi;have h1:a[x]? = some (a.getD x 0):=by rw [kQ4,kQ0 hi];rfl
    have h2:b[x]? = some (b.getD x 0):=by rw [kQ4,kQ0 (by omega)];rfl
    have he:=of_decide_eq_false hp;exact aZj (by omega) h1 h2 (Classical.not_not.1 he) (aO (by omega)) rfl)
   (fun i x hx hp=>by
    have hi:i<a.length:=by have:=bC hx;simpa using this
    have hxi:x=i:=by rw [wE hi] at hx;exact (Option.some.inj hx).symm
    subst hxi;have h1:a[x]? = some (a.getD x 0):=by rw [kQ4,kQ0 hi];rfl
    have h2:b[x]? = some (b.getD x 0):=by rw [kQ4,kQ0 (by omega)];rfl
    exact aZi (by omega) h1 h2 (of_decide_eq_true hp))
   (by rw [aNy];exact aZk (by omega)) with ⟨i,x,h1,h2,h3,h4⟩ | ⟨h1,h2,h3⟩
  ·have he:=of_decide_eq_true h3
   rw [decide_eq_false (fun e=>he (by rw [e]))]
   exact bSe (by omega) h4
  ·have hall:∀ i,i<a.length→a.getD i 0=b.getD i 0:=fun i hi=>by
    have:=List.any_eq_false.1 h2 i (rV.2 hi);simpa using this
   have e:a=b:=by
    apply List.ext_getElem hlen;intro i h1 h2;have:=hall i h1
    rwa [kQ4,kQ4,kQ0 h1,kQ0 h2] at this
   rw [decide_eq_true e];exact bSd (by omega) h3
 ·rw [decide_eq_false (fun e=>hlen (by rw [e]))]
  exact bSc (by omega)
theorem aHu{a b c:Int}{base:Nat}:FV Tp 23 [(pI a),(pI b),(pI c)] base (.p (dcE a 0 0 b c 0)) []:=by
 exact FV.fin Tryz.func23 rfl (o:=[]) (l:=[]) (by kernel_rfl) (gn)
theorem iB{a b c d e:Int}{base:Nat}:FV Tp 49 [(pI a),(pI b),(pI c),(pI d),(pI e)] base (.p (dcE a b d 0 e c)) []:=by
 exact FV.fin Tryz.func49 rfl (o:=[]) (l:=[]) (by kernel_rfl) (gn)
end
section
theorem ofO(l:List Int):FMM Tp 17 [.p (.sl l.length (l.map aN))] [] (.ptr 0 0) [some (gL l 0 17)]:=bUy
theorem aSh{r:List Int}{nx' st':Int}(n:Int)(l:List Int)(nx st:Int)(h:0≤nx∧nx≤1000000)(hn:0≤n∧n≤1000)(e:nZ n l nx st=(r,nx',st')):FMM Tp 60 [.ptr 0 0,.p (aA n)] [some (gL l nx st)] (.own 1) [some (gL l nx' st'),some (.row 3 r.length (r.map aA))]:=by
 have:=bIi n l nx st h hn;rw [e] at this
 exact this
def bNv(ns nd:Int)(l:List Int)(nx st:Int)(r:Lqq × Lqq × Int × Int):Prop :=
 cB 30 r.1 r.2.1∧(r.1.length:Int)≤ns∧(r.2.1.length:Int)≤nd∧(0≤r.2.2.1∧r.2.2.1≤4000)∧(r.1.Pairwise fun a b=>a.getD 0 0<b.getD 0 0)∧(r.2.1.Pairwise fun a b=>a.getD 0 0<b.getD 0 0)∧(∀ x∈r.2.1,x.getD 0 0≤80)∧(∀ x∈r.1,x.getD 0 0≤88∧x.getD 1 0≤16000) ∧
  FMM Tp 16 [.ptr 0 0,.p (aA ns),.p (aA nd)] [some (gL l nx st)] (.p (.agg (cL 30 r.1 r.2.1))) [some (gL l r.2.2.1 r.2.2.2)]
open Classical in
noncomputable def bDg(ns nd:Int)(l:List Int)(nx st:Int):Lqq × Lqq × Int × Int:=if h:∃ r,bNv ns nd l nx st r then Classical.choose h else ([],[],0,0)
theorem aKo{ns nd:Int}{l:List Int}{nx st:Int}(hns:1≤ns∧ns≤30)(hnd:0≤nd∧nd≤40)(hnx:0≤nx∧nx≤900):bNv ns nd l nx st (bDg ns nd l nx st):=by
 obtain ⟨sk,dc,mx,tt,h⟩:=bNz (ns:=ns) (nd:=nd) (l:=l) (nx:=nx) (st:=st) hns hnd hnx;have hex:∃ r,bNv ns nd l nx st r:=⟨(sk,dc,mx,tt),h⟩;unfold bDg;rw [dif_pos hex];exact Classical.choose_spec hex
theorem bNw{sk dc:Lqq}{nx' st':Int}(ns nd:Int)(l:List Int)(nx st:Int)(h:0≤nx∧nx≤900)(hs:1≤ns∧ns≤30)(hd:0≤nd∧nd≤40)(e:bDg ns nd l nx st=(sk,dc,nx',st')):FMM Tp 16 [.ptr 0 0,.p (aA ns),.p (aA nd)] [some (gL l nx st)] (.p (.agg (cL 30 sk dc))) [some (gL l nx' st')]:=by
 have:=(aKo (l:=l) (st:=st) hs hd h).2.2.2.2.2.2.2.2;rw [e] at this
 exact this
theorem wH{dl:Int}{sk dc:Lqq}{bib t:Int}{o:Bool}(h:cB dl sk dc){i:Nat}{s0 s1:Int}(hp:rB (aB sk) bib=(i:Int))(hs:(aB sk)[i]? = some [s0,s1])(e:eU dl [] (aB dc) s0 s1=(t,o)){base:Nat}:FV Tp 61 [.p (.agg (cL dl sk dc)),.p (aA bib)] base (.tup [.p (aA t),.p (blP o),.p (aA 0)]) []:=by
 obtain ⟨h1,_,h3,_⟩:=rS h;obtain ⟨T',_,hT⟩:=aXh (dl:=dl) (sk:=aB sk) (dc:=aB dc) (gM h) uY s0 s1 (h3 _ (kQ5 hs)) (T:=[]) cD.nil;rw [e] at hT
 exact bFh h hp hs hT
end
section
variable {P:Program}
theorem FC.close1{f base id ty n:Nat}{cs:List PV}{args args':List AV}{y:AV}{L:Upd}(h:FC P f args' [] base y L)(ha:fzL id n cs args=args'):FC P f args [(id,.row ty n cs)] base y ((id,.dead)::L):=fun M hb hf h8=>by
 have hoM:=hb _ (kV ..);subst ha;have fre:∀ j,eW M (base+j)=true→eW (aX M id (some .dead)) (base+j)=true:=fun j hj=>by
  have hne:id≠base+j:=fun e=>by
   have:=cP hj;rw [← e] at this
   exact this _ (bD.1 hoM)
  unfold eW at hj ⊢
  rw [cZ,if_neg hne];exact hj
 exact FM.close1 hoM (h _ (fun p hp=>by cases hp) (by have:=fre 0 (by simpa using hf);simpa using this) (fun j hj=>fre j (h8 j hj)))
end
section
variable {dl:Int}{sk dc:Lqq}

noncomputable abbrev xF:Code:=sub (cd Tryz.f58) [1,1,1,1,1,1,1,1,1,0,1,0,1,0,0]
noncomputable abbrev aIl:Code:=sub (cd Tryz.f58) [1,1,1,1,1,1,1,1,1,0,1,0]
noncomputable abbrev aRg:Code:=sub (cd Tryz.f58) [1,1,1,1,1,1,1,1,1,0,1,0,1]
theorem aCl:((0:Int) != (0:Int))=false:=by first | decide | simp
def fD(dl:Int)(sk dc:Lqq)(r:Int)(x:List Int):Int × Bool:=eU dl x (aB dc) (((aB sk).getD (bE (fun x=>decide (r=x)) (aJ (aB sk) 0)).toNat []).getD 0 0) (((aB sk).getD (bE (fun x=>decide (r=x)) (aJ (aB sk) 0)).toNat []).getD 1 0)
def mA(dl:Int)(sk:Lqq)(dc:Lqq)(num:Int)(r6:Int)  : St:=⟨fr 102 [(3,(.rp [(aA num)] 0)),(4,(.ptr 0 0)),(5,(.ptr 1 0)),(6,(.rp [(PV.rp (aH dl (aB sk) (aB dc)) 0)] 0)),(9,(.rp [(aA r6)] 0)),(10,(.rp [(aA (bE (fun x=>decide (r6=x)) (aJ (aB sk) 0)))] 0)),(53,(.fn 182 [] [(.rp [(aG ((aP dl (aB dc)).filter fun n => !(n == num)))] 0)]))],[some (.box 4 [(pB false)]),some (.box 34 [(pI 0)])]⟩
def tP(dl:Int)(sk:Lqq)(dc:Lqq)(num:Int)(r6:Int):St:=⟨fr 102 [(3,(.rp [(aA num)] 0)),(4,(.ptr 0 0)),(5,(.ptr 1 0)),(6,(.rp [(PV.rp (aH dl (aB sk) (aB dc)) 0)] 0)),(9,(.rp [(aA r6)] 0)),(10,(.rp [(aA (bE (fun x=>decide (r6=x)) (aJ (aB sk) 0)))] 0)),(53,(.fn 182 [] [(.rp [(aG ((aP dl (aB dc)).filter fun n => !(n == num)))] 0)]))],[some (.box 4 [(pB false)]),some (.box 34 [(pI 0)])]⟩
def aCm(dl:Int)(sk:Lqq)(dc:Lqq)(num:Int)(r6:Int):St:=⟨fr 102 [(3,(.rp [(aA num)] 0)),(4,(.ptr 0 0)),(5,(.ptr 1 0)),(6,(.rp [(PV.rp (aH dl (aB sk) (aB dc)) 0)] 0)),(9,(.rp [(aA r6)] 0)),(10,(.rp [(aA (bE (fun x=>decide (r6=x)) (aJ (aB sk) 0)))] 0)),(53,(.fn 182 [] [(.rp [(aG ((aP dl (aB dc)).filter fun n => !(n == num)))] 0)]))],[some (.box 4 [(.kb true)]),some (.box 34 [(pI 0)])]⟩
theorem bUm{num:Int}(h0:cB dl sk dc)(h1:cI (aB dc))(h2:(aP dl (aB dc)).length≤1000)(h3:((aP dl (aB dc)).contains num)=false){base:Nat}:FV Tp 58 [(.p (.agg (cL dl sk dc))),(pI num)] base (.tup [(pB false),(pI 1)]) []:=by
 exact FV.fin Tryz.func58 rfl (o:=[.c (.tup [(.rp (aH dl (aB sk) (aB dc)) 0),(pI 0)]) [],bF,.g 1 ⟨[],[0,2,3],[4,1],[]⟩,.x (PV.rp (aH dl (aB sk) (aB dc)) 0),.c (.own 3) [(3,(.row 3 ((aP dl (aB dc)).length) ((aP dl (aB dc)).map aA)))],.x (aA num),.c (pB ((aP dl (aB dc)).contains num)) [],bT]) (l:=[_,FC Tp 52 [(.own 3),(pI num)] [(3,(.row 3 ((aP dl (aB dc)).length) ((aP dl (aB dc)).map aA)))] 4 (pB ((aP dl (aB dc)).contains num)) [],[(aA num)][0]? = some (aA num),_,[(PV.rp (aH dl (aB sk) (aB dc)) 0)][0]? = some (PV.rp (aH dl (aB sk) (aB dc)) 0),_,_]) (by kernel_rfl) (gc (bU h3) (gc (fv (pC (aP dl (aB dc)) num h2)) (gc rfl (gc (fk 3 (qR (dl:=dl) (sk:=(aB sk)) (dc:=(aB dc)) h1) rfl) (gc rfl (gc aCl (gc (fk 4 (jT dl sk dc h0) rfl) gn)))))))
theorem bUn{num:Int}(h0:cB dl sk dc)(h1:cI (aB dc))(h2:(aP dl (aB dc)).length≤1000)(h3:((aP dl (aB dc)).contains num)=true)(h4:(8:Int)<(((aP dl (aB dc)).length:Nat):Int)){base:Nat}:FV Tp 58 [(.p (.agg (cL dl sk dc))),(pI num)] base (.tup [(pB false),(pI 10)]) []:=by
 exact FV.fin Tryz.func58 rfl (o:=[.c (.tup [(.rp (aH dl (aB sk) (aB dc)) 0),(pI 0)]) [],bF,.g 1 ⟨[],[0,2,3],[4,1],[]⟩,.x (PV.rp (aH dl (aB sk) (aB dc)) 0),.c (.own 3) [(3,(.row 3 ((aP dl (aB dc)).length) ((aP dl (aB dc)).map aA)))],.x (aA num),.c (pB ((aP dl (aB dc)).contains num)) [],bF,bT]) (l:=[_,_,FC Tp 52 [(.own 3),(pI num)] [(3,(.row 3 ((aP dl (aB dc)).length) ((aP dl (aB dc)).map aA)))] 4 (pB ((aP dl (aB dc)).contains num)) [],[(aA num)][0]? = some (aA num),_,[(PV.rp (aH dl (aB sk) (aB dc)) 0)][0]? = some (PV.rp (aH dl (aB sk) (aB dc)) 0),_,_]) (by kernel_rfl) (gc (aY h4) (gc (aV h3) (gc (fv (pC (aP dl (aB dc)) num h2)) (gc rfl (gc (fk 3 (qR (dl:=dl) (sk:=(aB sk)) (dc:=(aB dc)) h1) rfl) (gc rfl (gc aCl (gc (fk 4 (jT dl sk dc h0) rfl) gn))))))))
theorem bUo{num y0 y1 y2 y3 y4 y5 r6:Int}(h0:cB dl sk dc)(h1:cI (aB dc))(h2:(aP dl (aB dc)).length≤1000)(h3:((aP dl (aB dc)).contains num)=true)(h4:(((aP dl (aB dc)).length:Nat):Int)≤8)(h5:cK .i64 (atF (aB dc).reverse) (.int .i64 num))(h6:(dO (atF (aB dc).reverse) (.int .i64 num))=true)(h7:fF (atF (aB dc).reverse) (.int .i64 num)=some (dcE y0 y1 y2 y3 y4 y5))(h8:bFu dl (aB sk) (aB dc) [y0,y1,y2,y3,y4,y5] r6)(h9:uni 2 (aB sk)∧(aB sk).length≤1000)(h10:(aJ (aB sk) 0).length≤1000)(h11:(bE (fun x=>decide (r6=x)) (aJ (aB sk) 0))<0){base:Nat}:FV Tp 58 [(.p (.agg (cL dl sk dc))),(pI num)] base (.tup [(pB false),(pI 0)]) []:=by
 exact FV.fin Tryz.func58 rfl (o:=[.c (.tup [(.rp (aH dl (aB sk) (aB dc)) 0),(pI 0)]) [],bF,.g 1 ⟨[],[0,2,3],[4,1],[]⟩,.x (PV.rp (aH dl (aB sk) (aB dc)) 0),.c (.own 3) [(3,(.row 3 ((aP dl (aB dc)).length) ((aP dl (aB dc)).map aA)))],.x (aA num),.c (pB ((aP dl (aB dc)).contains num)) [],bF,bF,.x (PV.rp (aH dl (aB sk) (aB dc)) 0),.x (PV.rp (aH dl (aB sk) (aB dc)) 0),.x (.mp (atF (aB dc).reverse)),.x (aA num),bT,.x (dcE y0 y1 y2 y3 y4 y5),.c (pI r6) [],.x (PV.rp (aH dl (aB sk) (aB dc)) 0),.x (.agg (cL dl (aB sk) (aB dc))),.c (.own 13) [(13,(.row 3 ((aJ (aB sk) 0).length) ((aJ (aB sk) 0).map aA)))],.c (pI (bE (fun x=>decide (r6=x)) (aJ (aB sk) 0))) [],.g 2 ⟨[],[0,1,2,3,13],[12,29],[]⟩,.x (aA (bE (fun x=>decide (r6=x)) (aJ (aB sk) 0))),bT]) (l:=[_,[(aA (bE (fun x=>decide (r6=x)) (aJ (aB sk) 0)))][0]? = some (aA (bE (fun x=>decide (r6=x)) (aJ (aB sk) 0))),FC Tp 126 [(.own 13),(pI r6)] [(13,(.row 3 ((aJ (aB sk) 0).length) ((aJ (aB sk) 0).map aA)))] 21 (pI (bE (fun x=>decide (r6=x)) (aJ (aB sk) 0))) [],_,some (.agg (((aH dl (aB sk) (aB dc)).drop 0).take 3):PV)=some (.agg (cL dl (aB sk) (aB dc))),0+3≤(aH dl (aB sk) (aB dc)).length,[(PV.rp (aH dl (aB sk) (aB dc)) 0)][0]? = some (PV.rp (aH dl (aB sk) (aB dc)) 0),FC Tp 128 [(.rp (aH dl (aB sk) (aB dc)) 0),(.p (dcE y0 y1 y2 y3 y4 y5))] [] 4 (pI r6) [],_,_,_,[(aA num)][0]? = some (aA num),(aH dl (aB sk) (aB dc))[3]? = some (.mp (atF (aB dc).reverse)),[(PV.rp (aH dl (aB sk) (aB dc)) 0)][0]? = some (PV.rp (aH dl (aB sk) (aB dc)) 0),[(PV.rp (aH dl (aB sk) (aB dc)) 0)][0]? = some (PV.rp (aH dl (aB sk) (aB dc)) 0),_,_,FC Tp 52 [(.own 3),(pI num)] [(3,(.row 3 ((aP dl (aB dc)).length) ((aP dl (aB dc)).map aA)))] 4 (pB ((aP dl (aB dc)).contains num)) [],[(aA num)][0]? = some (aA num),_,[(PV.rp (aH dl (aB sk) (aB dc)) 0)][0]? = some (PV.rp (aH dl (aB sk) (aB dc)) 0),_,_]) (by kernel_rfl) (gc (aY h11) (gc rfl (gc (fv (aBn (aJ (aB sk) 0) r6 h10)) (gc (fk 13 (nC dl (aB sk) (aB dc) h9) rfl) (gc rfl (gc (by first | decide | simp) (gc rfl (gc (FV.fc (h8 _) rfl) (gc h7 (gc h6 (gc h5 (gc rfl (gc rfl (gc rfl (gc rfl (gc (bG h4) (gc (aV h3) (gc (fv (pC (aP dl (aB dc)) num h2)) (gc rfl (gc (fk 3 (qR (dl:=dl) (sk:=(aB sk)) (dc:=(aB dc)) h1) rfl) (gc rfl (gc aCl (gc (fk 4 (jT dl sk dc h0) rfl) gn)))))))))))))))))))))))
theorem bUp{num y0 y1 y2 y3 y4 y5 r6:Int}(h0:cB dl sk dc)(h1:cI (aB dc))(h2:(aP dl (aB dc)).length≤1000)(h3:((aP dl (aB dc)).contains num)=true)(h4:(((aP dl (aB dc)).length:Nat):Int)≤8)(h5:cK .i64 (atF (aB dc).reverse) (.int .i64 num))(h6:(dO (atF (aB dc).reverse) (.int .i64 num))=true)(h7:fF (atF (aB dc).reverse) (.int .i64 num)=some (dcE y0 y1 y2 y3 y4 y5))(h8:bFu dl (aB sk) (aB dc) [y0,y1,y2,y3,y4,y5] r6)(h9:uni 2 (aB sk)∧(aB sk).length≤1000)(h10:(aJ (aB sk) 0).length≤1000)(h11:(0:Int)≤(bE (fun x=>decide (r6=x)) (aJ (aB sk) 0)))(hl12:aC Tp 0 aIl (tP dl sk dc num r6) .normal (mA dl sk dc num r6 )){base:Nat}:FV Tp 58 [(.p (.agg (cL dl sk dc))),(pI num)] base (.tup [(pB false),(pI 0)]) []:=by
 exact FV.fin Tryz.func58 rfl (o:=[.c (.tup [(.rp (aH dl (aB sk) (aB dc)) 0),(pI 0)]) [],bF,.g 1 ⟨[],[0,2,3],[4,1],[]⟩,.x (PV.rp (aH dl (aB sk) (aB dc)) 0),.c (.own 3) [(3,(.row 3 ((aP dl (aB dc)).length) ((aP dl (aB dc)).map aA)))],.x (aA num),.c (pB ((aP dl (aB dc)).contains num)) [],bF,bF,.x (PV.rp (aH dl (aB sk) (aB dc)) 0),.x (PV.rp (aH dl (aB sk) (aB dc)) 0),.x (.mp (atF (aB dc).reverse)),.x (aA num),bT,.x (dcE y0 y1 y2 y3 y4 y5),.c (pI r6) [],.x (PV.rp (aH dl (aB sk) (aB dc)) 0),.x (.agg (cL dl (aB sk) (aB dc))),.c (.own 13) [(13,(.row 3 ((aJ (aB sk) 0).length) ((aJ (aB sk) 0).map aA)))],.c (pI (bE (fun x=>decide (r6=x)) (aJ (aB sk) 0))) [],.g 2 ⟨[],[0,1,2,3,13],[12,29],[]⟩,.x (aA (bE (fun x=>decide (r6=x)) (aJ (aB sk) 0))),bF,.c (.p (aG ((aP dl (aB dc)).filter fun n => !(n == num)))) [(3,.dead)],.c (.fn 182 [] [(.rp [(aG ((aP dl (aB dc)).filter fun n => !(n == num)))] 0)]) [],.k 1 ⟨(rng [(0,3),(7,2),(11,42),(54,48)]),[1,2],[],[]⟩ .normal (mA dl sk dc num r6 )]) (l:=[aC Tp 0 aIl (tP dl sk dc num r6) .normal (mA dl sk dc num r6 ),FC Tp 132 [(.p (aG ((aP dl (aB dc)).filter fun n => !(n == num))))] [] 5 (.fn 182 [] [(.rp [(aG ((aP dl (aB dc)).filter fun n => !(n == num)))] 0)]) [],FC Tp 54 [(.own 3),(.fn 133 [] [(.rp [(aA num)] 0)])] [(3,(.row 3 ((aP dl (aB dc)).length) ((aP dl (aB dc)).map aA)))] 5 (.p (aG ((aP dl (aB dc)).filter fun n => !(n == num)))) [(3,.dead)],_,[(aA (bE (fun x=>decide (r6=x)) (aJ (aB sk) 0)))][0]? = some (aA (bE (fun x=>decide (r6=x)) (aJ (aB sk) 0))),FC Tp 126 [(.own 13),(pI r6)] [(13,(.row 3 ((aJ (aB sk) 0).length) ((aJ (aB sk) 0).map aA)))] 21 (pI (bE (fun x=>decide (r6=x)) (aJ (aB sk) 0))) [],_,some (.agg (((aH dl (aB sk) (aB dc)).drop 0).take 3):PV)=some (.agg (cL dl (aB sk) (aB dc))),0+3≤(aH dl (aB sk) (aB dc)).length,[(PV.rp (aH dl (aB sk) (aB dc)) 0)][0]? = some (PV.rp (aH dl (aB sk) (aB dc)) 0),FC Tp 128 [(.rp (aH dl (aB sk) (aB dc)) 0),(.p (dcE y0 y1 y2 y3 y4 y5))] [] 4 (pI r6) [],_,_,_,[(aA num)][0]? = some (aA num),(aH dl (aB sk) (aB dc))[3]? = some (.mp (atF (aB dc).reverse)),[(PV.rp (aH dl (aB sk) (aB dc)) 0)][0]? = some (PV.rp (aH dl (aB sk) (aB dc)) 0),[(PV.rp (aH dl (aB sk) (aB dc)) 0)][0]? = some (PV.rp (aH dl (aB sk) (aB dc)) 0),_,_,FC Tp 52 [(.own 3),(pI num)] [(3,(.row 3 ((aP dl (aB dc)).length) ((aP dl (aB dc)).map aA)))] 4 (pB ((aP dl (aB dc)).contains num)) [],[(aA num)][0]? = some (aA num),_,[(PV.rp (aH dl (aB sk) (aB dc)) 0)][0]? = some (PV.rp (aH dl (aB sk) (aB dc)) 0),_,_]) (by kernel_rfl) (gc hl12 (gc (FV.fc (aQd (q:=((aP dl (aB dc)).filter fun n => !(n == num)))) rfl) (gc (FMM.fc (ids:=[3]) (bFs (l:=(aP dl (aB dc))) (m:=num) h2 (fun _ _=>rfl)) (by kernel_rfl)) (gc (bG h11) (gc rfl (gc (fv (aBn (aJ (aB sk) 0) r6 h10)) (gc (fk 13 (nC dl (aB sk) (aB dc) h9) rfl) (gc rfl (gc (by first | decide | simp) (gc rfl (gc (FV.fc (h8 _) rfl) (gc h7 (gc h6 (gc h5 (gc rfl (gc rfl (gc rfl (gc rfl (gc (bG h4) (gc (aV h3) (gc (fv (pC (aP dl (aB dc)) num h2)) (gc rfl (gc (fk 3 (qR (dl:=dl) (sk:=(aB sk)) (dc:=(aB dc)) h1) rfl) (gc rfl (gc aCl (gc (fk 4 (jT dl sk dc h0) rfl) gn))))))))))))))))))))))))))
theorem bUq{num y0 y1 y2 y3 y4 y5 r6:Int}(h0:cB dl sk dc)(h1:cI (aB dc))(h2:(aP dl (aB dc)).length≤1000)(h3:((aP dl (aB dc)).contains num)=true)(h4:(((aP dl (aB dc)).length:Nat):Int)≤8)(h5:cK .i64 (atF (aB dc).reverse) (.int .i64 num))(h6:(dO (atF (aB dc).reverse) (.int .i64 num))=true)(h7:fF (atF (aB dc).reverse) (.int .i64 num)=some (dcE y0 y1 y2 y3 y4 y5))(h8:bFu dl (aB sk) (aB dc) [y0,y1,y2,y3,y4,y5] r6)(h9:uni 2 (aB sk)∧(aB sk).length≤1000)(h10:(aJ (aB sk) 0).length≤1000)(h11:(0:Int)≤(bE (fun x=>decide (r6=x)) (aJ (aB sk) 0)))(hl12:aC Tp 0 aIl (tP dl sk dc num r6) .ret (aCm dl sk dc num r6)){base:Nat}:FV Tp 58 [(.p (.agg (cL dl sk dc))),(pI num)] base (.tup [(pB true),(pI 0)]) []:=by
 exact FV.fin Tryz.func58 rfl (o:=[.c (.tup [(.rp (aH dl (aB sk) (aB dc)) 0),(pI 0)]) [],bF,.g 1 ⟨[],[0,2,3],[4,1],[]⟩,.x (PV.rp (aH dl (aB sk) (aB dc)) 0),.c (.own 3) [(3,(.row 3 ((aP dl (aB dc)).length) ((aP dl (aB dc)).map aA)))],.x (aA num),.c (pB ((aP dl (aB dc)).contains num)) [],bF,bF,.x (PV.rp (aH dl (aB sk) (aB dc)) 0),.x (PV.rp (aH dl (aB sk) (aB dc)) 0),.x (.mp (atF (aB dc).reverse)),.x (aA num),bT,.x (dcE y0 y1 y2 y3 y4 y5),.c (pI r6) [],.x (PV.rp (aH dl (aB sk) (aB dc)) 0),.x (.agg (cL dl (aB sk) (aB dc))),.c (.own 13) [(13,(.row 3 ((aJ (aB sk) 0).length) ((aJ (aB sk) 0).map aA)))],.c (pI (bE (fun x=>decide (r6=x)) (aJ (aB sk) 0))) [],.g 2 ⟨[],[0,1,2,3,13],[12,29],[]⟩,.x (aA (bE (fun x=>decide (r6=x)) (aJ (aB sk) 0))),bF,.c (.p (aG ((aP dl (aB dc)).filter fun n => !(n == num)))) [(3,.dead)],.c (.fn 182 [] [(.rp [(aG ((aP dl (aB dc)).filter fun n => !(n == num)))] 0)]) [],.k 1 ⟨(rng [(0,3),(7,2),(11,42),(54,48)]),[1,2],[],[]⟩ .ret (aCm dl sk dc num r6)]) (l:=[aC Tp 0 aIl (tP dl sk dc num r6) .ret (aCm dl sk dc num r6),FC Tp 132 [(.p (aG ((aP dl (aB dc)).filter fun n => !(n == num))))] [] 5 (.fn 182 [] [(.rp [(aG ((aP dl (aB dc)).filter fun n => !(n == num)))] 0)]) [],FC Tp 54 [(.own 3),(.fn 133 [] [(.rp [(aA num)] 0)])] [(3,(.row 3 ((aP dl (aB dc)).length) ((aP dl (aB dc)).map aA)))] 5 (.p (aG ((aP dl (aB dc)).filter fun n => !(n == num)))) [(3,.dead)],_,[(aA (bE (fun x=>decide (r6=x)) (aJ (aB sk) 0)))][0]? = some (aA (bE (fun x=>decide (r6=x)) (aJ (aB sk) 0))),FC Tp 126 [(.own 13),(pI r6)] [(13,(.row 3 ((aJ (aB sk) 0).length) ((aJ (aB sk) 0).map aA)))] 21 (pI (bE (fun x=>decide (r6=x)) (aJ (aB sk) 0))) [],_,some (.agg (((aH dl (aB sk) (aB dc)).drop 0).take 3):PV)=some (.agg (cL dl (aB sk) (aB dc))),0+3≤(aH dl (aB sk) (aB dc)).length,[(PV.rp (aH dl (aB sk) (aB dc)) 0)][0]? = some (PV.rp (aH dl (aB sk) (aB dc)) 0),FC Tp 128 [(.rp (aH dl (aB sk) (aB dc)) 0),(.p (dcE y0 y1 y2 y3 y4 y5))] [] 4 (pI r6) [],_,_,_,[(aA num)][0]? = some (aA num),(aH dl (aB sk) (aB dc))[3]? = some (.mp (atF (aB dc).reverse)),[(PV.rp (aH dl (aB sk) (aB dc)) 0)][0]? = some (PV.rp (aH dl (aB sk) (aB dc)) 0),[(PV.rp (aH dl (aB sk) (aB dc)) 0)][0]? = some (PV.rp (aH dl (aB sk) (aB dc)) 0),_,_,FC Tp 52 [(.own 3),(pI num)] [(3,(.row 3 ((aP dl (aB dc)).length) ((aP dl (aB dc)).map aA)))] 4 (pB ((aP dl (aB dc)).contains num)) [],[(aA num)][0]? = some (aA num),_,[(PV.rp (aH dl (aB sk) (aB dc)) 0)][0]? = some (PV.rp (aH dl (aB sk) (aB dc)) 0),_,_]) (by kernel_rfl) (gc hl12 (gc (FV.fc (aQd (q:=((aP dl (aB dc)).filter fun n => !(n == num)))) rfl) (gc (FMM.fc (ids:=[3]) (bFs (l:=(aP dl (aB dc))) (m:=num) h2 (fun _ _=>rfl)) (by kernel_rfl)) (gc (bG h11) (gc rfl (gc (fv (aBn (aJ (aB sk) 0) r6 h10)) (gc (fk 13 (nC dl (aB sk) (aB dc) h9) rfl) (gc rfl (gc (by first | decide | simp) (gc rfl (gc (FV.fc (h8 _) rfl) (gc h7 (gc h6 (gc h5 (gc rfl (gc rfl (gc rfl (gc rfl (gc (bG h4) (gc (aV h3) (gc (fv (pC (aP dl (aB dc)) num h2)) (gc rfl (gc (fk 3 (qR (dl:=dl) (sk:=(aB sk)) (dc:=(aB dc)) h1) rfl) (gc rfl (gc aCl (gc (fk 4 (jT dl sk dc h0) rfl) gn))))))))))))))))))))))))))
def gS(dl:Int)(sk:Lqq)(dc:Lqq)(num:Int)(r6:Int)(x:List Int)  : St:=⟨fr 102 [(3,(.rp [(aA num)] 0)),(4,(.ptr 0 0)),(5,(.ptr 1 0)),(6,(.rp [(PV.rp (aH dl (aB sk) (aB dc)) 0)] 0)),(9,(.rp [(aA r6)] 0)),(10,(.rp [(aA (bE (fun x=>decide (r6=x)) (aJ (aB sk) 0)))] 0)),(11,(.own 2)),(53,(.fn 182 [] [(.rp [(aG ((aP dl (aB dc)).filter fun n => !(n == num)))] 0)])),(54,(.own 2))],[some (.box 4 [(pB false)]),some (.box 34 [(pI 0)]),some (.row 3 x.length (x.map aA))]⟩
def aIm(dl:Int)(sk:Lqq)(dc:Lqq)(num:Int)(r6:Int)  : St:=⟨fr 102 [],[some (.box 4 [(.kb true)]),some (.box 34 [(pI 0)]),some .dead]⟩
theorem bBo{num r6:Int}{x:List Int}{y100 y101 n102:Int}{b103:Bool}{T104:Lqb}(hl0:aC Tp 3 xF (gS dl sk dc num r6 x ) .normal (cF (gS dl sk dc num r6 x ) [(12,(pI ((fD dl sk dc r6 x).1))),(13,(pB ((fD dl sk dc r6 x).2)))]))(h1:(aB sk)[(bE (fun x=>decide (r6=x)) (aJ (aB sk) 0)).toNat]? = some [y100,y101])(h2:0≤(bE (fun x=>decide (r6=x)) (aJ (aB sk) 0)))(h3:uni 2 (aB sk))(h4:[(aA num)].length=1*1∧x.length+1≤1000000)(h5:aDd dl (aB sk) (aB dc) (.sl (x.length+1) ((x.map aA)++[(aA num)])) [y100,y101] n102 b103 ([]:Lqb) T104)(h6:cY [(aA r6),(aA 0),(aA ((fD dl sk dc r6 x).1))] [(0,3,true),(1,3,true),(2,3,true)]=true∧cY [(aA r6),(aA 0),(aA n102)] [(0,3,true),(1,3,true),(2,3,true)]=true)(h7:(jL [(aA r6),(aA 0),(aA ((fD dl sk dc r6 x).1))] [(aA r6),(aA 0),(aA n102)] [(0,3,true),(1,3,true),(2,3,true)])=false):aC Tp 3 aRg (rfO (mA dl sk dc num r6 ) 54 11 x) .ret (aIm dl sk dc num r6 ):=by
 exact aC.fin (g:=⟨(rng [(0,102)]),[],[],[]⟩) (o:=[.k 2 ⟨(rng [(0,3),(7,2),(12,2),(16,37),(55,16)]),[],[],[]⟩ .normal (cF (gS dl sk dc num r6 x ) [(12,(pI ((fD dl sk dc r6 x).1))),(13,(pB ((fD dl sk dc r6 x).2)))]),.x (PV.rp (aH dl (aB sk) (aB dc)) 0),.x (PV.rp (aH dl (aB sk) (aB dc)) 0),.x (.sl ((aB sk).length) ((aB sk).flatten.map aA)),.x (aA (bE (fun x=>decide (r6=x)) (aJ (aB sk) 0))),.x (.agg [(aA y100),(aA y101)]),.x (PV.rp (aH dl (aB sk) (aB dc)) 0),.x (aA num),.c (.agg (kVL 9 10 5 7 11 6)) [(4,.dead),(5,(vB0 dl (aB sk) (aB dc))),(6,(.box 33 [(.p (.sl (x.length+1) ((x.map aA)++[(aA num)])))])),(7,(.box 139 (kVL 9 10 5 7 11 6))),(8,(.mp (aE ([]:Lqb)) 0)),(9,(.box 207 [(.mp 8)])),(10,(vB5 dl (aB sk) (aB dc))),(11,(.box 209 [(.fn 153 [] [(.ptr 5 0),(.ptr 7 0)])]))],.c (.tup [(pI n102),(pB b103)]) [(5,(vB0 dl (aB sk) (aB dc))),(6,(.box 33 [(.p (.sl (x.length+1) ((x.map aA)++[(aA num)])))])),(7,(.box 139 (kVL 9 10 5 7 11 6))),(8,(.mp (aE T104) T104.length)),(9,(.box 207 [(.mp 8)])),(10,(vB5 dl (aB sk) (aB dc))),(11,(.box 209 [(.fn 153 [] [(.ptr 5 0),(.ptr 7 0)])]))],.x (aA r6),.x (aA r6),bT,bT,bT,bT]) (l:=[_,_,_,_,_,[(aA r6)][0]? = some (aA r6),[(aA r6)][0]? = some (aA r6),FC Tp 134 [(.rp (aH dl (aB sk) (aB dc)) 0),(.p (.agg [(aA y100),(aA y101)])),(.agg (kVL 9 10 5 7 11 6))] [(9,(.box 207 [(.mp 8)])),(10,(vB5 dl (aB sk) (aB dc))),(5,(vB0 dl (aB sk) (aB dc))),(7,(.box 139 (kVL 9 10 5 7 11 6))),(11,(.box 209 [(.fn 153 [] [(.ptr 5 0),(.ptr 7 0)])])),(6,(.box 33 [(.p (.sl (x.length+1) ((x.map aA)++[(aA num)])))])),(8,(.mp (aE ([]:Lqb)) 0))] 13 (.tup [(pI n102),(pB b103)]) [(5,(vB0 dl (aB sk) (aB dc))),(6,(.box 33 [(.p (.sl (x.length+1) ((x.map aA)++[(aA num)])))])),(7,(.box 139 (kVL 9 10 5 7 11 6))),(8,(.mp (aE T104) T104.length)),(9,(.box 207 [(.mp 8)])),(10,(vB5 dl (aB sk) (aB dc))),(11,(.box 209 [(.fn 153 [] [(.ptr 5 0),(.ptr 7 0)])]))],FC Tp 87 [(.rp (aH dl (aB sk) (aB dc)) 0),(.own 4)] [(4,(.row 3 (x.length+1) ((x.map aA)++[(aA num)])))] 5 (.agg (kVL 9 10 5 7 11 6)) [(4,.dead),(5,(vB0 dl (aB sk) (aB dc))),(6,(.box 33 [(.p (.sl (x.length+1) ((x.map aA)++[(aA num)])))])),(7,(.box 139 (kVL 9 10 5 7 11 6))),(8,(.mp (aE ([]:Lqb)) 0)),(9,(.box 207 [(.mp 8)])),(10,(vB5 dl (aB sk) (aB dc))),(11,(.box 209 [(.fn 153 [] [(.ptr 5 0),(.ptr 7 0)])]))],_,[(aA num)][0]? = some (aA num),[(PV.rp (aH dl (aB sk) (aB dc)) 0)][0]? = some (PV.rp (aH dl (aB sk) (aB dc)) 0),_,_,0≤(bE (fun x=>decide (r6=x)) (aJ (aB sk) 0))∧(bE (fun x=>decide (r6=x)) (aJ (aB sk) 0))<(((aB sk).length:Nat):Int)∧((bE (fun x=>decide (r6=x)) (aJ (aB sk) 0)).toNat*2)<((aB sk).flatten.map aA).length,[(aA (bE (fun x=>decide (r6=x)) (aJ (aB sk) 0)))][0]? = some (aA (bE (fun x=>decide (r6=x)) (aJ (aB sk) 0))),(aH dl (aB sk) (aB dc))[1]? = some (.sl ((aB sk).length) ((aB sk).flatten.map aA)),[(PV.rp (aH dl (aB sk) (aB dc)) 0)][0]? = some (PV.rp (aH dl (aB sk) (aB dc)) 0),[(PV.rp (aH dl (aB sk) (aB dc)) 0)][0]? = some (PV.rp (aH dl (aB sk) (aB dc)) 0),aC Tp 3 xF (gS dl sk dc num r6 x ) .normal (cF (gS dl sk dc num r6 x ) [(12,(pI ((fD dl sk dc r6 x).1))),(13,(pB ((fD dl sk dc r6 x).2)))])]) (by kernel_rfl) (g4c (bU h7) (gc h6 (gc rfl (gc rfl (gc (FMM.fc (ids:=[5,6,7,8,9,10,11]) h5 (by kernel_rfl)) (gc (FC.close1 (args':=[(.rp (aH dl (aB sk) (aB dc)) 0),(.p (.sl (x.length+1) ((x.map aA)++[(aA num)])))]) (FMM.fcN (k:=7) rfl (ids:=[]) (pG (dl:=dl) (sk:=(aB sk)) (dc:=(aB dc)) (on:=(x.length+1)) (ol:=((x.map aA)++[(aA num)]))) (by kernel_rfl)) (by kernel_rfl)) (gc h4 (gc rfl (gc rfl (gc (aS (i:=(bE (fun x=>decide (r6=x)) (aJ (aB sk) 0)).toNat) h3 h1) (gc (bH (i:=(bE (fun x=>decide (r6=x)) (aJ (aB sk) 0)).toNat) h3 h1) (gc (bR (k:=2) (i:=(bE (fun x=>decide (r6=x)) (aJ (aB sk) 0))) (by decide) h3 h2 h1) (gc rfl (gc rfl (gc rfl (gc rfl (gc hl0 gn)))))))))))))))))
theorem bBp{num r6:Int}{x:List Int}{y100 y101 n102:Int}{b103:Bool}{T104:Lqb}(hl0:aC Tp 3 xF (gS dl sk dc num r6 x ) .normal (cF (gS dl sk dc num r6 x ) [(12,(pI ((fD dl sk dc r6 x).1))),(13,(pB ((fD dl sk dc r6 x).2)))]))(h1:(aB sk)[(bE (fun x=>decide (r6=x)) (aJ (aB sk) 0)).toNat]? = some [y100,y101])(h2:0≤(bE (fun x=>decide (r6=x)) (aJ (aB sk) 0)))(h3:uni 2 (aB sk))(h4:[(aA num)].length=1*1∧x.length+1≤1000000)(h5:aDd dl (aB sk) (aB dc) (.sl (x.length+1) ((x.map aA)++[(aA num)])) [y100,y101] n102 b103 ([]:Lqb) T104)(h6:cY [(aA r6),(aA 0),(aA ((fD dl sk dc r6 x).1))] [(0,3,true),(1,3,true),(2,3,true)]=true∧cY [(aA r6),(aA 0),(aA n102)] [(0,3,true),(1,3,true),(2,3,true)]=true)(h7:(jL [(aA r6),(aA 0),(aA ((fD dl sk dc r6 x).1))] [(aA r6),(aA 0),(aA n102)] [(0,3,true),(1,3,true),(2,3,true)])=true)(h8:(((fD dl sk dc r6 x).2) == b103)=false):aC Tp 3 aRg (rfO (mA dl sk dc num r6 ) 54 11 x) .ret (aIm dl sk dc num r6 ):=by
 exact aC.fin (g:=⟨(rng [(0,102)]),[],[],[]⟩) (o:=[.k 2 ⟨(rng [(0,3),(7,2),(12,2),(16,37),(55,16)]),[],[],[]⟩ .normal (cF (gS dl sk dc num r6 x ) [(12,(pI ((fD dl sk dc r6 x).1))),(13,(pB ((fD dl sk dc r6 x).2)))]),.x (PV.rp (aH dl (aB sk) (aB dc)) 0),.x (PV.rp (aH dl (aB sk) (aB dc)) 0),.x (.sl ((aB sk).length) ((aB sk).flatten.map aA)),.x (aA (bE (fun x=>decide (r6=x)) (aJ (aB sk) 0))),.x (.agg [(aA y100),(aA y101)]),.x (PV.rp (aH dl (aB sk) (aB dc)) 0),.x (aA num),.c (.agg (kVL 9 10 5 7 11 6)) [(4,.dead),(5,(vB0 dl (aB sk) (aB dc))),(6,(.box 33 [(.p (.sl (x.length+1) ((x.map aA)++[(aA num)])))])),(7,(.box 139 (kVL 9 10 5 7 11 6))),(8,(.mp (aE ([]:Lqb)) 0)),(9,(.box 207 [(.mp 8)])),(10,(vB5 dl (aB sk) (aB dc))),(11,(.box 209 [(.fn 153 [] [(.ptr 5 0),(.ptr 7 0)])]))],.c (.tup [(pI n102),(pB b103)]) [(5,(vB0 dl (aB sk) (aB dc))),(6,(.box 33 [(.p (.sl (x.length+1) ((x.map aA)++[(aA num)])))])),(7,(.box 139 (kVL 9 10 5 7 11 6))),(8,(.mp (aE T104) T104.length)),(9,(.box 207 [(.mp 8)])),(10,(vB5 dl (aB sk) (aB dc))),(11,(.box 209 [(.fn 153 [] [(.ptr 5 0),(.ptr 7 0)])]))],.x (aA r6),.x (aA r6),bF,bF,bF,bF,bT]) (l:=[_,_,_,_,_,_,[(aA r6)][0]? = some (aA r6),[(aA r6)][0]? = some (aA r6),FC Tp 134 [(.rp (aH dl (aB sk) (aB dc)) 0),(.p (.agg [(aA y100),(aA y101)])),(.agg (kVL 9 10 5 7 11 6))] [(9,(.box 207 [(.mp 8)])),(10,(vB5 dl (aB sk) (aB dc))),(5,(vB0 dl (aB sk) (aB dc))),(7,(.box 139 (kVL 9 10 5 7 11 6))),(11,(.box 209 [(.fn 153 [] [(.ptr 5 0),(.ptr 7 0)])])),(6,(.box 33 [(.p (.sl (x.length+1) ((x.map aA)++[(aA num)])))])),(8,(.mp (aE ([]:Lqb)) 0))] 13 (.tup [(pI n102),(pB b103)]) [(5,(vB0 dl (aB sk) (aB dc))),(6,(.box 33 [(.p (.sl (x.length+1) ((x.map aA)++[(aA num)])))])),(7,(.box 139 (kVL 9 10 5 7 11 6))),(8,(.mp (aE T104) T104.length)),(9,(.box 207 [(.mp 8)])),(10,(vB5 dl (aB sk) (aB dc))),(11,(.box 209 [(.fn 153 [] [(.ptr 5 0),(.ptr 7 0)])]))],FC Tp 87 [(.rp (aH dl (aB sk) (aB dc)) 0),(.own 4)] [(4,(.row 3 (x.length+1) ((x.map aA)++[(aA num)])))] 5 (.agg (kVL 9 10 5 7 11 6)) [(4,.dead),(5,(vB0 dl (aB sk) (aB dc))),(6,(.box 33 [(.p (.sl (x.length+1) ((x.map aA)++[(aA num)])))])),(7,(.box 139 (kVL 9 10 5 7 11 6))),(8,(.mp (aE ([]:Lqb)) 0)),(9,(.box 207 [(.mp 8)])),(10,(vB5 dl (aB sk) (aB dc))),(11,(.box 209 [(.fn 153 [] [(.ptr 5 0),(.ptr 7 0)])]))],_,[(aA num)][0]? = some (aA num),[(PV.rp (aH dl (aB sk) (aB dc)) 0)][0]? = some (PV.rp (aH dl (aB sk) (aB dc)) 0),_,_,0≤(bE (fun x=>decide (r6=x)) (aJ (aB sk) 0))∧(bE (fun x=>decide (r6=x)) (aJ (aB sk) 0))<(((aB sk).length:Nat):Int)∧((bE (fun x=>decide (r6=x)) (aJ (aB sk) 0)).toNat*2)<((aB sk).flatten.map aA).length,[(aA (bE (fun x=>decide (r6=x)) (aJ (aB sk) 0)))][0]? = some (aA (bE (fun x=>decide (r6=x)) (aJ (aB sk) 0))),(aH dl (aB sk) (aB dc))[1]? = some (.sl ((aB sk).length) ((aB sk).flatten.map aA)),[(PV.rp (aH dl (aB sk) (aB dc)) 0)][0]? = some (PV.rp (aH dl (aB sk) (aB dc)) 0),[(PV.rp (aH dl (aB sk) (aB dc)) 0)][0]? = some (PV.rp (aH dl (aB sk) (aB dc)) 0),aC Tp 3 xF (gS dl sk dc num r6 x ) .normal (cF (gS dl sk dc num r6 x ) [(12,(pI ((fD dl sk dc r6 x).1))),(13,(pB ((fD dl sk dc r6 x).2)))])]) (by kernel_rfl) (gc (bU h8) (g4c (aV h7) (gc h6 (gc rfl (gc rfl (gc (FMM.fc (ids:=[5,6,7,8,9,10,11]) h5 (by kernel_rfl)) (gc (FC.close1 (args':=[(.rp (aH dl (aB sk) (aB dc)) 0),(.p (.sl (x.length+1) ((x.map aA)++[(aA num)])))]) (FMM.fcN (k:=7) rfl (ids:=[]) (pG (dl:=dl) (sk:=(aB sk)) (dc:=(aB dc)) (on:=(x.length+1)) (ol:=((x.map aA)++[(aA num)]))) (by kernel_rfl)) (by kernel_rfl)) (gc h4 (gc rfl (gc rfl (gc (aS (i:=(bE (fun x=>decide (r6=x)) (aJ (aB sk) 0)).toNat) h3 h1) (gc (bH (i:=(bE (fun x=>decide (r6=x)) (aJ (aB sk) 0)).toNat) h3 h1) (gc (bR (k:=2) (i:=(bE (fun x=>decide (r6=x)) (aJ (aB sk) 0))) (by decide) h3 h2 h1) (gc rfl (gc rfl (gc rfl (gc rfl (gc hl0 gn))))))))))))))))))
def aRh(dl:Int)(sk:Lqq)(dc:Lqq)(num:Int)(r6:Int)  : St:=⟨fr 102 [(3,(.rp [(aA num)] 0)),(4,(.ptr 0 0)),(5,(.ptr 1 0)),(6,(.rp [(PV.rp (aH dl (aB sk) (aB dc)) 0)] 0)),(9,(.rp [(aA r6)] 0)),(10,(.rp [(aA (bE (fun x=>decide (r6=x)) (aJ (aB sk) 0)))] 0)),(53,(.fn 182 [] [(.rp [(aG ((aP dl (aB dc)).filter fun n => !(n == num)))] 0)]))],[some (.box 4 [(pB false)]),some (.box 34 [(pI 0)]),some .dead]⟩
theorem bBq{num r6:Int}{x:List Int}{y100 y101 n102:Int}{b103:Bool}{T104:Lqb}(hl0:aC Tp 3 xF (gS dl sk dc num r6 x ) .normal (cF (gS dl sk dc num r6 x ) [(12,(pI ((fD dl sk dc r6 x).1))),(13,(pB ((fD dl sk dc r6 x).2)))]))(h1:(aB sk)[(bE (fun x=>decide (r6=x)) (aJ (aB sk) 0)).toNat]? = some [y100,y101])(h2:0≤(bE (fun x=>decide (r6=x)) (aJ (aB sk) 0)))(h3:uni 2 (aB sk))(h4:[(aA num)].length=1*1∧x.length+1≤1000000)(h5:aDd dl (aB sk) (aB dc) (.sl (x.length+1) ((x.map aA)++[(aA num)])) [y100,y101] n102 b103 ([]:Lqb) T104)(h6:cY [(aA r6),(aA 0),(aA ((fD dl sk dc r6 x).1))] [(0,3,true),(1,3,true),(2,3,true)]=true∧cY [(aA r6),(aA 0),(aA n102)] [(0,3,true),(1,3,true),(2,3,true)]=true)(h7:(jL [(aA r6),(aA 0),(aA ((fD dl sk dc r6 x).1))] [(aA r6),(aA 0),(aA n102)] [(0,3,true),(1,3,true),(2,3,true)])=true)(h8:(((fD dl sk dc r6 x).2) == b103)=true):aC Tp 3 aRg (rfO (mA dl sk dc num r6 ) 54 11 x) .normal (aRh dl sk dc num r6 ):=by
 exact aC.fin (g:=⟨(rng [(0,3),(7,2),(11,42),(54,48)]),[],[],[]⟩) (o:=[.k 2 ⟨(rng [(0,3),(7,2),(12,2),(16,37),(55,16)]),[],[],[]⟩ .normal (cF (gS dl sk dc num r6 x ) [(12,(pI ((fD dl sk dc r6 x).1))),(13,(pB ((fD dl sk dc r6 x).2)))]),.x (PV.rp (aH dl (aB sk) (aB dc)) 0),.x (PV.rp (aH dl (aB sk) (aB dc)) 0),.x (.sl ((aB sk).length) ((aB sk).flatten.map aA)),.x (aA (bE (fun x=>decide (r6=x)) (aJ (aB sk) 0))),.x (.agg [(aA y100),(aA y101)]),.x (PV.rp (aH dl (aB sk) (aB dc)) 0),.x (aA num),.c (.agg (kVL 9 10 5 7 11 6)) [(4,.dead),(5,(vB0 dl (aB sk) (aB dc))),(6,(.box 33 [(.p (.sl (x.length+1) ((x.map aA)++[(aA num)])))])),(7,(.box 139 (kVL 9 10 5 7 11 6))),(8,(.mp (aE ([]:Lqb)) 0)),(9,(.box 207 [(.mp 8)])),(10,(vB5 dl (aB sk) (aB dc))),(11,(.box 209 [(.fn 153 [] [(.ptr 5 0),(.ptr 7 0)])]))],.c (.tup [(pI n102),(pB b103)]) [(5,(vB0 dl (aB sk) (aB dc))),(6,(.box 33 [(.p (.sl (x.length+1) ((x.map aA)++[(aA num)])))])),(7,(.box 139 (kVL 9 10 5 7 11 6))),(8,(.mp (aE T104) T104.length)),(9,(.box 207 [(.mp 8)])),(10,(vB5 dl (aB sk) (aB dc))),(11,(.box 209 [(.fn 153 [] [(.ptr 5 0),(.ptr 7 0)])]))],.x (aA r6),.x (aA r6),bF,bF,bF,bF,bF]) (l:=[_,_,_,_,_,_,[(aA r6)][0]? = some (aA r6),[(aA r6)][0]? = some (aA r6),FC Tp 134 [(.rp (aH dl (aB sk) (aB dc)) 0),(.p (.agg [(aA y100),(aA y101)])),(.agg (kVL 9 10 5 7 11 6))] [(9,(.box 207 [(.mp 8)])),(10,(vB5 dl (aB sk) (aB dc))),(5,(vB0 dl (aB sk) (aB dc))),(7,(.box 139 (kVL 9 10 5 7 11 6))),(11,(.box 209 [(.fn 153 [] [(.ptr 5 0),(.ptr 7 0)])])),(6,(.box 33 [(.p (.sl (x.length+1) ((x.map aA)++[(aA num)])))])),(8,(.mp (aE ([]:Lqb)) 0))] 13 (.tup [(pI n102),(pB b103)]) [(5,(vB0 dl (aB sk) (aB dc))),(6,(.box 33 [(.p (.sl (x.length+1) ((x.map aA)++[(aA num)])))])),(7,(.box 139 (kVL 9 10 5 7 11 6))),(8,(.mp (aE T104) T104.length)),(9,(.box 207 [(.mp 8)])),(10,(vB5 dl (aB sk) (aB dc))),(11,(.box 209 [(.fn 153 [] [(.ptr 5 0),(.ptr 7 0)])]))],FC Tp 87 [(.rp (aH dl (aB sk) (aB dc)) 0),(.own 4)] [(4,(.row 3 (x.length+1) ((x.map aA)++[(aA num)])))] 5 (.agg (kVL 9 10 5 7 11 6)) [(4,.dead),(5,(vB0 dl (aB sk) (aB dc))),(6,(.box 33 [(.p (.sl (x.length+1) ((x.map aA)++[(aA num)])))])),(7,(.box 139 (kVL 9 10 5 7 11 6))),(8,(.mp (aE ([]:Lqb)) 0)),(9,(.box 207 [(.mp 8)])),(10,(vB5 dl (aB sk) (aB dc))),(11,(.box 209 [(.fn 153 [] [(.ptr 5 0),(.ptr 7 0)])]))],_,[(aA num)][0]? = some (aA num),[(PV.rp (aH dl (aB sk) (aB dc)) 0)][0]? = some (PV.rp (aH dl (aB sk) (aB dc)) 0),_,_,0≤(bE (fun x=>decide (r6=x)) (aJ (aB sk) 0))∧(bE (fun x=>decide (r6=x)) (aJ (aB sk) 0))<(((aB sk).length:Nat):Int)∧((bE (fun x=>decide (r6=x)) (aJ (aB sk) 0)).toNat*2)<((aB sk).flatten.map aA).length,[(aA (bE (fun x=>decide (r6=x)) (aJ (aB sk) 0)))][0]? = some (aA (bE (fun x=>decide (r6=x)) (aJ (aB sk) 0))),(aH dl (aB sk) (aB dc))[1]? = some (.sl ((aB sk).length) ((aB sk).flatten.map aA)),[(PV.rp (aH dl (aB sk) (aB dc)) 0)][0]? = some (PV.rp (aH dl (aB sk) (aB dc)) 0),[(PV.rp (aH dl (aB sk) (aB dc)) 0)][0]? = some (PV.rp (aH dl (aB sk) (aB dc)) 0),aC Tp 3 xF (gS dl sk dc num r6 x ) .normal (cF (gS dl sk dc num r6 x ) [(12,(pI ((fD dl sk dc r6 x).1))),(13,(pB ((fD dl sk dc r6 x).2)))])]) (by kernel_rfl) (gc (aV h8) (g4c (aV h7) (gc h6 (gc rfl (gc rfl (gc (FMM.fc (ids:=[5,6,7,8,9,10,11]) h5 (by kernel_rfl)) (gc (FC.close1 (args':=[(.rp (aH dl (aB sk) (aB dc)) 0),(.p (.sl (x.length+1) ((x.map aA)++[(aA num)])))]) (FMM.fcN (k:=7) rfl (ids:=[]) (pG (dl:=dl) (sk:=(aB sk)) (dc:=(aB dc)) (on:=(x.length+1)) (ol:=((x.map aA)++[(aA num)]))) (by kernel_rfl)) (by kernel_rfl)) (gc h4 (gc rfl (gc rfl (gc (aS (i:=(bE (fun x=>decide (r6=x)) (aJ (aB sk) 0)).toNat) h3 h1) (gc (bH (i:=(bE (fun x=>decide (r6=x)) (aJ (aB sk) 0)).toNat) h3 h1) (gc (bR (k:=2) (i:=(bE (fun x=>decide (r6=x)) (aJ (aB sk) 0))) (by decide) h3 h2 h1) (gc rfl (gc rfl (gc rfl (gc rfl (gc hl0 gn))))))))))))))))))
end
section
variable {F:Fence} {n:Nat} {P:Program}
theorem aRf{o:Oper}{a:Act}{next next':Act→World→Prop}{Q Q':Exit→Act→World→Prop}{r:Result Next}(h:o.uponIn F n P a next Q r)
  (hn:∀ v d w',next (({ a with defers:=d }:Act).put o.dst v) w'→next' (({ a with defers:=d }:Act).put o.dst v) w') (hQ:∀ e a' w',e ≠ .normal→Q e a' w'→Q' e a' w') (hL:LetsOut Q→LetsOut Q'):o.uponIn F n P a next' Q' r:=by
 have hn':∀ v w',next (a.put o.dst v) w'→next' (a.put o.dst v) w':=fun v w'=>hn v a.defers w'
 cases r with
 | halt x w' =>
  cases x <;> first | exact hQ _ _ _ (by simp) h | exact h
 | ok nx w' =>
  cases nx with
  | value v=>exact hn' _ _ h
  | skip=>exact hn' _ _ h
  | defer d=>exact hn _ _ _ h
  | enter f us =>
   refine ⟨h.1,h.2.mono ?_⟩;intro e w'' he;cases e with
   | returned v=>exact hn' _ _ he
   | panicked c=>exact hQ _ _ _ (by simp) he
   | outgrown=>exact hL he
  | row r us=>exact ⟨h.1,h.2.mono fun v w'' he=>hn' _ _ he⟩
  | round l f tmps as1 bd =>
   refine ⟨h.1,h.2.mono ?_⟩;intro e w'' he;cases e with
   | returned v=>exact hn' _ _ he
   | panicked c=>exact hQ _ _ _ (by simp) he
   | outgrown=>exact hL he
  | _=>exact h
def Kps(ops:Array Oper)(a0 a:Act):Prop:=∀ i,(∀ o∈ops.toList,o.dst≠some i)→a.tmps.getD i undef=a0.tmps.getD i undef
theorem bBn{ops:Array Oper}{Q Q':Exit→Act→World→Prop}{i:Nat}{K K':Act→World→Prop}{a0 a:Act}{w:World}(h:wpOpIn F n P ops Q i K a w)(ha:Kps ops a0 a)(hK:∀ a' w',Kps ops a0 a'→K a' w'→K' a' w')
  (hQ:∀ e a' w',e ≠ .normal→Q e a' w'→Q' e a' w') (hL:LetsOut Q→LetsOut Q'):wpOpIn F n P ops Q' i K' a w:=by
 unfold wpOpIn at h ⊢
 split
 ·rename_i hi
  simp only [hi] at h
  exact hK _ _ ha h
 ·rename_i o hi
  simp only [hi] at h
  have hm:o∈ops.toList:=by
   obtain ⟨hl,he⟩:=lF.1 hi;rw [← he];exact Array.mem_toList_iff.2 (Array.getElem_mem hl)
  have hput:∀ v (d:List Deferred),Kps ops a0 (({ a with defers:=d }:Act).put o.dst v):=fun v d i hd=>by
   rw [oF (a:={ a with defers:=d }) (hd o hm)]
   exact ha i hd
  split at h
  ·rename_i hw
   rw [if_pos hw];exact ⟨h.1,aRf h.2 (fun v d w' hn=>hK _ _ (hput v d) hn) hQ hL⟩
  ·rename_i hw
   rw [if_neg hw];exact ⟨h.1,hK _ _ (hput undef a.defers) h.2⟩
theorem aCk{md:Region.Mode}{ops:Array Oper}{Q:Exit→Act→World→Prop}{a0:Act}:∀ (fuel:Nat) (listed:Array Bool) (a:Act) (w:World),wpAnyIn F n P md ops Q fuel listed a w→Kps ops a0 a →
  wpAnyIn F n P md ops (fun e a' w'=>Q e a' w'∧(e = .normal→Kps ops a0 a')) fuel listed a w
 | 0,listed,a,w,h,ha=>⟨h.1,h.2,fun _=>ha⟩
 | fuel+1,listed,a,w,h,ha=>by
  refine ⟨fun h0=>⟨h.1 h0,fun _=>ha⟩,fun j hj => ?_⟩
  exact bBn (h.2 j hj) ha (fun a' w' hk h'=>aCk fuel _ a' w' h' hk) (fun e a' w' hne hq=>⟨hq,fun he=>absurd he hne⟩) (fun ⟨a',w',hq⟩=>⟨a',w',hq,fun he=>by cases he⟩)
end
section
section
variable {F:Fence} {n:Nat} {P:Program}
def bkD(ds:List Deferred)(a:Act):Act:={ a with defers:=a.defers++ds }
theorem aIk(ds:List Deferred)(a:Act)(d:Option Nat)(v:Value):(bkD ds a).put d v=bkD ds (a.put d v):=by cases d <;> rfl
theorem aCj(ds:List Deferred)(a:Act):(bkD ds a).eval=a.eval:=by funext x;cases x <;> rfl
theorem bBl(ds:List Deferred){o:Oper}{a:Act}{next next':Act→World→Prop}{Q Q':Exit→Act→World→Prop}{r:Result Next}(h:o.uponIn F n P a next Q r)
  (hn:∀ a' w',next a' w'→next' (bkD ds a') w') (hQ:∀ e a' w',Q e a' w'→Q' e (bkD ds a') w') (hL:LetsOut Q→LetsOut Q'):o.uponIn F n P (bkD ds a) next' Q' r:=by
 have hv:∀ v w',next (a.put o.dst v) w'→next' ((bkD ds a).put o.dst v) w':=fun v w' h=>by rw [aIk];exact hn _ _ h
 cases r with
 | halt x w' =>
  cases x <;> first | exact hQ _ _ _ h | exact h
 | ok nx w' =>
  cases nx with
  | value v=>exact hv _ _ h
  | skip=>exact hv _ _ h
  | defer d =>
   have:=hn _ _ h;rw [← aIk] at this
   exact this
  | enter f us =>
   refine ⟨h.1,h.2.mono ?_⟩;intro e w'' he;cases e with
   | returned v=>exact hv _ _ he
   | panicked c=>exact hQ _ _ _ he
   | outgrown=>exact hL he
  | row r us=>exact ⟨h.1,h.2.mono fun v w'' he=>hv _ _ he⟩
  | round l f tmps as1 bd =>
   refine ⟨h.1,h.2.mono ?_⟩;intro e w'' he;cases e with
   | returned v=>exact hv _ _ he
   | panicked c=>exact hQ _ _ _ he
   | outgrown=>exact hL he
  | _=>exact h
theorem bMu(ds:List Deferred){ops:Array Oper}{Q Q':Exit→Act→World→Prop}{i:Nat}{K K':Act→World→Prop}{a:Act}{w:World}(h:wpOpIn F n P ops Q i K a w)(hK:∀ a' w',K a' w'→K' (bkD ds a') w')
  (hQ:∀ e a' w',Q e a' w'→Q' e (bkD ds a') w') (hL:LetsOut Q→LetsOut Q'):wpOpIn F n P ops Q' i K' (bkD ds a) w:=by
 unfold wpOpIn at h ⊢
 split
 ·rename_i hi
  simp only [hi] at h
  exact hK _ _ h
 ·rename_i o hi
  simp only [hi] at h
  have e1:(bkD ds a).tmps=a.tmps:=rfl;rw [e1]
  split at h
  ·rename_i hw
   rw [if_pos hw];refine ⟨by rw [aCj];exact h.1,?_⟩
   rw [aCj];exact bBl ds h.2 hK hQ hL
  ·rename_i hw
   rw [if_neg hw];exact ⟨by rw [aCj];exact h.1,by rw [aIk];exact hK _ _ h.2⟩
theorem aMb(ds:List Deferred){md:Region.Mode}{ops:Array Oper}{Q Q':Exit→Act→World→Prop}(hQ:∀ e a' w',Q e a' w'→Q' e (bkD ds a') w')(hL:LetsOut Q→LetsOut Q'):∀ (fuel:Nat) (listed:Array Bool) (a:Act) (w:World),wpAnyIn F n P md ops Q fuel listed a w→wpAnyIn F n P md ops Q' fuel listed (bkD ds a) w
 | 0,listed,a,w,h=>⟨h.1,hQ _ _ _ h.2⟩
 | fuel+1,listed,a,w,h=>⟨fun h0=>hQ _ _ _ (h.1 h0),fun j hj=>bMu ds (h.2 j hj) (fun a' w' h'=>aMb ds hQ hL fuel _ a' w' h') hQ hL⟩
end
variable {P:Program} {T:TT} {E:Env}
theorem bBm(ds:List Deferred)(hT:∀ t i,T t=some i→cJ P t=some i)(hE:kY P E)(hm:P.follows .mixedOrders=true){id:Nat}{ops:Array Oper}{st st':St}{s s':AS}(h:aIu P T E ops true st s=some (st',s'))(g:bB s')
  (C0:Cx) (M0:Mem) (w0:World) (a:Act) (w:World) (hs:Sim P C0 M0 w0 st a w) (ro:Option Nat) (n:Nat):(Code.region id ops true).wpIn (Fen ro) n P (fun e' a' w'=>e'=Ex.normal.toExit∧∃ a2,a'=bkD ds a2∧Sim P C0 M0 w0 st' a2 w'∧Kps ops a a2) (bkD ds a) w:=by
 obtain ⟨_,s1,h1,k1⟩:=aD h;obtain ⟨e1,rfl⟩:=aF h1;obtain ⟨r,s2,h2,k2⟩:=aD k1;obtain ⟨_,s3,h3,k3⟩:=aD k2;obtain ⟨e3,rfl⟩:=aF h3;obtain ⟨rfl,rfl⟩:=aK k3;obtain ⟨hB,_⟩:=bO e1;obtain ⟨hA,_⟩:=bO e3;obtain ⟨os,hfts,hlex⟩:=pY ops.toList _ (fts:=r.1) (fin:=r.2) h2 g
 replace hB:=vS hB
 unfold Region.lexB at hB
 rw [kQ6] at hB
 have hlen:os.length=ops.toList.length:=by
  have:∀ {l:List Oper} {id:Nat} {st:St} {os:List tW} {fin:St},aIv P T E ops.toList id l st os fin→os.length=l.length:=by
   intro l
   induction l with
   | nil=>intro id st os fin h;cases h;rfl
   | cons o l ih=>intro id st os fin h;cases h with | cons _ _ _ _ q os _ h hr=>simp [ih hr]
  exact this hlex
 have key:nQ P T E ops.toList st.m.length (fun k=>os.getD k (.any,[],none)) r.2 ops.toList.length (Array.replicate ops.size false) st:=by
  refine nQ.lex ops.toList 0 _ st os (fun j=>by simp) (fun j q hj=>by simp [kQ4,hj]) (fun j hj=>absurd hj (aOa _)) (fun j oj hj hl => ?_) (fun i j _ hij hj => ?_) (by simpa using hB.2) (by simpa [ido] using hlex)
  ·exfalso
   rcases Nat.lt_or_ge j ops.size with h' | h'
   ·simp [h'] at hl
   ·simp [Nat.not_lt.2 h'] at hl
  have hj2:j<os.length:=by
   rw [hlen];obtain ⟨o,ho⟩:=Option.isSome_iff_exists.1 hj;exact (kQ3.1 ho).1
  have:=mI r.1 0 hA i j (zO os[i]) (zO os[j]) hij (by rw [hfts,iG,kQ0 (by omega)];rfl) (by rw [hfts,iG,kQ0 hj2];rfl)
  rw [gE,gE] at this
  simp only [kQ4,kQ0 hj2,kQ0 (show i<os.length by omega),Option.getD_some,Array.toArray_toList]
  exact this
 refine wpIn_region_any hm ?_;have:=nQ.sound hT hE (C0:=C0) (M0:=M0) (w0:=w0) (ro:=ro) (n:=n) (Q:=fun e' a' w'=>e'=Ex.normal.toExit∧Sim P C0 M0 w0 r.2 a' w') (fun a' w' h'=>⟨rfl,h'⟩) _ _ _ a _ key (hs.drawn (w.drawn+1))
 have h2:=aCk (a0:=a) _ _ _ _ (by simpa using this) (fun _ _=>rfl)
 exact aMb ds (fun e a' w' h=>⟨h.1.1,a',rfl,h.1.2,h.2 h.1.1⟩) (fun ⟨a',w',h⟩=>by cases h.1.1) _ _ _ _ h2

end
section
def aCi(P:Program)(k:Nat)(c:Code)(st:St)(e:Ex)(st':St):Prop:=∀ (C0:Cx) (M0:Mem) (w0:World) (a:Act) (w:World),M0.length≤k→Sim P C0 M0 w0 st a w→∀ (ds:List Deferred) (ro:Option Nat) (n:Nat),c.wpIn (Fen ro) n P (fun e' a' w'=>e'=e.toExit∧∃ a2,a'=bkD ds a2∧Sim P C0 M0 w0 st' a2 w'∧(∀ i,wrR c i=false→a2.tmps.getD i undef=a.tmps.getD i undef)) (bkD ds a) w
noncomputable def bNg(c:Code)(st:St):Ask (Ex × St):=match c with
 | .region _ ops true=>do
  let st' ← aIu Tp tT EO ops true st
  pure (.normal,st')
 | _=>fail
theorem aCi.fin{k:Nat}{c:Code}{st st':St}{e:Ex}{g:Gh}{o:List OI}{l:List Prop}(h:aKl k g (bNg c st (asg o))=some (e,st',l,[]))(gd:bB (out l)):aCi Tp k c st e st':=by
 unfold aKl at h
 split at h
 ·rename_i e1 st1 s hr
  split at h
  ·rename_i st2 hg
   simp only [Option.some.injEq,Prod.mk.injEq] at h
   obtain ⟨rfl,rfl,rfl,hs⟩:=h;unfold bNg at hr
   split at hr
   ·rename_i id ops
    obtain ⟨st3,s1,h1,k1⟩:=aD hr;obtain ⟨he,rfl⟩:=aK k1;cases he;intro C0 M0 w0 a w hk hsm ds ro n;refine wpIn_mono (bBm ds aEo aEn mixed h1 (fun p hp=>gd p hp) C0 M0 w0 a w hsm ro n) ?_
    rintro e' a' w' ⟨rfl,a2,rfl,h',hkp⟩;exact ⟨rfl,a2,rfl,eJ hk hg h',fun i hi=>hkp i fun o ho e=>by
     unfold wrR at hi
     have:=List.any_eq_false.1 hi o ho;rw [e] at this
     exact this (Nat.beq_refl i)⟩
   ·cases hr
  ·cases h
 ·cases h
end
section

theorem bUl{dl:Int}{sk dc:Lqq}{num r6:Int}{x:List Int}{y0 y1 n2:Int}{b3:Bool}{T4:Lqb}(h0:(aB sk)[(bE (fun x=>decide (r6=x)) (aJ (aB sk) 0)).toNat]? = some [y0,y1])(h1:0≤(bE (fun x=>decide (r6=x)) (aJ (aB sk) 0)))(h2:uni 2 (aB sk))(h3:aDd dl (aB sk) (aB dc) (aG x) [y0,y1] n2 b3 ([]:Lqb) T4):aCi Tp 0 (sub (cd Tryz.f58) [1,1,1,1,1,1,1,1,1,0,1,0,1,0,0]) ⟨fr 102 [(3,(.rp [(aA num)] 0)),(6,(.rp [(PV.rp (aH dl (aB sk) (aB dc)) 0)] 0)),(9,(.rp [(aA r6)] 0)),(10,(.rp [(aA (bE (fun x=>decide (r6=x)) (aJ (aB sk) 0)))] 0)),(11,(.p (aG x)))],[]⟩ .normal ⟨fr 102 [(3,(.rp [(aA num)] 0)),(6,(.rp [(PV.rp (aH dl (aB sk) (aB dc)) 0)] 0)),(9,(.rp [(aA r6)] 0)),(10,(.rp [(aA (bE (fun x=>decide (r6=x)) (aJ (aB sk) 0)))] 0)),(11,(.p (aG x))),(12,(pI n2)),(13,(pB b3))],[]⟩:=by
 exact aCi.fin (g:=⟨(rng [(0,3),(4,2),(7,2),(14,88)]),[],[],[]⟩) (o:=[.x (PV.rp (aH dl (aB sk) (aB dc)) 0),.x (PV.rp (aH dl (aB sk) (aB dc)) 0),.x (.sl ((aB sk).length) ((aB sk).flatten.map aA)),.x (aA (bE (fun x=>decide (r6=x)) (aJ (aB sk) 0))),.x (.agg [(aA y0),(aA y1)]),.x (PV.rp (aH dl (aB sk) (aB dc)) 0),.c fU (vU dl (aB sk) (aB dc) (aG x) ([]:Lqb)),.c (.tup [(pI n2),(pB b3)]) (vU dl (aB sk) (aB dc) (aG x) T4)]) (l:=[FC Tp 134 [(.rp (aH dl (aB sk) (aB dc)) 0),(.p (.agg [(aA y0),(aA y1)])),fU] [(4,(.box 207 [(.mp 3)])),(5,(vB5 dl (aB sk) (aB dc))),(0,(vB0 dl (aB sk) (aB dc))),(2,vB2),(6,vB6),(1,(.box 33 [(.p (aG x))])),(3,(.mp (aE ([]:Lqb)) 0))] 8 (.tup [(pI n2),(pB b3)]) (vU dl (aB sk) (aB dc) (aG x) T4),FC Tp 87 [(.rp (aH dl (aB sk) (aB dc)) 0),(.p (aG x))] [] 0 fU (vU dl (aB sk) (aB dc) (aG x) ([]:Lqb)),[(PV.rp (aH dl (aB sk) (aB dc)) 0)][0]? = some (PV.rp (aH dl (aB sk) (aB dc)) 0),_,_,0≤(bE (fun x=>decide (r6=x)) (aJ (aB sk) 0))∧(bE (fun x=>decide (r6=x)) (aJ (aB sk) 0))<(((aB sk).length:Nat):Int)∧((bE (fun x=>decide (r6=x)) (aJ (aB sk) 0)).toNat*2)<((aB sk).flatten.map aA).length,[(aA (bE (fun x=>decide (r6=x)) (aJ (aB sk) 0)))][0]? = some (aA (bE (fun x=>decide (r6=x)) (aJ (aB sk) 0))),(aH dl (aB sk) (aB dc))[1]? = some (.sl ((aB sk).length) ((aB sk).flatten.map aA)),[(PV.rp (aH dl (aB sk) (aB dc)) 0)][0]? = some (PV.rp (aH dl (aB sk) (aB dc)) 0),[(PV.rp (aH dl (aB sk) (aB dc)) 0)][0]? = some (PV.rp (aH dl (aB sk) (aB dc)) 0)]) (by kernel_rfl) (gc (FMM.fc (ids:=[0,1,2,3,4,5,6]) h3 (by kernel_rfl)) (gc (FMM.fcN (k:=7) rfl (ids:=[]) (pG (dl:=dl) (sk:=(aB sk)) (dc:=(aB dc)) (on:=x.length) (ol:=(x.map aA))) (by kernel_rfl)) (gc rfl (gc (aS (i:=(bE (fun x=>decide (r6=x)) (aJ (aB sk) 0)).toNat) h2 h0) (gc (bH (i:=(bE (fun x=>decide (r6=x)) (aJ (aB sk) 0)).toNat) h2 h0) (gc (bR (k:=2) (i:=(bE (fun x=>decide (r6=x)) (aJ (aB sk) 0))) (by decide) h2 h1 h0) (gc rfl (gc rfl (gc rfl (gc rfl gn))))))))))
end
end KV
end Go.Proofs
section
namespace Go.Proofs
open Go.RowKit
namespace KV
theorem bGu{P:Program}{C:Cx}{st:St}{a:Act}{w:World}(hS:eC C st.m w st.t a.tmps)(hM:aR P C st.m w)(hp:fO st.m=true)(hn:aMu st.m) :
  Sim P (cxF fun _=>False) [] { w with heap := #[] } st { a with defers:=[] } w :=
 ⟨C,hS,hM,⟨rfl,rfl,rfl,Nat.zero_le _,fun b hb=>absurd hb (aOa _),fun _ _ h=>by simp at h,fun _ _ h=>by simp at h,fun _ _ h=>by simp at h,fun _ _ b _ _ _ => .inl (Nat.zero_le _),fun _ h=>h.elim,fun b _ => .inr (.inl (Nat.zero_le _))⟩,.nil rfl hn⟩
theorem bBk{P:Program}{C:Cx}{M:Mem}{W W':World}(hM:aR P C M W)(hg:W.grownBy W' none):aR P C M W'∧Fr C M W C M W':=by
 have hsame:∀ b,b<W.heap.size→W'.heap[b]? = W.heap[b]? := fun b hb=>hg.block b hb (fun e=>by cases e)
 have hL:Le C C M M W W':=⟨fun _ o h=>⟨o,h⟩,fun _ _ _ _ _ cs h=>⟨cs,h⟩,fun _ o h o' h' hl=>by rw [h] at h';cases h';exact ⟨hl,rfl,rfl⟩,fun _ h=>h,fun b hb=>hsame b (hM.Fs b hb)⟩
 refine ⟨⟨fun i ty n cs hm => ?_,fun i ty cs hm => ?_,fun i es cl hm => ?_,hM.inj,hM.nF,fun b hb=>kQ8 (hM.Fs b hb) hg.size,fun i o b ho hl hb=>kQ8 (hM.lt i o b ho hl hb) hg.size⟩,
  ⟨hg.os,hg.tape,hg.output,hg.size,fun b hb _=>hsame b hb,fun i o h=>⟨⟨o,h⟩,rfl,rfl⟩,fun _ _ _ _ _ cs h=>⟨cs,h⟩,fun _ o h o' h' hl=>by rw [h] at h';cases h';exact hl,fun i o b ho hl hb => .inr ⟨i,o,ho,hl,hb⟩,fun _ h=>h,fun _ h => .inl h⟩⟩
 ·rcases hM.row _ _ _ _ hm with h4 | ⟨b,arr,inf,q0,q1,q2,q3,q4,q5,q6,q7,q8⟩
  ·exact .inl h4
  ·exact .inr ⟨b,arr,inf,q0,(hsame b (lF.1 q1).1).trans q1,q2,q3,q4,q5,q6,fun j hj=>(q7 j hj).mono hL.F hL.fz,q8⟩
 ·obtain ⟨b,arr,q0,q1,q2,q3,q4⟩:=hM.box _ _ _ hm
  exact ⟨b,arr,q0,(hsame b (lF.1 q1).1).trans q1,q2,fun j hj=>(q3 j hj).mono hL,q4⟩
 ·obtain ⟨b,arr,q0,q1,q2,q3⟩:=hM.mp _ _ _ hm
  refine ⟨b,arr,q0,(hsame b (lF.1 q1).1).trans q1,q2,fun j hj => ?_⟩
  obtain ⟨en,r1,r2,r3,r4⟩:=q3 j hj;exact ⟨en,r1,r2,r3,r4.mono hL.F hL.fz⟩
def bGv(t:List AV)(i:Nat):Bool:=match t[i]? with
 | some .any=>true
 | _=>false
theorem aTq{C:Cx}{M:Mem}{w:World}{v u:Value}(h:Rep C M w (.p (.v v)) u):u=v:=by
 cases h with
 | p _ _ h=>cases h;rfl
theorem bUk{P:Program}{k:Nat}{c:Code}{tA tB:List AV}{S:St}{g:Gh}{i1 i2:Nat}{v1 v2:Value}(hk:aCi P 0 c ⟨tA,[]⟩ .normal ⟨tB,[]⟩)(hg:gh 0 g S=some ⟨tA,[]⟩)(hn:fO S.m=true)
  (h1:tB[i1]? = some (.p (.v v1))) (h2:tB[i2]? = some (.p (.v v2))) (hne:i1≠i2) (hl:tB.length=S.t.length) (hall:((List.range S.t.length).all fun i => !wrR c i || Nat.beq i i1 || Nat.beq i i2 || bGv S.t i)=true) :
  aC P k c S .normal (cF S [(i1,.p (.v v1)),(i2,.p (.v v2))]):=by
 intro C0 M0 w0 a w hk0 hs ro _ n;obtain ⟨C,hS,hM,hF,hD⟩:=hs;obtain ⟨C1,hS1,hM1,_,_⟩:=eJ (dU 0) hg (bGu hS hM hn (dZ hn).2);have hs1:Sim P (C1.with []) [] w ⟨tA,[]⟩ { a with defers:=[] } w:=⟨C1,hS1,hM1,(Fr.refl _ _ _).based [],.nil rfl (dZ (m:=[]) rfl).2⟩
 have:=hk (C1.with []) [] w _ w (dU 0) hs1 a.defers ro n
 refine wpIn_mono this ?_;rintro e' a' w' ⟨rfl,a2,rfl,⟨C2,hS2,hM2,hF2,⟨l2,d1,d2,d3⟩,_⟩,hkp⟩;have hg2:w.grownBy w' none:=aLr hF2;obtain ⟨hM3,hF3⟩:=bBk hM hg2;have hS3:=hS.le (hM.le hF3);refine ⟨rfl,C,⟨?_,fun i hi => ?_⟩,hM3,hF.trans hF3,?_⟩
 ·have e0:=hS2.size
  show a2.tmps.size=((S.t.set i1 _).set i2 _).length;rw [tD,tD];exact e0.trans hl
 ·have hi':i<S.t.length:=by
   have:i<((S.t.set i1 (.p (.v v1))).set i2 (.p (.v v2))).length:=hi
   rwa [tD,tD] at this
  have key:∀ x,((S.t.set i1 (.p (.v v1))).set i2 (.p (.v v2)))[i]? = some x→Rep C S.m w' x (a2.tmps.getD i undef):=by
   intro x hx
   by_cases e2:i2=i
   ·subst e2
    rw [bHr (by rw [tD];exact hi')] at hx
    cases hx;rw [aTq (hS2.at h2)]
    exact .p _ _ (.v _)
   rw [bHs e2] at hx
   by_cases e1:i1=i
   ·subst e1
    rw [bHr hi'] at hx
    cases hx;rw [aTq (hS2.at h1)]
    exact .p _ _ (.v _)
   rw [bHs e1] at hx
   have hc:=gW.1 hall i (rV.2 hi');cases hw:wrR c i with
   | false =>
    rw [hkp i hw];exact hS3.at hx
   | true =>
    have n1:Nat.beq i i1=false:=by
     cases h:Nat.beq i i1 with
     | false=>rfl
     | true=>exact absurd (Nat.eq_of_beq_eq_true h).symm e1
    have n2:Nat.beq i i2=false:=by
     cases h:Nat.beq i i2 with
     | false=>rfl
     | true=>exact absurd (Nat.eq_of_beq_eq_true h).symm e2
    rw [hw,n1,n2] at hc
    have hc:bGv S.t i=true:=hc;unfold bGv at hc
    rw [hx] at hc
    cases x <;> first | exact .any _ | cases hc
  exact key _ (kQ0 hi)
 ·obtain ⟨⟨l,e1,e2,e3⟩,hR⟩:=hD.fr hM .refl hF3
  obtain ⟨⟨l',e1',_,e3'⟩,_⟩:=hD;have hll:l=l':=by
   have:=e1.symm.trans e1';exact (List.map_inj_right (fun x y h=>by simpa [mark] using h)).1 this
  refine ⟨⟨l2++l,?_,?_,?_⟩,hR⟩
  ·show a2.defers++a.defers=_
   rw [d1,e1,gI]
  ·refine List.nodup_append.2 ⟨d2,e2,fun x hx y hy hxy => ?_⟩
   have:=(d3 x hx).2.1;have:=(lF.1 (e3' y (hll ▸ hy)).1).1;subst hxy;omega
  ·intro D hD2
   rcases iH.1 hD2 with h | h
   ·exact ⟨(d3 D h).1,gJ hF.size (d3 D h).2.1,fun hf=>by
     have:=hM.Fs D hf;have:=(d3 D h).2.1;omega⟩
   ·exact e3 D h
end KV
end Go.Proofs
end
namespace Go.Proofs
namespace KV
section
variable {dl:Int}{sk dc:Lqq}
theorem bMq(l:List Int)(v:Int)(hl:l.length≤1000000){base:Nat}:FV Tp 126 [.p (aG l),.p (aA v)] base (pI (bE (fun x=>decide (v=x)) l)) []:=by
 rcases aI.find (P:=Tp) (k:=0) (b:=(sub (cd Tryz.f126) [1,0,1,0,0])) (fun i=>fZ l v i) (fun i _=>cF (fZ l v i) [(4,.p (aA (i:Int)))]) (fZ l v l.length) .ret (.exit 0) (by simp) (by simp) (fun x=>decide (v=x)) l
  (fun i x hx hp=>aFb (by have:=bC hx;omega) hx (by simpa using hp) (aO (by have:=bC hx;omega)) rfl)
  (fun i x hx hp=>aFa (by have:=bC hx;omega) hx (by simpa using hp))
  (aFc (l:=l) (i:=l.length) (by omega)) with ⟨i,x,h1,h2,h3,h4⟩ | ⟨h1,h2,h3⟩
 ·rw [jB h2];exact bDp h4
 ·rw [jC h1];exact bDo h3
theorem bMr(l:List Int)(v:Int)(hl:l.length≤1000000){base:Nat}:FV Tp 52 [.p (aG l),.p (aA v)] base (pB (l.contains v)) []:=by
 rw [← uW];exact FV.fin Tryz.func52 rfl (o:=[.c (pI (bE (fun x=>decide (v=x)) l)) []]) (l:=[_]) (by kernel_rfl) (gc (fk 0 (bMq l v hl) rfl) gn)
theorem bMs{l:List Int}(hl:l.length≤1000000)(n:Int):qT (aG l) n (l.contains n):=fun base=>bMr l n hl
def aDh(dl:Int)(sk dc:Lqq)(num r6:Int)(x:List Int):Bool := !(((fD dl sk dc r6 x).1 == (fD dl sk dc r6 (x++[num])).1) && ((fD dl sk dc r6 x).2 == (fD dl sk dc r6 (x++[num])).2))
theorem bVp(r t t':Int):jL [aA r,aA 0,aA t] [aA r,aA 0,aA t'] [(0,3,true),(1,3,true),(2,3,true)]=(t == t'):=by
 rw [Bool.eq_iff_iff];simp [jL,uI]
theorem aTp{r6 y0 y1:Int}(h:(aB sk)[(bE (fun x=>decide (r6=x)) (aJ (aB sk) 0)).toNat]? = some [y0,y1])(x:List Int):fD dl sk dc r6 x=eU dl x (aB dc) y0 y1:=by
 have e:(aB sk).getD (bE (fun x=>decide (r6=x)) (aJ (aB sk) 0)).toNat []=[y0,y1]:=by
  rw [kQ4,h];rfl
 unfold fD;rw [e];rfl
theorem bGs{dl:Int}{sk dc:Lqq}{num r6:Int}{x:List Int}(hd:cI (aB dc))(hu:uni 2 (aB sk))(hs:∀ s∈aB sk,-1≤s.getD 1 0∧s.getD 1 0≤360000)(hx:x.length≤1000){y0 y1:Int}(h0:(aB sk)[(bE (fun x=>decide (r6=x)) (aJ (aB sk) 0)).toNat]? = some [y0,y1])(h1:0≤(bE (fun x=>decide (r6=x)) (aJ (aB sk) 0))) :
  aC Tp 3 (sub (cd Tryz.f58) [1,1,1,1,1,1,1,1,1,0,1,0,1,0,0]) (gS dl sk dc num r6 x) .normal (cF (gS dl sk dc num r6 x) [(12,(pI ((fD dl sk dc r6 x).1))),(13,(pB ((fD dl sk dc r6 x).2)))]):=by
 obtain ⟨T',_,hT⟩:=aXh (sk:=aB sk) hd (fun n=>aBr hx n) y0 y1 (hs _ (kQ5 h0)) (T:=[]) cD.nil
 rw [aTp h0];exact bUk (bUl (num:=num) h0 h1 hu hT) (g:=⟨(rng [(0,3),(4,2),(7,2),(12,90)]),[],[2],[]⟩) (by kernel_rfl) rfl (by rfl) (by rfl) (by decide) (by rfl) (by kernel_rfl)
theorem bBi{dl:Int}{sk dc:Lqq}{num r6:Int}{x:List Int}(hd:cI (aB dc))(hu:uni 2 (aB sk))(hs:∀ s∈aB sk,-1≤s.getD 1 0∧s.getD 1 0≤360000)(hx:x.length≤1000){y0 y1:Int}(h0:(aB sk)[(bE (fun x=>decide (r6=x)) (aJ (aB sk) 0)).toNat]? = some [y0,y1])(h1:0≤(bE (fun x=>decide (r6=x)) (aJ (aB sk) 0))) :
  (aDh dl sk dc num r6 x=false→aC Tp 3 (sub (cd Tryz.f58) [1,1,1,1,1,1,1,1,1,0,1,0,1]) (rfO (mA dl sk dc num r6) 54 11 x) .normal (aRh dl sk dc num r6)) ∧
  (aDh dl sk dc num r6 x=true→aC Tp 3 (sub (cd Tryz.f58) [1,1,1,1,1,1,1,1,1,0,1,0,1]) (rfO (mA dl sk dc num r6) 54 11 x) .ret (aIm dl sk dc num r6)):=by
 have hn:=bGs (dl:=dl) (num:=num) hd hu hs hx h0 h1;obtain ⟨T',_,hT⟩:=aXh (dl:=dl) (sk:=aB sk) hd (fun n=>bMs (l:=x++[num]) (by rw [mD];show x.length+1≤_;omega) n) y0 y1 (hs _ (kQ5 h0)) (T:=[]) cD.nil
 rw [← aTp h0] at hT
 have hov:aG (x++[num]) = .sl (x.length+1) (x.map aA++[aA num]):=by
  show PV.sl (x++[num]).length ((x++[num]).map aA)=_;rw [mD,gI];rfl
 rw [hov] at hT
 have hq:=bVp r6 (fD dl sk dc r6 x).1 (fD dl sk dc r6 (x++[num])).1;unfold aDh;cases ha:((fD dl sk dc r6 x).1 == (fD dl sk dc r6 (x++[num])).1) with
 | false =>
  refine ⟨fun h=>(by cases h),fun _ => ?_⟩
  rw [ha] at hq
  exact bBo hn h0 h1 hu ⟨rfl,by omega⟩ hT ⟨rfl,rfl⟩ hq
 | true =>
  rw [ha] at hq
  cases hb:((fD dl sk dc r6 x).2 == (fD dl sk dc r6 (x++[num])).2) with
  | false =>
   refine ⟨fun h=>(by cases h),fun _ => ?_⟩
   exact bBp hn h0 h1 hu ⟨rfl,by omega⟩ hT ⟨rfl,rfl⟩ hq hb
  | true =>
   refine ⟨fun _ => ?_,fun h=>(by cases h)⟩
   exact bBq hn h0 h1 hu ⟨rfl,by omega⟩ hT ⟨rfl,rfl⟩ hq hb
theorem bBj{num r6:Int}(hd:cI (aB dc))(hu:uni 2 (aB sk))(hs:∀ s∈aB sk,-1≤s.getD 1 0∧s.getD 1 0≤360000){y0 y1:Int}(h0:(aB sk)[(bE (fun x=>decide (r6=x)) (aJ (aB sk) 0)).toNat]? = some [y0,y1])(h1:0≤(bE (fun x=>decide (r6=x)) (aJ (aB sk) 0)))(ho:((aP dl (aB dc)).filter fun n => !(n == num)).length≤60) :
  ((jE ((aP dl (aB dc)).filter fun n => !(n == num))).any (aDh dl sk dc num r6)=false→aC Tp 0 (sub (cd Tryz.f58) [1,1,1,1,1,1,1,1,1,0,1,0]) (tP dl sk dc num r6) .normal (mA dl sk dc num r6)) ∧
  ((jE ((aP dl (aB dc)).filter fun n => !(n == num))).any (aDh dl sk dc num r6)=true→aC Tp 0 (sub (cd Tryz.f58) [1,1,1,1,1,1,1,1,1,0,1,0]) (tP dl sk dc num r6) .ret (aCm dl sk dc num r6)):=by
 have main:=aFj (P:=Tp) (k:=0) (kb:=3) (kk:=2) (g0:=⟨[],[],[],[]⟩) (g1:=⟨[],[],[],[]⟩) (gR:=⟨[],[],[],[]⟩) (tP dl sk dc num r6) (fun _=>mA dl sk dc num r6) (fun _ _=>aRh dl sk dc num r6) (fun _ _=>aIm dl sk dc num r6) (mA dl sk dc num r6).t (aCm dl sk dc num r6).m (fun _=>aDh dl sk dc num r6)
  (cc := sub (cd Tryz.f58) [1, 1, 1, 1, 1, 1, 1, 1, 1, 0, 1, 0]) (gi := 53) (p1 := 54) (d := 11) (id := 14) (ty := 33) (pos := "outcome.go:200") (body := sub (cd Tryz.f58) [1, 1, 1, 1, 1, 1, 1, 1, 1, 0, 1, 0, 1]) (by kernel_rfl)
  rfl (fun _=>rfl) (g := .fn 182 [] [.rp [aG ((aP dl (aB dc)).filter fun n => !(n == num))] 0]) (by rfl) (aFh _ ho) (fun args w=>rfl) (fun _=>rfl) (fun _=>rfl) (fun _ _=>rfl) (fun _ _=>rfl) rfl rfl (fun _=>by show 2<3;omega) (by kernel_rfl) (fun x=>rfl) (by show 2≤2;omega) rfl (by kernel_rfl) (fun pre l=>by kernel_rfl) (fun _ _ _=>by kernel_rfl) (fun pre l _ hx=>bBi hd hu hs hx h0 h1)
 refine ⟨fun h=>main.1 fun pre l hp => ?_,fun h=>main.2 ?_⟩
 ·have:=List.any_eq_false.1 h l (hp.subset (by simp))
  simpa using this
 ·obtain ⟨l,hl,hb⟩:=List.any_eq_true.1 h
  obtain ⟨s,t,e⟩:=List.append_of_mem hl;exact ⟨s,l,⟨t,by rw [e];simp⟩,hb⟩
def bGt(dl:Int)(sk dc:Lqq)(num:Int):Bool × Int :=
 if (aP dl (aB dc)).contains num=false then (false,1) else if 8<(aP dl (aB dc)).length then (false,10) else
 if bE (fun x=>decide (aLp (aB dc) num=x)) (aJ (aB sk) 0)<0 then (false,0) else ((jE ((aP dl (aB dc)).filter fun n => !(n == num))).any (aDh dl sk dc num (aLp (aB dc) num)),0)
theorem bMt{α:Type}{p:α→Bool}{l:List α}(h:0≤bE p l):(bE p l).toNat<l.length:=by
 unfold bE at h ⊢
 cases e:l.findIdx? p with
 | none=>rw [e] at h;simp at h
 | some i =>
  obtain ⟨hi,_⟩:=List.findIdx?_eq_some_iff_getElem.1 e;simpa using hi
theorem bUj(h:cB dl sk dc)(num:Int){base:Nat}:FV Tp 58 [.p (.agg (cL dl sk dc)),.p (aA num)] base (.tup [.p (blP (bGt dl sk dc num).1),.p (aA (bGt dl sk dc num).2)]) []:=by
 have hd:=gM h;obtain ⟨hu,hl,hs,_⟩:=rS h;have hol:(aP dl (aB dc)).length≤1000:=by
  unfold aP;rw [kQ9];exact gJ (wD _ _) hd.len
 unfold bGt;cases hc:(aP dl (aB dc)).contains num with
 | false=>exact bUm h hd hol hc
 | true =>
  rw [if_neg (by simp)]
  by_cases h8:8<(aP dl (aB dc)).length
  ·rw [if_pos h8];exact bUn h hd hol hc (by omega)
  ·rw [if_neg h8]
   have hm:num∈aP dl (aB dc):=by simpa using hc
   have hm2:=hm;unfold aP at hm2
   obtain ⟨x,hx,rfl⟩:=eK.1 hm2;have hx:=(aGx.1 hx).1;have hr:=fP hd hx;have hsb:aLp (aB dc) (dN x)=vJ (aB dc) x:=by unfold aLp;rw [aTk hd hx]
   obtain ⟨q1,q2⟩:=aQq hd hx;have hk:=vH hd (n:=dN x) (by unfold inR;omega)
   have hab:=lN hd x hx;rw [hsb];obtain ⟨a,b,c,d,e,f,rfl⟩:=len6 (hd.ud x hx);have hf:inR f:=by
    have:=(jR.1 (hd.rng _ hx));unfold inR;simp [dAb] at this hab ⊢;omega
   have hsbj:bFu dl (aB sk) (aB dc) [a,b,c,d,e,f] (vJ (aB dc) [a,b,c,d,e,f]):=fun base=>bGe hd hf (.inl hx) hr.2
   have hcl:(aJ (aB sk) 0).length≤1000:=by rw [uV];omega
   by_cases h0:bE (fun x=>decide (vJ (aB dc) [a,b,c,d,e,f]=x)) (aJ (aB sk) 0)<0
   ·rw [if_pos h0]
    exact bUo h hd hol hc (by omega) hk q1 q2 hsbj ⟨hu,by omega⟩ hcl h0
   ·rw [if_neg h0]
    have hi:=bMt (p:=fun x=>decide (vJ (aB dc) [a,b,c,d,e,f]=x)) (l:=aJ (aB sk) 0) (by omega)
    rw [uV] at hi
    obtain ⟨y0,y1,hy⟩:=at2 hu hi;have hrg:=bBj (dl:=dl) (num:=dN [a,b,c,d,e,f]) hd hu hs hy (by omega) (gJ (wD _ _) (by omega))
    cases hb:(jE ((aP dl (aB dc)).filter fun n => !(n == dN [a,b,c,d,e,f]))).any (aDh dl sk dc (dN [a,b,c,d,e,f]) (vJ (aB dc) [a,b,c,d,e,f])) with
    | false=>exact bUp h hd hol hc (by omega) hk q1 q2 hsbj ⟨hu,by omega⟩ hcl (by omega) (hrg.1 hb)
    | true=>exact bUq h hd hol hc (by omega) hk q1 q2 hsbj ⟨hu,by omega⟩ hcl (by omega) (hrg.2 hb)
end
section

theorem aRd:((0:Int) == (0:Int))=true:=by first | decide | simp
theorem aRe:((0:Int) != (0:Int))=false:=by first | decide | simp
theorem aIj:((3:Int) != (3:Int))=false:=by first | decide | simp
theorem bUh:((15100:Int) == (15100:Int))=true:=by first | decide | simp
abbrev thD:List PV:=[(aA 1),(aA 0),(aA 0),(aA 1),(aA 300),(aA 0),(aA 2),(aA 7),(aA 10),(aA 0),(aA 0),(aA 1),(aA 3),(aA 9),(aA 40),(aA 0),(aA 0),(aA 2),(aA 4),(aA 5),(aA 50),(aA 0),(aA 0),(aA 3),(aA 5),(aA 6),(aA 60),(aA 0),(aA 100),(aA 1)]
abbrev thS:List PV:=[(aA 1),(aA 15000),(aA 2),(aA 15100),(aA 3),(aA 15200)]
abbrev mF:AV:=(.p (.agg [(aA 30),(.sl 3 thS),(.sl 2 [(aA 1),(aA 0),(aA 0),(aA 1),(aA 300),(aA 0),(aA 2),(aA 7),(aA 10),(aA 0),(aA 0),(aA 1)])]))
abbrev bGp:AV:=(.p (.agg [(aA 30),(.sl 3 thS),(.sl 3 [(aA 1),(aA 0),(aA 0),(aA 1),(aA 300),(aA 0),(aA 2),(aA 7),(aA 10),(aA 0),(aA 0),(aA 1),(aA 3),(aA 9),(aA 40),(aA 0),(aA 0),(aA 2)])]))
abbrev bGq:AV:=(.p (.agg [(aA 30),(.sl 3 thS),(.sl 4 [(aA 1),(aA 0),(aA 0),(aA 1),(aA 300),(aA 0),(aA 2),(aA 7),(aA 10),(aA 0),(aA 0),(aA 1),(aA 3),(aA 9),(aA 40),(aA 0),(aA 0),(aA 2),(aA 4),(aA 5),(aA 50),(aA 0),(aA 0),(aA 3)])]))
abbrev bGr:AV:=(.p (.agg [(aA 30),(.sl 3 thS),(.sl 5 [(aA 1),(aA 0),(aA 0),(aA 1),(aA 300),(aA 0),(aA 2),(aA 7),(aA 10),(aA 0),(aA 0),(aA 1),(aA 3),(aA 9),(aA 40),(aA 0),(aA 0),(aA 2),(aA 4),(aA 5),(aA 50),(aA 0),(aA 0),(aA 3),(aA 5),(aA 6),(aA 60),(aA 0),(aA 100),(aA 1)])]))
theorem bMj{r0c:List PV}(h0:0≤(0:Int)∧(0:Int)≤2∧(2:Int)≤5)(er0c:r0c=((thD.drop 0).take (2*(thD.length / 5)))){base:Nat}:FV Tp 88 [(pI 2)] base (.p (.agg [(aA 30),(.sl 3 [(aA 1),(aA 15000),(aA 2),(aA 15100),(aA 3),(aA 15200)]),(.sl 2 r0c)])) []:=by
 subst er0c;exact FV.frz (FMM.fin (k:=0) (g:=⟨[],[],[2,1],[]⟩) rfl Tryz.func88 rfl (o:=[.c (.p (dcE 1 0 0 1 300 0)) [],.c (.p (dcE 2 7 10 0 0 1)) [],.c (.p (dcE 3 9 40 0 0 2)) [],.c (.p (dcE 4 5 50 0 0 3)) [],.c (.p (dcE 5 6 60 0 100 1)) []]) (l:=[_,FC Tp 49 [(pI 5),(pI 6),(pI 1),(pI 60),(pI 100)] [] 1 (.p (dcE 5 6 60 0 100 1)) [],FC Tp 49 [(pI 4),(pI 5),(pI 3),(pI 50),(pI 0)] [] 1 (.p (dcE 4 5 50 0 0 3)) [],FC Tp 49 [(pI 3),(pI 9),(pI 2),(pI 40),(pI 0)] [] 1 (.p (dcE 3 9 40 0 0 2)) [],FC Tp 49 [(pI 2),(pI 7),(pI 1),(pI 10),(pI 0)] [] 1 (.p (dcE 2 7 10 0 0 1)) [],FC Tp 23 [(pI 1),(pI 1),(pI 300)] [] 1 (.p (dcE 1 0 0 1 300 0)) []]) (by kernel_rfl) (gc h0 (gc (FV.fc (iB (a:=(5:Int)) (b:=(6:Int)) (c:=(1:Int)) (d:=(60:Int)) (e:=(100:Int))) rfl) (gc (FV.fc (iB (a:=(4:Int)) (b:=(5:Int)) (c:=(3:Int)) (d:=(50:Int)) (e:=(0:Int))) rfl) (gc (FV.fc (iB (a:=(3:Int)) (b:=(9:Int)) (c:=(2:Int)) (d:=(40:Int)) (e:=(0:Int))) rfl) (gc (FV.fc (iB (a:=(2:Int)) (b:=(7:Int)) (c:=(1:Int)) (d:=(10:Int)) (e:=(0:Int))) rfl) (gc (FV.fc (aHu (a:=(1:Int)) (b:=(1:Int)) (c:=(300:Int))) rfl) gn))))))) (by kernel_rfl)
theorem bMk{r0c:List PV}(h0:0≤(0:Int)∧(0:Int)≤3∧(3:Int)≤5)(er0c:r0c=((thD.drop 0).take (3*(thD.length / 5)))){base:Nat}:FV Tp 88 [(pI 3)] base (.p (.agg [(aA 30),(.sl 3 [(aA 1),(aA 15000),(aA 2),(aA 15100),(aA 3),(aA 15200)]),(.sl 3 r0c)])) []:=by
 subst er0c;exact FV.frz (FMM.fin (k:=0) (g:=⟨[],[],[2,1],[]⟩) rfl Tryz.func88 rfl (o:=[.c (.p (dcE 1 0 0 1 300 0)) [],.c (.p (dcE 2 7 10 0 0 1)) [],.c (.p (dcE 3 9 40 0 0 2)) [],.c (.p (dcE 4 5 50 0 0 3)) [],.c (.p (dcE 5 6 60 0 100 1)) []]) (l:=[_,FC Tp 49 [(pI 5),(pI 6),(pI 1),(pI 60),(pI 100)] [] 1 (.p (dcE 5 6 60 0 100 1)) [],FC Tp 49 [(pI 4),(pI 5),(pI 3),(pI 50),(pI 0)] [] 1 (.p (dcE 4 5 50 0 0 3)) [],FC Tp 49 [(pI 3),(pI 9),(pI 2),(pI 40),(pI 0)] [] 1 (.p (dcE 3 9 40 0 0 2)) [],FC Tp 49 [(pI 2),(pI 7),(pI 1),(pI 10),(pI 0)] [] 1 (.p (dcE 2 7 10 0 0 1)) [],FC Tp 23 [(pI 1),(pI 1),(pI 300)] [] 1 (.p (dcE 1 0 0 1 300 0)) []]) (by kernel_rfl) (gc h0 (gc (FV.fc (iB (a:=(5:Int)) (b:=(6:Int)) (c:=(1:Int)) (d:=(60:Int)) (e:=(100:Int))) rfl) (gc (FV.fc (iB (a:=(4:Int)) (b:=(5:Int)) (c:=(3:Int)) (d:=(50:Int)) (e:=(0:Int))) rfl) (gc (FV.fc (iB (a:=(3:Int)) (b:=(9:Int)) (c:=(2:Int)) (d:=(40:Int)) (e:=(0:Int))) rfl) (gc (FV.fc (iB (a:=(2:Int)) (b:=(7:Int)) (c:=(1:Int)) (d:=(10:Int)) (e:=(0:Int))) rfl) (gc (FV.fc (aHu (a:=(1:Int)) (b:=(1:Int)) (c:=(300:Int))) rfl) gn))))))) (by kernel_rfl)
theorem bMl{r0c:List PV}(h0:0≤(0:Int)∧(0:Int)≤4∧(4:Int)≤5)(er0c:r0c=((thD.drop 0).take (4*(thD.length / 5)))){base:Nat}:FV Tp 88 [(pI 4)] base (.p (.agg [(aA 30),(.sl 3 [(aA 1),(aA 15000),(aA 2),(aA 15100),(aA 3),(aA 15200)]),(.sl 4 r0c)])) []:=by
 subst er0c;exact FV.frz (FMM.fin (k:=0) (g:=⟨[],[],[2,1],[]⟩) rfl Tryz.func88 rfl (o:=[.c (.p (dcE 1 0 0 1 300 0)) [],.c (.p (dcE 2 7 10 0 0 1)) [],.c (.p (dcE 3 9 40 0 0 2)) [],.c (.p (dcE 4 5 50 0 0 3)) [],.c (.p (dcE 5 6 60 0 100 1)) []]) (l:=[_,FC Tp 49 [(pI 5),(pI 6),(pI 1),(pI 60),(pI 100)] [] 1 (.p (dcE 5 6 60 0 100 1)) [],FC Tp 49 [(pI 4),(pI 5),(pI 3),(pI 50),(pI 0)] [] 1 (.p (dcE 4 5 50 0 0 3)) [],FC Tp 49 [(pI 3),(pI 9),(pI 2),(pI 40),(pI 0)] [] 1 (.p (dcE 3 9 40 0 0 2)) [],FC Tp 49 [(pI 2),(pI 7),(pI 1),(pI 10),(pI 0)] [] 1 (.p (dcE 2 7 10 0 0 1)) [],FC Tp 23 [(pI 1),(pI 1),(pI 300)] [] 1 (.p (dcE 1 0 0 1 300 0)) []]) (by kernel_rfl) (gc h0 (gc (FV.fc (iB (a:=(5:Int)) (b:=(6:Int)) (c:=(1:Int)) (d:=(60:Int)) (e:=(100:Int))) rfl) (gc (FV.fc (iB (a:=(4:Int)) (b:=(5:Int)) (c:=(3:Int)) (d:=(50:Int)) (e:=(0:Int))) rfl) (gc (FV.fc (iB (a:=(3:Int)) (b:=(9:Int)) (c:=(2:Int)) (d:=(40:Int)) (e:=(0:Int))) rfl) (gc (FV.fc (iB (a:=(2:Int)) (b:=(7:Int)) (c:=(1:Int)) (d:=(10:Int)) (e:=(0:Int))) rfl) (gc (FV.fc (aHu (a:=(1:Int)) (b:=(1:Int)) (c:=(300:Int))) rfl) gn))))))) (by kernel_rfl)
theorem bMm{r0c:List PV}(h0:0≤(0:Int)∧(0:Int)≤5∧(5:Int)≤5)(er0c:r0c=((thD.drop 0).take (5*(thD.length / 5)))){base:Nat}:FV Tp 88 [(pI 5)] base (.p (.agg [(aA 30),(.sl 3 [(aA 1),(aA 15000),(aA 2),(aA 15100),(aA 3),(aA 15200)]),(.sl 5 r0c)])) []:=by
 subst er0c;exact FV.frz (FMM.fin (k:=0) (g:=⟨[],[],[2,1],[]⟩) rfl Tryz.func88 rfl (o:=[.c (.p (dcE 1 0 0 1 300 0)) [],.c (.p (dcE 2 7 10 0 0 1)) [],.c (.p (dcE 3 9 40 0 0 2)) [],.c (.p (dcE 4 5 50 0 0 3)) [],.c (.p (dcE 5 6 60 0 100 1)) []]) (l:=[_,FC Tp 49 [(pI 5),(pI 6),(pI 1),(pI 60),(pI 100)] [] 1 (.p (dcE 5 6 60 0 100 1)) [],FC Tp 49 [(pI 4),(pI 5),(pI 3),(pI 50),(pI 0)] [] 1 (.p (dcE 4 5 50 0 0 3)) [],FC Tp 49 [(pI 3),(pI 9),(pI 2),(pI 40),(pI 0)] [] 1 (.p (dcE 3 9 40 0 0 2)) [],FC Tp 49 [(pI 2),(pI 7),(pI 1),(pI 10),(pI 0)] [] 1 (.p (dcE 2 7 10 0 0 1)) [],FC Tp 23 [(pI 1),(pI 1),(pI 300)] [] 1 (.p (dcE 1 0 0 1 300 0)) []]) (by kernel_rfl) (gc h0 (gc (FV.fc (iB (a:=(5:Int)) (b:=(6:Int)) (c:=(1:Int)) (d:=(60:Int)) (e:=(100:Int))) rfl) (gc (FV.fc (iB (a:=(4:Int)) (b:=(5:Int)) (c:=(3:Int)) (d:=(50:Int)) (e:=(0:Int))) rfl) (gc (FV.fc (iB (a:=(3:Int)) (b:=(9:Int)) (c:=(2:Int)) (d:=(40:Int)) (e:=(0:Int))) rfl) (gc (FV.fc (iB (a:=(2:Int)) (b:=(7:Int)) (c:=(1:Int)) (d:=(10:Int)) (e:=(0:Int))) rfl) (gc (FV.fc (aHu (a:=(1:Int)) (b:=(1:Int)) (c:=(300:Int))) rfl) gn))))))) (by kernel_rfl)
theorem vO{base:Nat}:FV Tp 88 [.p (aA 2)] base mF []:=bMj (by decide) rfl
theorem bMn{base:Nat}:FV Tp 88 [.p (aA 3)] base bGp []:=bMk (by decide) rfl
theorem bMo{base:Nat}:FV Tp 88 [.p (aA 4)] base bGq []:=bMl (by decide) rfl
theorem bMp{base:Nat}:FV Tp 88 [.p (aA 5)] base bGr []:=bMm (by decide) rfl
theorem bUi(h28_0:∀ base:Nat,FV Tp 28 [mF] base (.tup [(.own base),(pI 0)]) [(base,(.row 48 3 [(aA 2),(aA 1),(aA 15100),(aA 3),(aA 2),(aA 15200),(aA 1),(aA 3),(aA 15300)]))])(h21_1:∀ base:Nat,FV Tp 21 [mF,(.p (.sl 1 [(aA 2)]))] base (.tup [(.own base),(pI 0)]) [(base,(.row 48 3 [(aA 1),(aA 1),(aA 15000),(aA 2),(aA 2),(aA 15100),(aA 3),(aA 3),(aA 15200)]))])(h71_2:∀ base:Nat,FV Tp 71 [mF,(pI 1)] base (.tup [(.p (.sl 2 [(aA 1),(aA 3)])),(pB false),(pI 0)]) [])(h33_3:∀ base:Nat,FV Tp 33 [mF,(pI 2)] base (.tup [(.p (.sl 1 [(aA 2)])),(pI 0)]) [])(h51_4:∀ base:Nat,FV Tp 51 [(.p (.sl 3 [(aA 2),(aA 1),(aA 15100),(aA 3),(aA 2),(aA 15200),(aA 1),(aA 3),(aA 15300)])),(.p (.sl 3 [(aA 2),(aA 1),(aA 15100),(aA 3),(aA 2),(aA 15200),(aA 1),(aA 3),(aA 15300)]))] base (pB true) [])(h5:cY [(aA 1),(aA 1),(aA 15000)] [(0,3,true),(1,3,true),(2,3,true)]=true∧cY [(aA 1),(aA 1),(aA 15000)] [(0,3,true),(1,3,true),(2,3,true)]=true)(h6:(jL [(aA 1),(aA 1),(aA 15000)] [(aA 1),(aA 1),(aA 15000)] [(0,3,true),(1,3,true),(2,3,true)])=true)(h41_7:∀ base:Nat,FV Tp 41 [(.p (.sl 2 [(aA 1),(aA 3)])),(.p (.sl 2 [(aA 1),(aA 3)]))] base (pB true) [])(h41_8:∀ base:Nat,FV Tp 41 [(.p (.sl 1 [(aA 2)])),(.p (.sl 1 [(aA 2)]))] base (pB true) [])(h19_9:∀ base:Nat,FV Tp 19 [bGp] base (.tup [(.p (.sl 0 [])),(pI 0)]) [])(h19_10:∀ base:Nat,FV Tp 19 [bGq] base (.tup [(.p (.sl 1 [(aA 2)])),(pI 0)]) [])(h61_11:∀ base:Nat,FV Tp 61 [bGr,(pI 1)] base (.tup [(pI 15100),(pB false),(pI 0)]) [])(h58_12:∀ base:Nat,FV Tp 58 [mF,(pI 2)] base (.tup [(pB true),(pI 0)]) []){base:Nat}:FV Tp 26 [] base (pB true) []:=by
 exact FV.fin Tryz.func26 rfl (o:=[.c mF [],.c (.tup [(.own 0),(pI 0)]) [(0,(.row 48 3 [(aA 2),(aA 1),(aA 15100),(aA 3),(aA 2),(aA 15200),(aA 1),(aA 3),(aA 15300)]))],.c mF [],.c (.tup [(.own 2),(pI 0)]) [(1,.dead),(2,(.row 48 3 [(aA 1),(aA 1),(aA 15000),(aA 2),(aA 2),(aA 15100),(aA 3),(aA 3),(aA 15200)]))],.c mF [],.c (.tup [(.p (.sl 2 [(aA 1),(aA 3)])),(pB false),(pI 0)]) [],.c mF [],.c (.tup [(.p (.sl 1 [(aA 2)])),(pI 0)]) [],bF,bF,bF,bF,bF,bF,bF,bF,bF,bF,bF,bF,bF,bF,bF,.c (pB true) [],bF,bF,bF,bF,bF,bF,bF,bF,bF,.x (.agg [(aA 1),(aA 1),(aA 15000)]),bF,bF,bF,bF,bF,bF,.c (pB true) [],bF,bF,bF,bF,bF,.c (pB true) [],bF,bF,bF,.c bGp [],.c (.tup [(.p (.sl 0 [])),(pI 0)]) [],.c bGq [],.c (.tup [(.p (.sl 1 [(aA 2)])),(pI 0)]) [],.c bGr [],.c (.tup [(pI 15100),(pB false),(pI 0)]) [],.c mF [],.c (.tup [(pB true),(pI 0)]) [],bT,bT,bT,bT,bT,bT,bT,bT,bT,bT,bT,bT,bT,bT,bT,bT,.c (pB true) [],bT,bT,bT,bT,bT,bT]) (l:=[_,_,true=true,true=true,true=true,_,FC Tp 41 [(.p (.sl 1 [(aA 2)])),(.own 6)] [(6,(.row 3 1 [(aA 2)]))] 7 (pB true) [],_,_,_,_,_,_,_,_,_,_,_,_,_,_,_,_,FC Tp 58 [mF,(pI 2)] [] 6 (.tup [(pB true),(pI 0)]) [],FC Tp 88 [(pI 2)] [] 6 mF [],FC Tp 61 [bGr,(pI 1)] [] 6 (.tup [(pI 15100),(pB false),(pI 0)]) [],FC Tp 88 [(pI 5)] [] 6 bGr [],FC Tp 19 [bGq] [] 6 (.tup [(.p (.sl 1 [(aA 2)])),(pI 0)]) [],FC Tp 88 [(pI 4)] [] 6 bGq [],FC Tp 19 [bGp] [] 6 (.tup [(.p (.sl 0 [])),(pI 0)]) [],FC Tp 88 [(pI 3)] [] 6 bGp [],false=false,false=false,false=false,FC Tp 41 [(.p (.sl 1 [(aA 2)])),(.own 5)] [(5,(.row 3 1 [(aA 2)]))] 6 (pB true) [],false=false,false=false,false=false,_,_,FC Tp 41 [(.p (.sl 2 [(aA 1),(aA 3)])),(.own 4)] [(4,(.row 3 2 [(aA 1),(aA 3)]))] 5 (pB true) [],_,_,_,_,_,_,_,some (.agg (([(aA 1),(aA 1),(aA 15000),(aA 2),(aA 2),(aA 15100),(aA 3),(aA 3),(aA 15200)].drop 0).take 3):PV)=some (.agg [(aA 1),(aA 1),(aA 15000)]),0+3≤[(aA 1),(aA 1),(aA 15000),(aA 2),(aA 2),(aA 15100),(aA 3),(aA 3),(aA 15200)].length,_,0≤(0:Int)∧(0:Int)<3,_,_,false=false,false=false,false=false,false=false,_,_,FC Tp 51 [(.own 0),(.own 3)] [(0,(.row 48 3 [(aA 2),(aA 1),(aA 15100),(aA 3),(aA 2),(aA 15200),(aA 1),(aA 3),(aA 15300)])),(3,(.row 48 3 [(aA 2),(aA 1),(aA 15100),(aA 3),(aA 2),(aA 15200),(aA 1),(aA 3),(aA 15300)]))] 4 (pB true) [],_,_,_,_,_,_,_,_,_,_,_,_,_,_,_,FC Tp 33 [mF,(pI 2)] [] 3 (.tup [(.p (.sl 1 [(aA 2)])),(pI 0)]) [],FC Tp 88 [(pI 2)] [] 3 mF [],FC Tp 71 [mF,(pI 1)] [] 3 (.tup [(.p (.sl 2 [(aA 1),(aA 3)])),(pB false),(pI 0)]) [],FC Tp 88 [(pI 2)] [] 3 mF [],FC Tp 21 [mF,(.own 1)] [(1,(.row 3 1 [(aA 2)]))] 2 (.tup [(.own 2),(pI 0)]) [(1,.dead),(2,(.row 48 3 [(aA 1),(aA 1),(aA 15000),(aA 2),(aA 2),(aA 15100),(aA 3),(aA 3),(aA 15200)]))],FC Tp 88 [(pI 2)] [] 1 mF [],FC Tp 28 [mF] [] 0 (.tup [(.own 0),(pI 0)]) [(0,(.row 48 3 [(aA 2),(aA 1),(aA 15100),(aA 3),(aA 2),(aA 15200),(aA 1),(aA 3),(aA 15300)]))],FC Tp 88 [(pI 2)] [] 0 mF []]) (by kernel_rfl) (g2c bUh (gc rfl (gc rfl (gc rfl (gc aRd (gc (fv (h41_8 _)) (g8c aRd (g8c aRd (gc (FV.fc (h58_12 _) rfl) (gc (FV.fc vO (by kernel_rfl)) (gc (FV.fc (h61_11 _) rfl) (gc (FV.fc bMp (by kernel_rfl)) (gc (FV.fc (h19_10 _) rfl) (gc (FV.fc bMo (by kernel_rfl)) (gc (FV.fc (h19_9 _) rfl) (gc (FV.fc bMn (by kernel_rfl)) (gc rfl (gc rfl (gc rfl (gc (fv (h41_8 _)) (gc rfl (gc rfl (gc rfl (g2c (aV h6) (gc (fv (h41_7 _)) (g3c (aV h6) (gc aIj (gc h5 (g2c aIj (gc rfl (gc (by first | decide | simp) (gc aIj (gc (by first | decide | simp) (g2c aIj (gc rfl (gc rfl (gc rfl (gc rfl (g2c aRe (gc (fv (h51_4 _)) (g8c aRe (g7c aRe (gc (FV.fc (h33_3 _) rfl) (gc (FV.fc vO (by kernel_rfl)) (gc (FV.fc (h71_2 _) rfl) (gc (FV.fc vO (by kernel_rfl)) (gc (FV.close (ids:=[1]) (args':=[mF,(.p (.sl 1 [(aA 2)]))]) (h21_1 _) (by kernel_rfl)) (gc (FV.fc vO (by kernel_rfl)) (gc (FV.fc (h28_0 _) rfl) (gc (FV.fc vO (by kernel_rfl)) gn))))))))))))))))))))))))))))))))))))))))))))))))))
end
section
abbrev sB(s:List Int):Int:=s.getD 0 0
abbrev sT(s:List Int):Int:=s.getD 1 0
def iL(dl:Int)(oc:List Int)(dc sk:Lqq):Lqq:=(sk.filter fun s => !(eU dl oc dc (sB s) (sT s)).2).map fun s=>[sB s,0,(eU dl oc dc (sB s) (sT s)).1]
def gT(dl:Int)(oc:List Int)(dc sk:Lqq):Lqq:=(sk.filter fun s=>(eU dl oc dc (sB s) (sT s)).2).map fun s=>[sB s,-1,0]
def plN(A:Lqq)(t:Int):Int:=match A.getLast? with
 | some y=>if y.getD 2 0=t then y.getD 1 0 else (A.length:Int)+1
 | none=>(A.length:Int)+1
def plS(A:Lqq)(x:List Int):Lqq:=A++[[x.getD 0 0,plN A (x.getD 2 0),x.getD 2 0]]
def iW(l:Lqq):Lqq:=l.foldl plS []
def bN(dl:Int)(oc:List Int)(dc sk:Lqq):Lqq:=iW (isort (ltK 2) (iL dl oc dc sk))++gT dl oc dc sk

theorem bMv(A D:List PV)(a b c v:PV):(A++[a,b,c]++D).set (A.length+1) v=A++[a,v,c]++D:=by
 induction A with
 | nil=>rfl
 | cons x A ih=>simp
theorem zE{L:Lqq}{j:Nat}{a b c:Int}(hu:uni 3 L)(hj:L[j]? = some [a,b,c])(v:Int):(L.flatten.map aA).set (j*3+1) (aA v)=((L.set j [a,v,c]).flatten.map aA):=by
 obtain ⟨hlt,he⟩:=kQ3.1 hj;have h0:=uT (k:=3) (i:=j) (x:=[a,b,c]) hu hlt rfl;have h1:=uT (k:=3) (i:=j) (x:=[a,v,c]) hu hlt rfl;have hs:L.set j [a,b,c]=L:=by rw [← he];exact List.set_getElem_self hlt
 rw [hs] at h0
 rw [← h1];have hl:((L.flatten.map aA).take (j*3)).length=j*3:=by
  have:=bH hu hj;rw [mX];omega
 have:=bMv ((L.flatten.map aA).take (j*3)) ((L.flatten.map aA).drop (j*3+3)) (aA a) (aA b) (aA c) (aA v);rw [hl] at this
 conv=>lhs;rw [← h0]
 exact this
theorem bMw(A:Lqq)(x:List Int):(plS A x).length=A.length+1:=by simp [plS]
theorem aTr(l:Lqq):∀ A:Lqq,(l.foldl plS A).length=A.length+l.length:=by
 induction l with
 | nil=>intro A;simp
 | cons x l ih=>intro A;rw [wF,ih,bMw];simp;omega
theorem aIn(l:Lqq):∀ A:Lqq,uni 3 A→uni 3 (l.foldl plS A):=by
 induction l with
 | nil=>intro A h;exact h
 | cons x l ih =>
  intro A h;rw [wF];refine ih _ fun y hy => ?_
  unfold plS at hy
  rcases iH.1 hy with hy | hy
  ·exact h y hy
  ·rw [List.mem_singleton.1 hy];rfl
section
variable {dl:Int} {sk dc:Lqq} {oc:List Int} {ov:PV}
theorem aRi(l:Lqq)(hu:uni 3 l)(hl:l.length<1000)(p q:Lqq)(hp:(isort (ltK 2) p).length=l.length)(t:Lqb) :
  aI Tp 7 (sub (cd Tryz.f86) [1,1,1,1,0,1,0,0]) (eT dl sk dc ov p q t l.length (l.flatten.map aA) 0) (.exit 2) (eT dl sk dc ov p q t (iW l).length ((iW l).flatten.map aA) l.length):=by
 let St (j:Nat):Lqq:=(l.take j).foldl plS []++l.drop j
 have hlen:∀ j,j≤l.length→((l.take j).foldl plS []).length=j:=fun j hj=>by rw [aTr];simp;omega
 have hlS:∀ j,j≤l.length→(St j).length=l.length:=fun j hj=>by
  show (_++_:Lqq).length=_;rw [mD,hlen j hj,bHu];omega
 have huS:∀ j,uni 3 (St j):=fun j y hy=>by
  rcases iH.1 hy with hy | hy
  ·exact aIn _ [] (fun z hz=>by cases hz) y hy
  ·exact hu y (List.mem_of_mem_drop hy)
 have:=aI.count (P:=Tp) (k:=7) (b:=sub (cd Tryz.f86) [1,1,1,1,0,1,0,0]) (e := .exit 2) (R:=eT dl sk dc ov p q t (iW l).length ((iW l).flatten.map aA) l.length) l.length
  (fun j=>eT dl sk dc ov p q t (St j).length ((St j).flatten.map aA) j)
  (fun j hj=>by
   have hx:=hu _ (eY hj);obtain ⟨a,b,c,hx⟩:=len3 hx;have hA:=hlen j (by omega)
   have e1:(l.take (j+1)).foldl plS []=plS ((l.take j).foldl plS []) [a,b,c]:=by
    rw [List.take_add_one,kQ0 hj,hx];rw [aGw];rfl
   have hdr:l.drop j=[a,b,c]::l.drop (j+1):=by rw [bDd hj,hx]
   have g1:(St j)[j]? = some [a,b,c]:=by
    show ((l.take j).foldl plS []++l.drop j)[j]? = _;rw [aAx (by omega),hA,aVp,hdr];rfl
   have hset:∀ v,(St j).set j [a,v,c]=(l.take j).foldl plS []++[a,v,c]::l.drop (j+1):=fun v=>by
    show ((l.take j).foldl plS []++l.drop j).set j [a,v,c]=_;rw [List.set_append_right _ _ (by omega),hA,aVp,hdr];rfl
   have hnext:St (j+1)=(St j).set j [a,plN ((l.take j).foldl plS []) c,c]:=by
    rw [hset];show (l.take (j+1)).foldl plS []++l.drop (j+1)=_;rw [e1];unfold plS;rw [List.append_assoc];rfl
   have hle:=bH (huS j) g1;have hpl:(j:Int)<((isort (ltK 2) p).length:Int):=by rw [hp];omega
   rw [hnext]
   rcases Nat.eq_zero_or_pos j with h0 | hpos
   ·have hn:plN ((l.take j).foldl plS []) c=(j:Int)+1:=by
     subst h0;rfl
    rw [hn];exact bAy (L:=St j) (L':=(St j).set j [a,((j+1:Nat):Int),c]) (by exact_mod_cast hpl) (aO (by omega)) g1 (by omega) (by omega) (by simp) (zE (huS j) g1 _).symm rfl
   ·have g2:∃ y0 y1 y2,((l.take j).foldl plS []).getLast? = some [y0,y1,y2]∧(St j)[((j:Int)-1).toNat]? = some [y0,y1,y2]:=by
     have hlt:j-1<((l.take j).foldl plS []).length:=by omega
     have h3:=aIn (l.take j) [] (fun z hz=>by cases hz) _ (eY hlt)
     obtain ⟨y0,y1,y2,hy⟩:=len3 h3;refine ⟨y0,y1,y2,?_,?_⟩
     ·rw [List.getLast?_eq_getElem?,hA,kQ0 hlt,hy]
     ·show ((l.take j).foldl plS []++l.drop j)[((j:Int)-1).toNat]? = _
      rw [show ((j:Int)-1).toNat=j-1 by omega,aAy hlt,kQ0 hlt,hy]
    obtain ⟨y0,y1,y2,g3,g4⟩:=g2
    by_cases hc:c=y2
    ·have hn:plN ((l.take j).foldl plS []) c=y1:=by
      unfold plN;rw [g3];show (if y2=c then y1 else _)=y1
      rw [if_pos hc.symm]
     rw [hn];have hu1:uni 3 ((St j).set j [a,((j+1:Nat):Int),c]):=aSg (huS j) rfl;have g5:((St j).set j [a,((j+1:Nat):Int),c])[j]? = some [a,((j+1:Nat):Int),c]:=by
      rw [bHr (by rw [hlS j (by omega)];omega)]
     refine bAw (L:=St j) (L':=(St j).set j [a,y1,c]) (by exact_mod_cast hpl) (aO (by omega)) g1 (by omega) (by omega) (huS j) (by unfold inR;omega) g4 (by omega) hc (by rw [tD];omega) (by simp) ?_ rfl
     rw [zE (huS j) g1,zE hu1 g5,List.set_set]
    ·have hn:plN ((l.take j).foldl plS []) c=(j:Int)+1:=by
      unfold plN;rw [g3];show (if y2=c then y1 else _)=_
      rw [if_neg (fun h=>hc h.symm),hA]
     rw [hn];exact bAx (L:=St j) (L':=(St j).set j [a,((j+1:Nat):Int),c]) (by exact_mod_cast hpl) (aO (by omega)) g1 (by omega) (by omega) (huS j) (by unfold inR;omega) g4 (by omega) hc (by simp) (zE (huS j) g1 _).symm rfl)
  (by
   have e:St l.length=iW l:=by
    show (l.take l.length).foldl plS []++l.drop l.length=_;rw [List.take_length,List.drop_length,List.append_nil];rfl
   rw [e];exact bAz (by rw [hp];omega)) (by simp)
 exact this
theorem aFs:(iL dl oc dc sk).length≤sk.length:=by
 unfold iL;rw [kQ9];exact wD _ _
theorem aCn:(gT dl oc dc sk).length≤sk.length:=by
 unfold gT;rw [kQ9];exact wD _ _
theorem aFt:uni 3 (iL dl oc dc sk):=fun y hy=>by
 obtain ⟨s,_,rfl⟩:=eK.1 hy;rfl
theorem aCo:uni 3 (gT dl oc dc sk):=fun y hy=>by
 obtain ⟨s,_,rfl⟩:=eK.1 hy;rfl
theorem tQ(f:Nat)(l:Lqq):(isort (ltK f) l).length=l.length:=vM _ _
theorem bBr{k f:Nat}{l:Lqq}(h:uni k l):uni k (isort (ltK f) l):=fun y hy=>h y ((xB _ _ y).1 hy)
theorem aCp(l:Lqq):(iW l).length=l.length:=by unfold iW;rw [aTr];simp
theorem aRj(l:Lqq):uni 3 (iW l):=aIn l [] fun z hz=>by cases hz
theorem mB:uni 3 (bN dl oc dc sk):=fun y hy=>by
 rcases iH.1 hy with hy | hy
 ·exact aRj _ y hy
 ·exact aCo y hy
theorem aMc{α:Type}(p:α→Bool):∀ l:List α,(l.filter fun x => !p x).length+(l.filter p).length=l.length
 | []=>rfl
 | x::l=>by
  have:=aMc p l;cases h:p x <;> simp [h] <;> omega
theorem aMd:(bN dl oc dc sk).length=sk.length:=by
 unfold bN iL gT;rw [mD,aCp,tQ,kQ9,kQ9];exact aMc _ sk
theorem bVq(hd:cI dc)(hov:∀ n,qT ov n (oc.contains n))(hs:uni 2 sk)(hb:∀ x∈sk,skB x=true)(hl:sk.length<20){T:Lqb}(hT:cD dl oc dc T):∃ T',cD dl oc dc T'∧bTi dl sk dc ov (bN dl oc dc sk) T T':=by
 obtain ⟨acc,⟨h1,h2,h3⟩,h4⟩:=aI.ex (P:=Tp) (k:=7) (b:=sub (cd Tryz.f86) [1,1,0,1,0,0]) (e := .exit 0) (fun i (a:(Lqq × Lqq) × Lqb)=>iU dl sk dc ov a.1.1.length (a.1.1.flatten.map aA) a.1.2.length (a.1.2.flatten.map aA) i (aE a.2) a.2.length)
  (fun a=>iU dl sk dc ov a.1.1.length (a.1.1.flatten.map aA) a.1.2.length (a.1.2.flatten.map aA) sk.length (aE a.2) a.2.length)
  (fun i a=>cD dl oc dc a.2∧a.1.1=iL dl oc dc (sk.take i)∧a.1.2=gT dl oc dc (sk.take i)) (by simp) sk.length
  (fun i acc hi hI=>by
   obtain ⟨⟨p,q⟩,T1⟩:=acc;obtain ⟨h1,h2,h3⟩:=hI;dsimp only at h1 h2 h3
   have hm:=eY hi;obtain ⟨a,b,hy⟩:=len2 (hs _ hm);have hx:sk[i]? = some [a,b]:=by rw [kQ0 hi,hy]
   rw [hy] at hm
   have hr : -1≤b∧b≤360000:=by
    have:=hb _ hm;rw [bQm,kQ6] at this
    exact cS.1 this.2
   obtain ⟨T2,q1,q2⟩:=aXh (sk:=sk) hd hov a b hr h1;have hp:p.length≤20:=by rw [h2];have:=aFs (dl:=dl) (oc:=oc) (dc:=dc) (sk:=sk.take i);rw [mX] at this;omega
   have hq:q.length≤20:=by rw [h3];have:=aCn (dl:=dl) (oc:=oc) (dc:=dc) (sk:=sk.take i);rw [mX] at this;omega
   have et:sk.take (i+1)=sk.take i++[[a,b]]:=by rw [List.take_add_one,hx];rfl
   rw [et];have e1:iL dl oc dc (sk.take i++[[a,b]])=p++if (eU dl oc dc a b).2 then [] else [[a,0,(eU dl oc dc a b).1]]:=by
    rw [h2];unfold iL;rw [rU,gI]
    congr 1
    show (List.filter _ [[a,b]]).map _=_;cases hq:(eU dl oc dc a b).2 <;> simp [hq]
   have e2:gT dl oc dc (sk.take i++[[a,b]])=q++if (eU dl oc dc a b).2 then [[a,-1,0]] else []:=by
    rw [h3];unfold gT;rw [rU,gI]
    congr 1
    show (List.filter _ [[a,b]]).map _=_;cases hq:(eU dl oc dc a b).2 <;> simp [hq]
   rw [e1,e2];cases hc:(eU dl oc dc a b).2 with
   | true =>
    rw [hc] at q2
    exact ⟨((p,q++[[a,-1,0]]),T2),⟨q1,by simp,by simp⟩,bAt (q:=q) (q':=q++[[a,-1,0]]) (by omega) hx hs q2 rfl ⟨rfl,by omega⟩ (aO (by omega)) (by simp) (by simp) rfl rfl rfl⟩
   | false =>
    rw [hc] at q2
    exact ⟨((p++[[a,0,(eU dl oc dc a b).1]],q),T2),⟨q1,by simp,by simp⟩,bAu (p:=p) (p':=p++[[a,0,(eU dl oc dc a b).1]]) (by omega) hx hs q2 rfl ⟨rfl,by omega⟩ (aO (by omega)) (by simp) (by simp) rfl rfl rfl⟩)
  (fun acc hI=>bAv (by omega)) (acc:=(([],[]),T)) ⟨hT,by simp [iL],by simp [gT]⟩
 obtain ⟨⟨p,q⟩,T1⟩:=acc;dsimp only at h1 h2 h3 h4
 rw [List.take_length] at h2 h3
 subst h2 h3;have hp:=aFs (dl:=dl) (oc:=oc) (dc:=dc) (sk:=sk);have hq:=aCn (dl:=dl) (oc:=oc) (dc:=dc) (sk:=sk);have hP:=aRi (dl:=dl) (sk:=sk) (dc:=dc) (ov:=ov) (isort (ltK 2) (iL dl oc dc sk)) (bBr aFt) (by rw [tQ];omega) (iL dl oc dc sk) (gT dl oc dc sk) rfl T1
 refine ⟨T1,h1,bTj (r0n:=(bN dl oc dc sk).length) (r0c:=(bN dl oc dc sk).flatten.map aA) h4 aFt (by omega) hP ⟨qQ aCo,by rw [aCp,tQ];omega⟩ ?_ ?_⟩
 ·unfold bN;rw [mD]
 ·unfold bN;rw [bDf,gI]
end
theorem aTs{dl:Int}{sk dc:Lqq}(h:cB dl sk dc):∀ x∈aB sk,skB x=true:=fun x hx=>h.hsk x ((eR sk).mem_iff.1 hx)
theorem aRk{dl:Int}{sk dc:Lqq}(h:cB dl sk dc)(hl:sk.length<20){base:Nat}:FV Tp 28 [.p (.agg (cL dl sk dc))] base (.tup [.own base,.p (aA 0)]) [(base,.row 48 (bN dl [] (aB dc) (aB sk)).length ((bN dl [] (aB dc) (aB sk)).flatten.map aA))]:=by
 obtain ⟨T',h1,h2⟩:=bVq (dl:=dl) (sk:=aB sk) (gM h) uY (fA h.us) (aTs h) (by rw [eO];exact hl) cD.nil
 exact bTk h h2
theorem aFu{dl:Int}{dc:Lqq}(hd:cI dc):(aP dl dc).length≤1000:=by
 unfold aP;rw [kQ9];have:=wD (pO dl dc) dc;have:=hd.len;omega
def vP(u:List Int):Bool:=(List.range u.length).all fun i=>i == 0 || decide (u.getD (i-1) 0<u.getD i 0)
theorem bGw{dl:Int}{sk dc:Lqq}(u:List Int)(hl:u.length≤1000):(vP u=true∧∃ i,aI Tp 0 (sub (cd Tryz.f21) [1,1,1,1,1,0,1,0,0]) (gQ dl sk dc u 1) (.exit 0) (gQ dl sk dc u i)) ∨
  (vP u=false∧∃ i,aI Tp 0 (sub (cd Tryz.f21) [1,1,1,1,1,0,1,0,0]) (gQ dl sk dc u 1) .ret (cF (gQ dl sk dc u i) [(4,.p bW),(5,.p (aA 4))])):=by
 rcases Nat.lt_or_ge u.length 2 with h2 | h2
 ·refine .inl ⟨?_,1,.exit (aFl (by omega)) (by simp)⟩
  unfold vP;rw [gW];intro i hi;have:=rV.1 hi;have:i=0:=by omega
  subst this;rfl
 ·have hget:∀ i,i<u.length→u[i]? = some (u.getD i 0):=fun i hi=>by rw [kQ4,kQ0 hi];rfl
  have key:∀ d i,i+d=u.length→1≤i→(∀ j,j<i→(j == 0 || decide (u.getD (j-1) 0<u.getD j 0))=true) →
   (vP u=true∧∃ k,aI Tp 0 (sub (cd Tryz.f21) [1,1,1,1,1,0,1,0,0]) (gQ dl sk dc u (i:Int)) (.exit 0) (gQ dl sk dc u k)) ∨
   (vP u=false∧∃ k,aI Tp 0 (sub (cd Tryz.f21) [1,1,1,1,1,0,1,0,0]) (gQ dl sk dc u (i:Int)) .ret (cF (gQ dl sk dc u k) [(4,.p bW),(5,.p (aA 4))])):=by
   intro d
   induction d with
   | zero =>
    intro i hi h1 hj;refine .inl ⟨?_,_,.exit (aFl (by omega)) (by simp)⟩
    unfold vP;rw [gW];intro j hjr;exact hj j (by have:=rV.1 hjr;omega)
   | succ d ih =>
    intro i hi h1 hj;have g1:u[((i:Nat):Int).toNat]? = some (u.getD i 0):=by rw [aNz];exact hget i (by omega)
    have g2:u[((i:Int)-1).toNat]? = some (u.getD (i-1) 0):=by rw [show ((i:Int)-1).toNat=i-1 by omega];exact hget (i-1) (by omega)
    by_cases hc:u.getD (i-1) 0<u.getD i 0
    ·have hst:=bBb (dl:=dl) (sk:=sk) (dc:=dc) (i:=(i:Int)) (i':=((i+1:Nat):Int)) (by omega) g1 (by omega) (by unfold inR;omega) g2 (by omega) hc (by unfold inR;omega) (by omega)
     rcases ih (i+1) (by omega) (by omega) (fun j hj2=>by
      rcases Nat.lt_or_ge j i with h3 | h3
      ·exact hj j h3
      ·obtain rfl:j=i:=by omega
       rw [decide_eq_true hc,Bool.or_true]) with ⟨q1,k,q2⟩ | ⟨q1,k,q2⟩
     ·exact .inl ⟨q1,k,.step hst q2⟩
     ·exact .inr ⟨q1,k,.step hst q2⟩
    ·refine .inr ⟨?_,_,.exit (bBa (i:=(i:Int)) (by omega) g1 (by omega) (by unfold inR;omega) g2 (by omega) (by omega)) (by simp)⟩
     cases hr:vP u with
     | false=>rfl
     | true =>
      unfold vP at hr
      have:=gW.1 hr i (rV.2 (by omega))
      rw [show (i == 0)=false by simp;omega,Bool.false_or] at this
      exact absurd (of_decide_eq_true this) hc
  have:=key (u.length-1) 1 (by omega) (by omega) (fun j hj=>by
   have:j=0:=by omega
   subst this;rfl)
  exact this
def bVr(dl:Int)(dc:Lqq)(u:List Int):Int:=if u.all (ocB (aP dl dc)) then (if vP u then 0 else 4) else 1
theorem bUr{dl:Int}{sk dc:Lqq}(h:cB dl sk dc)(hl:sk.length<20)(u:List Int)(hu:u.length≤1000)(he:bVr dl (aB dc) u=0){base:Nat}:FV Tp 21 [.p (.agg (cL dl sk dc)),.p (aG u)] base (.tup [.own base,.p (aA 0)]) [(base,.row 48 (bN dl u (aB dc) (aB sk)).length ((bN dl u (aB dc) (aB sk)).flatten.map aA))]:=by
 have hd:=gM h;unfold bVr at he
 cases ha:u.all (ocB (aP dl (aB dc))) with
 | false=>rw [ha] at he;simp at he
 | true =>
  rw [ha,if_pos rfl] at he
  rcases bGw (dl:=dl) (sk:=sk) (dc:=dc) u hu with ⟨q1,i,q2⟩ | ⟨q1,i,q2⟩
  ·obtain ⟨T',h1,h2⟩:=bVq (dl:=dl) (sk:=aB sk) hd (aBr hu) (fA h.us) (aTs h) (by rw [eO];exact hl) cD.nil
   exact bTp h hd hu (fun _ _=>aFu hd) ha q2 h2
  ·rw [q1] at he;simp at he
end
end KV
end Go.Proofs
section
namespace Go.Proofs
namespace KL
def aRc(x:Int):List Int→List Int
 | []=>[x]
 | y::r=>if x≤y then x::y::r else y::aRc x r
def sortI:List Int→List Int
 | []=>[]
 | x::r=>aRc x (sortI r)
theorem xE(x:Int):∀ l,(aRc x l).Perm (x::l)
 | [] => .refl _
 | y::r=>by
  unfold aRc
  split
  ·exact .refl _
  ·exact ((xE x r).cons y).trans (List.Perm.swap x y r)
theorem aCh:∀ l,(sortI l).Perm l
 | [] => .refl _
 | x::r=>(xE x _).trans ((aCh r).cons x)
theorem yI(x:Int):∀ l,l.Pairwise (· ≤ ·)→(aRc x l).Pairwise (· ≤ ·)
 | [],_=>by simp [aRc]
 | y::r,h=>by
  obtain ⟨h1,h2⟩:=List.pairwise_cons.1 h;unfold aRc
  split
  ·rename_i hx
   exact List.pairwise_cons.2 ⟨fun z hz=>by
    rcases List.mem_cons.1 hz with rfl | hz
    ·exact hx
    ·have:=h1 z hz;omega,h⟩
  ·rename_i hx
   refine List.pairwise_cons.2 ⟨fun z hz => ?_,yI x r h2⟩
   rcases List.mem_cons.1 ((xE x r).mem_iff.1 hz) with rfl | hz
   ·omega
   ·exact h1 z hz
theorem vN:∀ l,(sortI l).Pairwise (· ≤ ·)
 | [] => .nil
 | x::r=>yI x _ (vN r)
theorem aFr:∀ (a b:List Int),a.Perm b→a.Pairwise (· ≤ ·)→b.Pairwise (· ≤ ·)→a=b
 | [],b,h,_,_=>(List.nil_perm.1 h).symm
 | x::r,[],h,_,_=>absurd h.length_eq (by simp)
 | x::r,y::t,h,ha,hb=>by
  obtain ⟨h1,h2⟩:=List.pairwise_cons.1 ha;obtain ⟨h3,h4⟩:=List.pairwise_cons.1 hb;have e:x=y:=by
   have m1:x∈y::t:=h.mem_iff.1 (List.mem_cons_self ..);have m2:y∈x::r:=h.mem_iff.2 (List.mem_cons_self ..)
   rcases List.mem_cons.1 m1 with e | m1
   ·exact e
   ·rcases List.mem_cons.1 m2 with e | m2
    ·exact e.symm
    ·have:=h1 y m2;have:=h3 x m1;omega
  subst e;rw [aFr r t (List.Perm.cons_inv h) h2 h4]
theorem mergeSort_eq(l:List Int):l.mergeSort leB=sortI l:=by
 refine aFr _ _ ((List.mergeSort_perm _ _).trans (aCh l).symm) ?_ (vN l);have:=List.pairwise_mergeSort (le:=leB) (fun a b c h1 h2=>by simp only [leB,decide_eq_true_eq] at *;omega) (fun a b=>by simp only [leB,Bool.or_eq_true,decide_eq_true_eq];omega) l
 exact this.imp (fun h=>by simpa [leB] using h)
end KL
namespace KV
abbrev sk3:List (List Int):=[[1,15000],[2,15100],[3,15200]]
abbrev dc2:List (List Int):=[[1,0,0,1,300,0],[2,7,10,0,0,1]]
abbrev dc3:List (List Int):=[[1,0,0,1,300,0],[2,7,10,0,0,1],[3,9,40,0,0,2]]
abbrev dc4:List (List Int):=[[1,0,0,1,300,0],[2,7,10,0,0,1],[3,9,40,0,0,2],[4,5,50,0,0,3]]
abbrev dc5:List (List Int):=[[1,0,0,1,300,0],[2,7,10,0,0,1],[3,9,40,0,0,2],[4,5,50,0,0,3],[5,6,60,0,100,1]]
theorem rD{l:List (List Int)}(h:l.Pairwise fun a b=>a.getD 0 0≤b.getD 0 0):aB l=l:=List.mergeSort_of_pairwise (h.imp fun h=>decide_eq_true h)
theorem aDg:aB sk3=sk3:=rD (by decide)
theorem srt2:aB dc2=dc2:=rD (by decide)
theorem srt3:aB dc3=dc3:=rD (by decide)
theorem srt4:aB dc4=dc4:=rD (by decide)
theorem srt5:aB dc5=dc5:=rD (by decide)
theorem rec2:cB 30 sk3 dc2:=⟨by unfold uni;decide,by unfold uni;decide,by decide,by decide,by decide,by decide,by decide,by decide,by decide,by decide,by decide⟩
theorem rec3:cB 30 sk3 dc3:=⟨by unfold uni;decide,by unfold uni;decide,by decide,by decide,by decide,by decide,by decide,by decide,by decide,by decide,by decide⟩
theorem rec4:cB 30 sk3 dc4:=⟨by unfold uni;decide,by unfold uni;decide,by decide,by decide,by decide,by decide,by decide,by decide,by decide,by decide,by decide⟩
theorem rec5:cB 30 sk3 dc5:=⟨by unfold uni;decide,by unfold uni;decide,by decide,by decide,by decide,by decide,by decide,by decide,by decide,by decide,by decide⟩
def bMi(al:List fE)(s:Nat)(c:List cM):List Int:=Lib.compact (KL.sortI (c.flatMap (chL al s)))
theorem aTo(al:List fE)(s:Nat)(c:List cM):lI al s c=bMi al s c:=by unfold lI bMi;rw [KL.mergeSort_eq]
def bGm(dl:Int)(sk dc:List (List Int))(f:Int)(i:Nat):Bool:=match (bL dl sk dc)[i]? with
 | some h=>aHv (bMi (bL dl sk dc) i h.1) (h.1.any fun x=>x.2.1) (h.1.any fun x => !x.2.1) f
 | none=>false
theorem bGn(dl:Int)(sk dc:List (List Int))(f:Int):yF dl sk dc f=bGm dl sk dc f:=by
 funext i
 unfold yF bGm
 split
 ·rename_i h e
  first | rw [e] | skip
  simp only [aTo]
 ·rename_i e
  first | rw [e] | rfl
theorem h28(base:Nat):FV Tryz.prog 28 [.p (.agg (cL 30 sk3 dc2))] base (.tup [.own base,.p (aA 0)]) [(base,.row 48 3 ([[2,1,15100],[3,2,15200],[1,3,15300]].flatten.map aA))]:=by
 have:=aRk rec2 (by decide) (base:=base)
 rw [aDg,srt2,show bN 30 [] dc2 sk3=[[2,1,15100],[3,2,15200],[1,3,15300]] from by decide +kernel] at this
 exact this
theorem h21(base:Nat):FV Tryz.prog 21 [.p (.agg (cL 30 sk3 dc2)),.p (aG [2])] base (.tup [.own base,.p (aA 0)]) [(base,.row 48 3 ([[1,1,15000],[2,2,15100],[3,3,15200]].flatten.map aA))]:=by
 have:=bUr rec2 (by decide) [2] (by decide) (by rw [srt2];decide +kernel) (base:=base)
 rw [aDg,srt2,show bN 30 [2] dc2 sk3=[[1,1,15000],[2,2,15100],[3,3,15200]] from by decide +kernel] at this
 exact this
theorem open2:aP 30 dc2=[2]:=by decide +kernel
theorem h71(base:Nat):FV Tryz.prog 71 [.p (.agg (cL 30 sk3 dc2)),.p (aA 1)] base (.tup [.p (aG [1,3]),.p (blP false),.p (aA 0)]) []:=by
 have:=bSf rec2 (bib:=1) (i:=0) (s0:=1) (s1:=15000) (by rw [aDg];decide +kernel) (by rw [aDg];rfl) (by rw [srt2,open2];decide) (base:=base)
 rw [aDg,srt2,aTo,show bMi (bL 30 sk3 dc2) 0 (oE 30 dc2 1 15000 (tM 30 dc2 1)).1=[1,3] from by decide +kernel,show ((oE 30 dc2 1 15000 (tM 30 dc2 1)).1.any fun x=>x.2.1)=false from by decide +kernel] at this
 exact this
theorem h33(base:Nat):FV Tryz.prog 33 [.p (.agg (cL 30 sk3 dc2)),.p (aA 2)] base (.tup [.p (aG [2]),.p (aA 0)]) []:=by
 have:=bSh rec2 (f:=2) (by decide) (by rw [srt2,open2];decide) (base:=base)
 have e:aLk 30 sk3 dc2 2=[2]:=by
  unfold aLk;rw [bGn];decide +kernel
 rw [aDg,srt2,e] at this
 exact this
theorem h19a(base:Nat):FV Tryz.prog 19 [.p (.agg (cL 30 sk3 dc3))] base (.tup [.p (aG []),.p (aA 0)]) []:=by
 have:=aIf rec3 (base:=base);rw [srt3,show aP 30 dc3=[] from by decide +kernel] at this
 exact this
theorem h19b(base:Nat):FV Tryz.prog 19 [.p (.agg (cL 30 sk3 dc4))] base (.tup [.p (aG [2]),.p (aA 0)]) []:=by
 have:=aIf rec4 (base:=base);rw [srt4,show aP 30 dc4=[2] from by decide +kernel] at this
 exact this
theorem h61(base:Nat):FV Tryz.prog 61 [.p (.agg (cL 30 sk3 dc5)),.p (aA 1)] base (.tup [.p (aA 15100),.p (blP false),.p (aA 0)]) []:=by
 obtain ⟨T',_,hT⟩:=aXh (dl:=30) (sk:=aB sk3) (dc:=aB dc5) (gM rec5) uY 1 15000 (by decide) (T:=[]) cD.nil
 have:=bFh rec5 (bib:=1) (i0:=0) (s1:=1) (s2:=15000) (by rw [aDg];decide +kernel) (by rw [aDg];rfl) hT (base:=base)
 rw [srt5,show eU 30 [] dc5 1 15000=(15100,false) from by decide +kernel] at this
 exact this
theorem h58(base:Nat):FV Tryz.prog 58 [.p (.agg (cL 30 sk3 dc2)),.p (aA 2)] base (.tup [.p (blP true),.p (aA 0)]) []:=by
 have:=bUj rec2 2 (base:=base);have hB:∀ r6,aDh 30 sk3 dc2 2 r6=fun x => !(((eU 30 x dc2 ((sk3.getD (bE (fun x=>decide (r6=x)) (aJ sk3 0)).toNat []).getD 0 0) ((sk3.getD (bE (fun x=>decide (r6=x)) (aJ sk3 0)).toNat []).getD 1 0)).1 == (eU 30 (x++[2]) dc2 ((sk3.getD (bE (fun x=>decide (r6=x)) (aJ sk3 0)).toNat []).getD 0 0) ((sk3.getD (bE (fun x=>decide (r6=x)) (aJ sk3 0)).toNat []).getD 1 0)).1) && ((eU 30 x dc2 ((sk3.getD (bE (fun x=>decide (r6=x)) (aJ sk3 0)).toNat []).getD 0 0) ((sk3.getD (bE (fun x=>decide (r6=x)) (aJ sk3 0)).toNat []).getD 1 0)).2 == (eU 30 (x++[2]) dc2 ((sk3.getD (bE (fun x=>decide (r6=x)) (aJ sk3 0)).toNat []).getD 0 0) ((sk3.getD (bE (fun x=>decide (r6=x)) (aJ sk3 0)).toNat []).getD 1 0)).2)):=fun r6=>by
  funext x
  unfold aDh fD;rw [aDg,srt2]
 have e:bGt 30 sk3 dc2 2=(true,0):=by
  unfold bGt;rw [aDg,srt2,hB];decide +kernel
 rw [e] at this
 exact this
theorem bGo{base:Nat}:FV Tryz.prog 26 [] base (.p (blP true)) [] :=
 bUi h28 h21 h71 h33 (fun base=>by
  have:=bFi [[2,1,15100],[3,2,15200],[1,3,15300]] [[2,1,15100],[3,2,15200],[1,3,15300]] (by unfold uni;decide) (by unfold uni;decide) (by decide) (base:=base)
  rw [decide_eq_true rfl] at this
  exact this) ⟨rfl,rfl⟩ (by decide) (fun base=>by
  have:=aHt [1,3] [1,3] (by decide) (base:=base)
  rw [decide_eq_true rfl] at this
  exact this) (fun base=>by
  have:=aHt [2] [2] (by decide) (base:=base)
  rw [decide_eq_true rfl] at this
  exact this) h19a h19b h61 h58
end KV
end Go.Proofs
end
namespace Go.Proofs
namespace KV
section

abbrev RS:=Bool × Bool × Bool × Bool × Int × Int × Int
end
section
end
section
section
variable {dl:Int} {sk dc:Lqq} {q:List Int} {i:Int} {L:List RS} {y100 y101 y102 y103 y104 y105:Int}
end
end
section
end
section
section
variable {dl:Int} {sk dc:Lqq} {q:List Int}
end
end
section

theorem bGx{dl:Int}{sk dc:Lqq}(h:cB dl sk dc){base:Nat}:FV Tp 122 [.p (.agg (cL dl sk dc)),.fn 123 [] []] base (.tup [.p (aG (gB (cU dl [] (aB dc)) (aB dc))),.p (aA 0)]) [] :=
 bTs h _ fun x hx T hT=>bWa (gM h) uY hx hT
theorem bGy{dl:Int}{sk dc:Lqq}(h0:cB dl sk dc){base:Nat}:FV Tp 48 [(.p (.agg (cL dl sk dc)))] base (.tup [(.p (aG (gB (cU dl [] (aB dc)) (aB dc)))),(pI 0)]) []:=by
 exact FV.fin Tryz.func48 rfl (o:=[.c (.tup [(.p (aG (gB (cU dl [] (aB dc)) (aB dc)))),(pI 0)]) []]) (l:=[_]) (by kernel_rfl) (gc (fk 1 (bGx h0) rfl) gn)
end
section

end
section
section
variable {dl:Int} {sk dc:Lqq}
end
end
section

end
section
end
section

noncomputable abbrev mY:Code:=sub (cd Tryz.f10) [1,1,1,1,1,1,1,1,1,1,1,1,1,1,1,0,1,0,0,1,1,0,0,1,1,1,0,1,0,0]
noncomputable abbrev qP:Code:=sub (cd Tryz.f10) [1,1,1,1,1,1,1,1,1,1,1,1,1,1,1,0,1,0,0]
noncomputable abbrev aHa:Code:=sub (cd Tryz.f10) [1,1,1,1,0,1,0,0]
theorem kW:((0:Int) != (0:Int))=false:=by first | decide | simp
def lT(l2:List Int)(sk0:Lqq)(dc1:Lqq)(o4:List Int)(m5:Int)(t6:Int)(i:Nat)(skn:Nat)(skc:List PV):St:=⟨fr 329 [(4,(.kb false)),(5,(.ptr 0 0)),(6,(.ptr 1 0)),(7,(.ptr 2 0)),(50,(.own 3)),(51,(pI (o4.length:Int))),(52,(pI (i:Int)))],[some (.box 26 [(pI 30),(.p (fS sk0)),(.p (fS dc1))]),some (.box 129 [(.p (.sl l2.length (l2.map aN))),(pI m5),(.p (.v (.int .u32 t6)))]),some (.box 26 [(pI 30),(.own 4),(.p bW)]),some (.row 3 o4.length (o4.map aA)),some (.row 31 skn skc)]⟩
def pA(sk0:Lqq)(dc1:Lqq)(sk'8:Lqq)(o9:List Int)(j:Nat)(dc:Lqq):St:=⟨fr 329 [(5,(.ptr 0 0)),(7,(.ptr 1 0)),(71,(.own 2)),(72,(pI (o9.length:Int))),(73,(pI (j:Int)))],[some (.box 26 [(pI 30),(.p (fS sk0)),(.p (fS dc1))]),some (.box 26 [(pI 30),(.p (fS sk'8)),(.p (fS dc))]),some (.row 3 o9.length (o9.map aA))]⟩
def eQ(sk0:Lqq)(dc1:Lqq)(n:Nat):St:=⟨fr 329 [(5,(.ptr 0 0)),(14,(.own 1)),(203,(.own 1)),(204,(pI (((bN (30:Int) [] (aB dc1) (aB sk0)).length:Nat):Int))),(205,(pI (n:Int)))],[some (.box 26 [(pI 30),(.p (fS sk0)),(.p (fS dc1))]),some (.row 48 ((bN (30:Int) [] (aB dc1) (aB sk0)).length) ((bN (30:Int) [] (aB dc1) (aB sk0)).flatten.map aA))]⟩
theorem bNu{l1 l2:List Int}{sk0 dc1:Lqq}{m2 t3:Int}{o4:List Int}{m5 t6:Int}{i'7:Nat}{sk'8:Lqq}{o9:List Int}{m10 t11:Int}{j'12:Nat}{dc'13:Lqq}{n'14:Nat}(h0:0≤(0:Int)∧(0:Int)≤900)(h1:1≤(8:Int)∧(8:Int)≤30)(h2:0≤(20:Int)∧(20:Int)≤40)(h3:bDg (8:Int) (20:Int) l1 (0:Int) (17:Int)=(sk0,dc1,m2,t3))(h4:0≤(0:Int)∧(0:Int)≤1000000)(h5:0≤(sk0.length:Int)∧(sk0.length:Int)≤1000)(h6:nZ (sk0.length:Int) l2 (0:Int) (17:Int)=(o4,m5,t6))(hl7:aI Tp 0 aHa (lT l2 sk0 dc1 o4 m5 t6 0 0 []) (.exit 0) (lT l2 sk0 dc1 o4 m5 t6 i'7 sk'8.length (sk'8.flatten.map aA)))(h8:0≤m5∧m5≤1000000)(h9:0≤(dc1.length:Int)∧(dc1.length:Int)≤1000)(h10:nZ (dc1.length:Int) l2 m5 t6=(o9,m10,t11))(hl11:aI Tp 0 (sub (cd Tryz.f10) [1,1,1,1,1,0,1,0,0]) (pA sk0 dc1 sk'8 o9 0 ([]:Lqq)) (.exit 2) (pA sk0 dc1 sk'8 o9 j'12 dc'13))(h12:cB (30:Int) sk0 dc1)(h13:sk0.length<20)(h14:cB (30:Int) sk'8 dc'13)(h15:sk'8.length<20)(h16:uni 3 (bN (30:Int) [] (aB dc1) (aB sk0)))(h17:uni 3 (bN (30:Int) [] (aB dc'13) (aB sk'8)))(h18:(bN (30:Int) [] (aB dc1) (aB sk0)).length≤1000)(h19:(decide ((bN (30:Int) [] (aB dc1) (aB sk0))=(bN (30:Int) [] (aB dc'13) (aB sk'8))))=true)(h20:(gB (cU (30:Int) [] (aB dc1)) (aB dc1)).length≤1000)(h21:(decide ((gB (cU (30:Int) [] (aB dc1)) (aB dc1))=(gB (cU (30:Int) [] (aB dc'13)) (aB dc'13))))=true)(h22:(aP (30:Int) (aB dc1)).length≤1000)(h23:(decide ((aP (30:Int) (aB dc1))=(aP (30:Int) (aB dc'13))))=true)(h24:uni 2 (aB sk0)∧(aB sk0).length≤1000)(h25:uni 6 (aB dc1)∧(aB dc1).length≤1000)(h26:uni 2 (aB sk'8))(h27:uni 6 (aB dc'13))(h28:(decide ((30:Int)=30∧(aB sk0)=(aB sk'8)∧(aB dc1)=(aB dc'13)))=true)(h29:(((bN (30:Int) [] (aB dc1) (aB sk0)).length:Nat):Int)=(sk0.length:Int))(hl30:aI Tp 0 qP (eQ sk0 dc1 0) (.exit 4) (eQ sk0 dc1 n'14))(h31:∀ {base:Nat},FV Tp 26 [] base (pB true) []){base:Nat}:FV Tp 10 [(.p (.sl l1.length (l1.map aN))),(.p (.sl l2.length (l2.map aN)))] base (pB true) []:=by
 exact FV.fin Tryz.func10 rfl (o:=[.c (.ptr 0 0) [(0,(.box 129 [(.p (.sl l1.length (l1.map aN))),(pI 0),(.p (.v (.int .u32 (17:Int))))]))],.c (.p (.agg (cL 30 sk0 dc1))) [(0,(.box 129 [(.p (.sl l1.length (l1.map aN))),(pI m2),(.p (.v (.int .u32 t3)))]))],.c (.ptr 2 0) [(2,(.box 129 [(.p (.sl l2.length (l2.map aN))),(pI 0),(.p (.v (.int .u32 (17:Int))))]))],.c (.own 4) [(2,(.box 129 [(.p (.sl l2.length (l2.map aN))),(pI m5),(.p (.v (.int .u32 t6)))])),(4,(.row 3 o4.length (o4.map aA)))],.k 1 ⟨(rng [(0,4),(8,3),(36,1),(38,12),(53,14)]),[1,2,3,4,5],[],[(103001,31)]⟩ (.exit 0) (lT l2 sk0 dc1 o4 m5 t6 i'7 sk'8.length (sk'8.flatten.map aA)),.c (.own 5) [(1,(.box 129 [(.p (.sl l2.length (l2.map aN))),(pI m10),(.p (.v (.int .u32 t11)))])),(5,(.row 3 o9.length (o9.map aA)))],.k 1 ⟨(rng [(0,5),(6,1),(8,6),(36,1),(38,33),(74,27)]),[0,2,5],[4],[(102002,99999)]⟩ (.exit 2) (pA sk0 dc1 sk'8 o9 j'12 dc'13),.c (.tup [(.own 3),(pI 0)]) [(3,(.row 48 ((bN (30:Int) [] (aB dc1) (aB sk0)).length) ((bN (30:Int) [] (aB dc1) (aB sk0)).flatten.map aA)))],.c (.tup [(.own 4),(pI 0)]) [(4,(.row 48 ((bN (30:Int) [] (aB dc'13) (aB sk'8)).length) ((bN (30:Int) [] (aB dc'13) (aB sk'8)).flatten.map aA)))],.c (.tup [(.p (aG (gB (cU (30:Int) [] (aB dc1)) (aB dc1)))),(pI 0)]) [],.c (.tup [(.p (aG (gB (cU (30:Int) [] (aB dc'13)) (aB dc'13)))),(pI 0)]) [],.c (.tup [(.p (aG (aP (30:Int) (aB dc1)))),(pI 0)]) [],.c (.tup [(.p (aG (aP (30:Int) (aB dc'13)))),(pI 0)]) [],.c (.tup [(.p (.agg (cL 30 (aB sk0) (aB dc1)))),(pI 0)]) [],.c (.tup [(.p (.agg (cL 30 (aB sk'8) (aB dc'13)))),(pI 0)]) [],bF,bF,bF,bF,bF,bF,bF,bF,bF,bF,bF,bF,bF,bF,bF,bF,bF,bF,bF,bF,bF,bF,bF,bF,.c (pB (decide ((bN (30:Int) [] (aB dc1) (aB sk0))=(bN (30:Int) [] (aB dc'13) (aB sk'8))))) [],bF,bF,bF,bF,bF,.c (pB (decide ((gB (cU (30:Int) [] (aB dc1)) (aB dc1))=(gB (cU (30:Int) [] (aB dc'13)) (aB dc'13))))) [],bF,bF,bF,bF,bF,.c (pB (decide ((aP (30:Int) (aB dc1))=(aP (30:Int) (aB dc'13))))) [],bF,bF,bF,bF,bF,.c (pB (decide ((30:Int)=30∧(aB sk0)=(aB sk'8)∧(aB dc1)=(aB dc'13)))) [],bF,bF,bF,bF,bF,bF,bF,bF,bF,bF,.k 4 ⟨(rng [(0,5),(6,8),(15,188),(206,122)]),[0,3],[],[]⟩ (.exit 4) (eQ sk0 dc1 n'14),.c (pB true) []]) (l:=[FC Tp 26 [] [] 2 (pB true) [],_,_,_,_,_,_,_,_,_,_,_,_,_,_,_,_,_,_,_,_,_,_,_,_,_,_,_,_,_,FC Tp 51 [(.own 3),(.own 4)] [(3,(.row 48 ((bN (30:Int) [] (aB dc1) (aB sk0)).length) ((bN (30:Int) [] (aB dc1) (aB sk0)).flatten.map aA))),(4,(.row 48 ((bN (30:Int) [] (aB dc'13) (aB sk'8)).length) ((bN (30:Int) [] (aB dc'13) (aB sk'8)).flatten.map aA)))] 7 (pB (decide ((bN (30:Int) [] (aB dc1) (aB sk0))=(bN (30:Int) [] (aB dc'13) (aB sk'8))))) [],_,_,_,_,_,_,_,_,_,_,_,_,_,_,_,_,_,_,_,_,_,_,_,_,_,_,_,_,FC Tp 48 [(.p (.agg (cL 30 sk'8 dc'13)))] [] 5 (.tup [(.p (aG (gB (cU (30:Int) [] (aB dc'13)) (aB dc'13)))),(pI 0)]) [],FC Tp 48 [(.p (.agg (cL 30 sk0 dc1)))] [] 5 (.tup [(.p (aG (gB (cU (30:Int) [] (aB dc1)) (aB dc1)))),(pI 0)]) [],_,_,_,FC Tp 60 [(.ptr 1 0),(pI (dc1.length:Int))] [(1,(.box 129 [(.p (.sl l2.length (l2.map aN))),(pI m5),(.p (.v (.int .u32 t6)))]))] 5 (.own 5) [(1,(.box 129 [(.p (.sl l2.length (l2.map aN))),(pI m10),(.p (.v (.int .u32 t11)))])),(5,(.row 3 o9.length (o9.map aA)))],_,FC Tp 60 [(.ptr 2 0),(pI (sk0.length:Int))] [(2,(.box 129 [(.p (.sl l2.length (l2.map aN))),(pI 0),(.p (.v (.int .u32 (17:Int))))]))] 4 (.own 4) [(2,(.box 129 [(.p (.sl l2.length (l2.map aN))),(pI m5),(.p (.v (.int .u32 t6)))])),(4,(.row 3 o4.length (o4.map aA)))],FC Tp 17 [(.p (.sl l2.length (l2.map aN)))] [] 2 (.ptr 2 0) [(2,(.box 129 [(.p (.sl l2.length (l2.map aN))),(pI 0),(.p (.v (.int .u32 (17:Int))))]))],FC Tp 16 [(.ptr 0 0),(pI 8),(pI 20)] [(0,(.box 129 [(.p (.sl l1.length (l1.map aN))),(pI 0),(.p (.v (.int .u32 (17:Int))))]))] 1 (.p (.agg (cL 30 sk0 dc1))) [(0,(.box 129 [(.p (.sl l1.length (l1.map aN))),(pI m2),(.p (.v (.int .u32 t3)))]))],FC Tp 17 [(.p (.sl l1.length (l1.map aN)))] [] 0 (.ptr 0 0) [(0,(.box 129 [(.p (.sl l1.length (l1.map aN))),(pI 0),(.p (.v (.int .u32 (17:Int))))]))]]) (by kernel_rfl) (gc (FV.fc h31 (by kernel_rfl)) (gc hl30.code (gc (cG h29) (g7c (aV h28) (g2c (aV h23) (gc (fk 7 (bQl (30:Int) (aB sk0) (aB dc1) (30:Int) (aB sk'8) (aB dc'13) h24 h25 h26 h27) rfl) (g3c (aV h23) (g2c (aV h21) (gc (fk 7 (aHt (aP (30:Int) (aB dc1)) (aP (30:Int) (aB dc'13)) h22) rfl) (g3c (aV h21) (g2c (aV h19) (gc (fk 7 (aHt (gB (cU (30:Int) [] (aB dc1)) (aB dc1)) (gB (cU (30:Int) [] (aB dc'13)) (aB dc'13)) h20) rfl) (g3c (aV h19) (g2c kW (gc (fv (bFi (bN (30:Int) [] (aB dc1) (aB sk0)) (bN (30:Int) [] (aB dc'13) (aB sk'8)) h16 h17 h18)) (g8c kW (g8c kW (g8c kW (gc (fk 6 (aOl (30:Int) sk'8 dc'13 h14) rfl) (gc (fk 5 (aOl (30:Int) sk0 dc1 h12) rfl) (gc (fk 5 (aIf h14) rfl) (gc (fk 5 (aIf h12) rfl) (gc (FV.fc (bGy h14) rfl) (gc (FV.fc (bGy h12) rfl) (gc (fk 4 (aRk h14 h15) rfl) (gc (fk 3 (aRk h12 h13) rfl) (gc hl11.code (gc (FMM.fc (ids:=[1]) (aSh (dc1.length:Int) l2 m5 t6 h8 h9 h10) (by kernel_rfl)) (gc hl7.code (gc (FMM.fc (ids:=[2]) (aSh (sk0.length:Int) l2 (0:Int) (17:Int) h4 h5 h6) (by kernel_rfl)) (gc (FMM.fc (ids:=[]) (ofO l2) (by kernel_rfl)) (gc (FMM.fc (ids:=[0]) (bNw (8:Int) (20:Int) l1 (0:Int) (17:Int) h0 h1 h2 h3) (by kernel_rfl)) (gc (FMM.fc (ids:=[]) (ofO l1) (by kernel_rfl)) gn)))))))))))))))))))))))))))))))))
theorem aVt{l2:List Int}{sk0 dc1:Lqq}{o4:List Int}{m5 t6:Int}{i:Nat}{sk:Lqq}{x100 y101 y102:Int}{i':Nat}{sk':Lqq}(h0:(i:Int)<(o4.length:Int))(h1:o4[i]? = some x100)(h2:sk0[x100.toNat]? = some [y101,y102])(h3:0≤x100)(h4:uni 2 sk0)(h5:[(aA y101),(aA y102)].length=1*2∧sk.length+1≤1000000)(h6:inR (((i+1):Nat):Int))(ei':i'=(i+1))(esk'n:sk'.length=(sk.length+1))(esk'c:sk'.flatten.map aA=((sk.flatten.map aA)++[(aA y101),(aA y102)])):aC Tp 0 aHa (lT l2 sk0 dc1 o4 m5 t6 i sk.length (sk.flatten.map aA)) .normal (lT l2 sk0 dc1 o4 m5 t6 i' sk'.length (sk'.flatten.map aA)):=by
 subst ei';have raw:aC Tp 0 aHa (lT l2 sk0 dc1 o4 m5 t6 i sk.length (sk.flatten.map aA)) .normal (lT l2 sk0 dc1 o4 m5 t6 (i+1) (sk.length+1) ((sk.flatten.map aA)++[(aA y101),(aA y102)])):=aC.fin (g:=⟨(rng [(0,4),(8,3),(36,1),(38,12),(53,14)]),[0,1,2,3,6],[],[]⟩) (o:=[bT,.x (aA x100),.x (.agg [(aA y101),(aA y102)])]) (l:=[_,_,[(aA y101),(aA y102)].length=2,_,_,0≤x100∧x100<(sk0.length:Int)∧(x100.toNat*2)<(sk0.flatten.map aA).length,_,_,_]) (by kernel_rfl) (gc h6 (gc h5 (gc (by first | decide | simp) (gc (aS (i:=x100.toNat) h4 h2) (gc (bH (i:=x100.toNat) h4 h2) (gc (bR (k:=2) (i:=x100) (by decide) h4 h3 h2) (gc (atm aA h1) (gc (bP (i:=(i:Int)) (kQ2 _) h1) (gc (aY h0) gn)))))))))
 exact raw.cast (by rw [esk'n,esk'c])
theorem aVu{l2:List Int}{sk0 dc1:Lqq}{o4:List Int}{m5 t6:Int}{i:Nat}{sk:Lqq}(h0:(o4.length:Int)≤(i:Int)):aC Tp 0 aHa (lT l2 sk0 dc1 o4 m5 t6 i sk.length (sk.flatten.map aA)) (.exit 0) (lT l2 sk0 dc1 o4 m5 t6 i sk.length (sk.flatten.map aA)):=by
 exact aC.fin (g:=⟨(rng [(0,4),(8,3),(36,1),(38,12),(53,14)]),[0,1,2,3,4],[],[]⟩) (o:=[bF]) (l:=[_]) (by kernel_rfl) (gc (bG h0) gn)
theorem aVv{sk0 dc1 sk'8:Lqq}{o9:List Int}{j:Nat}{dc:Lqq}{x200 y201 y202 y203 y204 y205 y206:Int}{j':Nat}(h0:(j:Int)<(o9.length:Int))(h1:o9[j]? = some x200)(h2:dc1[x200.toNat]? = some [y201,y202,y203,y204,y205,y206])(h3:0≤x200)(h4:uni 6 dc1)(h5:cB (30:Int) sk'8 dc)(h6:cB (30:Int) sk'8 (dc++[[y201,y202,y203,y204,y205,y206]]))(h7:inR (((dc.length+1):Nat):Int))(h8:(((dc++[[y201,y202,y203,y204,y205,y206]]).length:Nat):Int)=(((dc.length+1):Nat):Int))(h9:inR (((j+1):Nat):Int))(ej':j'=(j+1)):aC Tp 0 (sub (cd Tryz.f10) [1,1,1,1,1,0,1,0,0]) (pA sk0 dc1 sk'8 o9 j dc) .normal (pA sk0 dc1 sk'8 o9 j' (dc++[[y201,y202,y203,y204,y205,y206]])):=by
 subst ej';exact aC.fin (g:=⟨(rng [(0,5),(6,1),(8,6),(36,1),(38,33),(74,27)]),[0,1,2],[],[]⟩) (o:=[bT,.x (aA x200),.x (dcE y201 y202 y203 y204 y205 y206),.c (.tup [(.p (.agg (cL 30 sk'8 (dc++[[y201,y202,y203,y204,y205,y206]])))),(pI 0)]) [],bF,bF,bF,bF,bF,bF,bF,bF,bF,bF]) (l:=[_,_,_,_,_,_,_,_,_,_,_,_,_,_,_,0≤x200∧x200<(dc1.length:Int)∧(x200.toNat*6)<(dc1.flatten.map aA).length,_,_,_]) (by kernel_rfl) (gc h9 (gc (cG h8) (g2c kW (gc h7 (g7c kW (gc (fk 3 (bOi (30:Int) sk'8 dc y201 y202 y203 y204 y205 y206 h5 h6) rfl) (gc (aS (i:=x200.toNat) h4 h2) (gc (bH (i:=x200.toNat) h4 h2) (gc (bR (k:=6) (i:=x200) (by decide) h4 h3 h2) (gc (atm aA h1) (gc (bP (i:=(j:Int)) (kQ2 _) h1) (gc (aY h0) gn))))))))))))
theorem aVw{sk0 dc1 sk'8:Lqq}{o9:List Int}{j:Nat}{dc:Lqq}(h0:(o9.length:Int)≤(j:Int)):aC Tp 0 (sub (cd Tryz.f10) [1,1,1,1,1,0,1,0,0]) (pA sk0 dc1 sk'8 o9 j dc) (.exit 2) (pA sk0 dc1 sk'8 o9 j dc):=by
 exact aC.fin (g:=⟨(rng [(0,5),(6,1),(8,6),(36,1),(38,33),(74,27)]),[0,1,2],[],[]⟩) (o:=[bF]) (l:=[_]) (by kernel_rfl) (gc (bG h0) gn)
def dI(sk0:Lqq)(dc1:Lqq)(n:Nat)(y300:Int)(y301:Int)(y302:Int)(t306:Int)(o307:Bool)(v:Nat)(p:Int):St:=⟨fr 329 [(5,(.ptr 0 0)),(14,(.own 1)),(30,(pI (n:Int))),(31,(.ptr 2 0)),(32,(pI t306)),(33,(pB o307)),(34,(pI 0)),(35,(pI p)),(203,(.own 1)),(204,(pI (((bN (30:Int) [] (aB dc1) (aB sk0)).length:Nat):Int))),(205,(pI (n:Int))),(206,(pB (decide ((n:Int)<(((bN (30:Int) [] (aB dc1) (aB sk0)).length:Nat):Int))))),(207,(pI (n:Int))),(208,(.ptr 1 (n*3))),(209,(.p (.agg [(aA y300),(aA y301),(aA y302)]))),(210,(.tup [(pI t306),(pB o307),(pI 0)])),(211,(.p (.agg (cL 30 sk0 dc1)))),(212,(.ptr 2 0)),(213,(pI y300)),(214,(.tup [(pI t306),(pB o307),(pI 0)])),(215,(pI t306)),(216,(pB o307)),(217,(pI 0)),(218,(.own 1)),(219,(pI (((bN (30:Int) [] (aB dc1) (aB sk0)).length:Nat):Int))),(220,(pI (v:Int)))],[some (.box 26 [(pI 30),(.p (fS sk0)),(.p (fS dc1))]),some (.row 48 ((bN (30:Int) [] (aB dc1) (aB sk0)).length) ((bN (30:Int) [] (aB dc1) (aB sk0)).flatten.map aA)),some (.box 48 [(pI y300),(pI y301),(pI y302)])]⟩
theorem aVx{sk0 dc1:Lqq}{n:Nat}{y300 y301 y302:Int}{i303:Nat}{s304 s305 t306:Int}{o307:Bool}{v'308:Nat}{p'309 y310 y311 y312:Int}{n':Nat}(h0:(n:Int)<(((bN (30:Int) [] (aB dc1) (aB sk0)).length:Nat):Int))(h1:(bN (30:Int) [] (aB dc1) (aB sk0))[n]? = some [y300,y301,y302])(h2:uni 3 (bN (30:Int) [] (aB dc1) (aB sk0)))(h3:cB (30:Int) sk0 dc1)(h4:rB (aB sk0) y300=(i303:Int))(h5:(aB sk0)[i303]? = some [s304,s305])(h6:eU (30:Int) [] (aB dc1) s304 s305=(t306,o307))(hl7:aI Tp 0 mY (dI sk0 dc1 n y300 y301 y302 t306 o307 0 (1:Int)) (.exit 6) (dI sk0 dc1 n y300 y301 y302 t306 o307 v'308 p'309))(h8:o307=true)(h9:t306=y302)(h10:y301=(-1:Int))(h11:(0:Int)<(n:Int))(h12:inR ((n:Int)-1))(h13:(bN (30:Int) [] (aB dc1) (aB sk0))[((n:Int)-1).toNat]? = some [y310,y311,y312])(h14:0≤((n:Int)-1))(h15:y311=(-1:Int))(h16:y310<y300)(h17:inR (((n+1):Nat):Int))(en':n'=(n+1)):aC Tp 0 qP (eQ sk0 dc1 n) .normal (eQ sk0 dc1 n'):=by
 subst en';exact aC.fin (g:=⟨(rng [(0,5),(6,8),(15,188),(206,122)]),[0,1],[],[]⟩) (o:=[bT,.x (.agg [(aA y300),(aA y301),(aA y302)]),.c (.tup [(pI t306),(pB o307),(pI 0)]) [],.k 6 ⟨(rng [(0,4),(6,8),(15,15),(36,167),(221,16)]),[0,1,2],[],[]⟩ (.exit 6) (dI sk0 dc1 n y300 y301 y302 t306 o307 v'308 p'309),bT,bF,bF,bF,bF,bF,bF,bF,bF,bF,bF,bF,bF,bF,bT,bF,bT,bF,bT,bT,bT,bT,bT,bT,.x (aA y311),bT,bF,bT,bF,bT,bT,bT,bT,bT,bT,.x (aA y310),bT,bT,bT,bF,bT,bF,bF,bF,bF,bT,bT,bF,bT,bF,bF,bF,bF,bF,bF,bF,bF,bF,bF,bF,bF,bF,bF,bF]) (l:=[_,_,_,_,_,_,_,_,_,_,_,_,_,_,_,_,_,_,_,_,_,_,_,_,_,_,_,_,_,((bN (30:Int) [] (aB dc1) (aB sk0)).flatten.map aA)[(((n:Int)-1).toNat*3)]? = some (aA y310),_,_,_,_,_,_,_,_,_,_,_,_,((bN (30:Int) [] (aB dc1) (aB sk0)).flatten.map aA)[((((n:Int)-1).toNat*3)+1)]? = some (aA y311),_,_,_,_,_,_,_,_,_,_,_,_,_,_,_,_,_,_,_,_,_,_,_,_,_,_,_,_,_,_,_,_]) (by kernel_rfl) (gc h17 (gc (kP h16) (gc (aV h8) (gc (kP h16) (g8c (aV h8) (g3c (aV h8) (gc (kP h16) (gc (aY h11) (gc (kP h16) (g2c (aY h11) (g3c (kP h16) (gc (cG h10) (gc (dR h15) (gc (cG h10) (g3c (dR h15) (gc (dM (i:=((n:Int)-1).toNat) (f:=0) h2 h13 rfl) (g2c (dR h15) (gc (bP (i:=((n:Int)-1)) h14 h13) (gc (dR h15) (gc h12 (g3c (dR h15) (gc (cG h10) (gc h8 (gc (cG h10) (gc h8 (gc (dM (i:=((n:Int)-1).toNat) (f:=1) h2 h13 rfl) (g2c h8 (gc (bP (i:=((n:Int)-1)) h14 h13) (gc h8 (gc h12 (g3c h8 (gc (cG h10) (gc (aY h11) (gc (cG h10) (gc (aY h11) (g3c (cG h10) (g5c (cG h9) (g5c kW (gc h8 (gc hl7.code (gc (fk 3 (wH h3 h4 h5 h6) rfl) (gc (aS (i:=n) h2 h1) (gc (bH (i:=n) h2 h1) (gc (bP (i:=(n:Int)) (kQ2 _) h1) (gc (aY h0) gn)))))))))))))))))))))))))))))))))))))))))))))
theorem aVy{sk0 dc1:Lqq}{n:Nat}{y300 y301 y302:Int}{i303:Nat}{s304 s305 t306:Int}{o307:Bool}{v'308:Nat}{p'309 y310 y311 y312:Int}{n':Nat}(h0:(n:Int)<(((bN (30:Int) [] (aB dc1) (aB sk0)).length:Nat):Int))(h1:(bN (30:Int) [] (aB dc1) (aB sk0))[n]? = some [y300,y301,y302])(h2:uni 3 (bN (30:Int) [] (aB dc1) (aB sk0)))(h3:cB (30:Int) sk0 dc1)(h4:rB (aB sk0) y300=(i303:Int))(h5:(aB sk0)[i303]? = some [s304,s305])(h6:eU (30:Int) [] (aB dc1) s304 s305=(t306,o307))(hl7:aI Tp 0 mY (dI sk0 dc1 n y300 y301 y302 t306 o307 0 (1:Int)) (.exit 6) (dI sk0 dc1 n y300 y301 y302 t306 o307 v'308 p'309))(h8:o307=true)(h9:t306=y302)(h10:y301=(-1:Int))(h11:(0:Int)<(n:Int))(h12:inR ((n:Int)-1))(h13:(bN (30:Int) [] (aB dc1) (aB sk0))[((n:Int)-1).toNat]? = some [y310,y311,y312])(h14:0≤((n:Int)-1))(h15:y311≠(-1:Int))(h16:inR (((n+1):Nat):Int))(en':n'=(n+1)):aC Tp 0 qP (eQ sk0 dc1 n) .normal (eQ sk0 dc1 n'):=by
 subst en';exact aC.fin (g:=⟨(rng [(0,5),(6,8),(15,188),(206,122)]),[0,1],[],[]⟩) (o:=[bT,.x (.agg [(aA y300),(aA y301),(aA y302)]),.c (.tup [(pI t306),(pB o307),(pI 0)]) [],.k 6 ⟨(rng [(0,4),(6,8),(15,15),(36,167),(221,16)]),[0,1,2],[],[]⟩ (.exit 6) (dI sk0 dc1 n y300 y301 y302 t306 o307 v'308 p'309),bT,bF,bF,bF,bF,bF,bF,bF,bF,bF,bF,bF,bF,bF,bT,bF,bT,bF,bT,bT,bT,bT,bT,bT,.x (aA y311),bT,bF,bT,bF,bF,bF,bF,bF,bF,bF,bF,bF,bF,bF,bF,bF,bT,bT,bT,bF,bF,bF,bF,bF,bF,bF,bF,bF,bF,bF,bF]) (l:=[_,_,_,_,_,_,_,_,_,_,_,_,_,_,_,_,_,_,_,_,_,_,_,_,_,_,_,_,_,_,_,_,((bN (30:Int) [] (aB dc1) (aB sk0)).flatten.map aA)[((((n:Int)-1).toNat*3)+1)]? = some (aA y311),_,_,_,_,_,_,_,_,_,_,_,_,_,_,_,_,_,_,_,_,_,_,_,_,_,_,_,_,_,_,_,_]) (by kernel_rfl) (gc h16 (g8c (aV h8) (g4c (aV h8) (g3c (aY h11) (gc (cG h10) (gc (bI h15) (gc (cG h10) (g8c (bI h15) (gc (bI h15) (gc (cG h10) (gc h8 (gc (cG h10) (gc h8 (gc (dM (i:=((n:Int)-1).toNat) (f:=1) h2 h13 rfl) (g2c h8 (gc (bP (i:=((n:Int)-1)) h14 h13) (gc h8 (gc h12 (g3c h8 (gc (cG h10) (gc (aY h11) (gc (cG h10) (gc (aY h11) (g3c (cG h10) (g5c (cG h9) (g5c kW (gc h8 (gc hl7.code (gc (fk 3 (wH h3 h4 h5 h6) rfl) (gc (aS (i:=n) h2 h1) (gc (bH (i:=n) h2 h1) (gc (bP (i:=(n:Int)) (kQ2 _) h1) (gc (aY h0) gn)))))))))))))))))))))))))))))))))
theorem aOc{sk0 dc1:Lqq}{n:Nat}{y300 y301 y302:Int}{i303:Nat}{s304 s305 t306:Int}{o307:Bool}{v'308:Nat}{p'309:Int}{n':Nat}(h0:(n:Int)<(((bN (30:Int) [] (aB dc1) (aB sk0)).length:Nat):Int))(h1:(bN (30:Int) [] (aB dc1) (aB sk0))[n]? = some [y300,y301,y302])(h2:uni 3 (bN (30:Int) [] (aB dc1) (aB sk0)))(h3:cB (30:Int) sk0 dc1)(h4:rB (aB sk0) y300=(i303:Int))(h5:(aB sk0)[i303]? = some [s304,s305])(h6:eU (30:Int) [] (aB dc1) s304 s305=(t306,o307))(hl7:aI Tp 0 mY (dI sk0 dc1 n y300 y301 y302 t306 o307 0 (1:Int)) (.exit 6) (dI sk0 dc1 n y300 y301 y302 t306 o307 v'308 p'309))(h8:o307=true)(h9:t306=y302)(h10:y301=(-1:Int))(h11:(n:Int)≤0)(h12:inR (((n+1):Nat):Int))(en':n'=(n+1)):aC Tp 0 qP (eQ sk0 dc1 n) .normal (eQ sk0 dc1 n'):=by
 subst en';exact aC.fin (g:=⟨(rng [(0,5),(6,8),(15,188),(206,122)]),[0,1],[],[]⟩) (o:=[bT,.x (.agg [(aA y300),(aA y301),(aA y302)]),.c (.tup [(pI t306),(pB o307),(pI 0)]) [],.k 6 ⟨(rng [(0,4),(6,8),(15,15),(36,167),(221,16)]),[0,1,2],[],[]⟩ (.exit 6) (dI sk0 dc1 n y300 y301 y302 t306 o307 v'308 p'309),bT,bF,bF,bF,bF,bF,bF,bF,bF,bF,bF,bF,bF,bF,bF,bF,bF,bF,bF,bF,bF,bF,bF,bF,bF]) (l:=[_,_,_,_,_,_,_,_,_,_,_,_,_,_,_,_,_,_,_,_,_,_,_,_,_,_,_,_,_,_,_,_]) (by kernel_rfl) (gc h12 (g3c (bG h11) (g5c (cG h10) (gc (bG h11) (gc (cG h10) (gc (bG h11) (g3c (cG h10) (g5c (cG h9) (g5c kW (gc h8 (gc hl7.code (gc (fk 3 (wH h3 h4 h5 h6) rfl) (gc (aS (i:=n) h2 h1) (gc (bH (i:=n) h2 h1) (gc (bP (i:=(n:Int)) (kQ2 _) h1) (gc (aY h0) gn))))))))))))))))
theorem aOd{sk0 dc1:Lqq}{n:Nat}{y300 y301 y302:Int}{i303:Nat}{s304 s305 t306:Int}{o307:Bool}{v'308:Nat}{p'309 y310 y311 y312:Int}{n':Nat}(h0:(n:Int)<(((bN (30:Int) [] (aB dc1) (aB sk0)).length:Nat):Int))(h1:(bN (30:Int) [] (aB dc1) (aB sk0))[n]? = some [y300,y301,y302])(h2:uni 3 (bN (30:Int) [] (aB dc1) (aB sk0)))(h3:cB (30:Int) sk0 dc1)(h4:rB (aB sk0) y300=(i303:Int))(h5:(aB sk0)[i303]? = some [s304,s305])(h6:eU (30:Int) [] (aB dc1) s304 s305=(t306,o307))(hl7:aI Tp 0 mY (dI sk0 dc1 n y300 y301 y302 t306 o307 0 (1:Int)) (.exit 6) (dI sk0 dc1 n y300 y301 y302 t306 o307 v'308 p'309))(h8:o307=false)(h9:t306=y302)(h10:y301=p'309)(h11:(0:Int)<(n:Int))(h12:inR ((n:Int)-1))(h13:(bN (30:Int) [] (aB dc1) (aB sk0))[((n:Int)-1).toNat]? = some [y310,y311,y312])(h14:0≤((n:Int)-1))(h15:y311≠(-1:Int))(h16:y312≤t306)(h17:y312=t306)(h18:y310<y300)(h19:inR (((n+1):Nat):Int))(en':n'=(n+1)):aC Tp 0 qP (eQ sk0 dc1 n) .normal (eQ sk0 dc1 n'):=by
 subst en'
 exact aC.fin (g:=⟨(rng [(0,5),(6,8),(15,188),(206,122)]),[0,1],[],[]⟩) (o:=[bT,.x (.agg [(aA y300),(aA y301),(aA y302)]),.c (.tup [(pI t306),(pB o307),(pI 0)]) [],.k 6 ⟨(rng [(0,4),(6,8),(15,15),(36,167),(221,16)]),[0,1,2],[],[]⟩ (.exit 6) (dI sk0 dc1 n y300 y301 y302 t306 o307 v'308 p'309),bF,bF,bF,bF,bF,bF,bF,bF,bF,bF,bF,bF,bF,bF,bT,bF,bT,bF,bF,bF,bF,bF,bF,bF,bF,bF,bF,bF,bF,bF,bT,bT,bT,bT,bT,bT,bT,bT,bT,.x (aA y311),bT,bT,bF,bF,bF,bF,bF,bF,.x (aA y312),bF,bF,bT,bF,bT,bF,bF,bF,bF,bF,bF,.x (aA y312),bF,bF,bF,bT,bT,bT,bT,bT,bT,.x (aA y310),bT,bT,bT,bF,bT,bT,bF,bT,bF]) (l:=[_,_,_,_,_,_,_,_,_,_,((bN (30:Int) [] (aB dc1) (aB sk0)).flatten.map aA)[(((n:Int)-1).toNat*3)]? = some (aA y310),_,_,_,_,_,_,_,_,_,_,_,((bN (30:Int) [] (aB dc1) (aB sk0)).flatten.map aA)[((((n:Int)-1).toNat*3)+2)]? = some (aA y312),_,_,_,_,_,_,_,_,_,_,_,_,_,((bN (30:Int) [] (aB dc1) (aB sk0)).flatten.map aA)[((((n:Int)-1).toNat*3)+2)]? = some (aA y312),_,_,_,_,_,_,_,_,_,_,((bN (30:Int) [] (aB dc1) (aB sk0)).flatten.map aA)[((((n:Int)-1).toNat*3)+1)]? = some (aA y311),_,_,_,_,_,_,_,_,_,_,_,_,_,_,_,_,_,_,_,_,_,_,_,_,_,_,_,_,_,_,_,_,_,_,_,_,_,_,_,_,_,_,_,_,_,_,_]) (by kernel_rfl) (gc h19 (gc (kP h18) (gc (bU h8) (gc (bG h16) (gc (bU h8) (gc (dR h17) (gc (bG h16) (g3c (dR h17) (gc (dM (i:=((n:Int)-1).toNat) (f:=0) h2 h13 rfl) (g2c (dR h17) (gc (bP (i:=((n:Int)-1)) h14 h13) (gc (dR h17) (gc h12 (g3c (dR h17) (g3c (bG h16) (gc (dM (i:=((n:Int)-1).toNat) (f:=2) h2 h13 rfl) (g2c (bG h16) (gc (bP (i:=((n:Int)-1)) h14 h13) (gc (bG h16) (gc h12 (g3c (bG h16) (gc (bU h8) (gc (bI h15) (gc (bU h8) (g2c (bI h15) (gc (dM (i:=((n:Int)-1).toNat) (f:=2) h2 h13 rfl) (g2c (bI h15) (gc (bP (i:=((n:Int)-1)) h14 h13) (gc (bI h15) (gc h12 (g3c (bI h15) (g2c (bU h8) (gc (dM (i:=((n:Int)-1).toNat) (f:=1) h2 h13 rfl) (g2c (bU h8) (gc (bP (i:=((n:Int)-1)) h14 h13) (gc (bU h8) (gc h12 (g3c (bU h8) (g3c (aY h11) (g3c (cG h10) (gc h8 (gc (cG h10) (g7c h8 (gc (cG h10) (gc (aY h11) (gc (cG h10) (gc (aY h11) (g3c (cG h10) (g5c (cG h9) (g5c kW (gc h8 (gc hl7.code (gc (fk 3 (wH h3 h4 h5 h6) rfl) (gc (aS (i:=n) h2 h1) (gc (bH (i:=n) h2 h1) (gc (bP (i:=(n:Int)) (kQ2 _) h1) (gc (aY h0) gn)))))))))))))))))))))))))))))))))))))))))))))))))))))))))
theorem aOe{sk0 dc1:Lqq}{n:Nat}{y300 y301 y302:Int}{i303:Nat}{s304 s305 t306:Int}{o307:Bool}{v'308:Nat}{p'309 y310 y311 y312:Int}{n':Nat}(h0:(n:Int)<(((bN (30:Int) [] (aB dc1) (aB sk0)).length:Nat):Int))(h1:(bN (30:Int) [] (aB dc1) (aB sk0))[n]? = some [y300,y301,y302])(h2:uni 3 (bN (30:Int) [] (aB dc1) (aB sk0)))(h3:cB (30:Int) sk0 dc1)(h4:rB (aB sk0) y300=(i303:Int))(h5:(aB sk0)[i303]? = some [s304,s305])(h6:eU (30:Int) [] (aB dc1) s304 s305=(t306,o307))(hl7:aI Tp 0 mY (dI sk0 dc1 n y300 y301 y302 t306 o307 0 (1:Int)) (.exit 6) (dI sk0 dc1 n y300 y301 y302 t306 o307 v'308 p'309))(h8:o307=false)(h9:t306=y302)(h10:y301=p'309)(h11:(0:Int)<(n:Int))(h12:inR ((n:Int)-1))(h13:(bN (30:Int) [] (aB dc1) (aB sk0))[((n:Int)-1).toNat]? = some [y310,y311,y312])(h14:0≤((n:Int)-1))(h15:y311≠(-1:Int))(h16:y312≤t306)(h17:y312≠t306)(h18:inR (((n+1):Nat):Int))(en':n'=(n+1)):aC Tp 0 qP (eQ sk0 dc1 n) .normal (eQ sk0 dc1 n'):=by
 subst en'
 exact aC.fin (g:=⟨(rng [(0,5),(6,8),(15,188),(206,122)]),[0,1],[],[]⟩) (o:=[bT,.x (.agg [(aA y300),(aA y301),(aA y302)]),.c (.tup [(pI t306),(pB o307),(pI 0)]) [],.k 6 ⟨(rng [(0,4),(6,8),(15,15),(36,167),(221,16)]),[0,1,2],[],[]⟩ (.exit 6) (dI sk0 dc1 n y300 y301 y302 t306 o307 v'308 p'309),bF,bF,bF,bF,bF,bF,bF,bF,bF,bF,bF,bF,bF,bF,bT,bF,bT,bF,bF,bF,bF,bF,bF,bF,bF,bF,bF,bF,bF,bF,bT,bT,bT,bT,bT,bT,bT,bT,bT,.x (aA y311),bT,bT,bF,bF,bF,bF,bF,bF,.x (aA y312),bF,bF,bT,bF,bT,bF,bF,bF,bF,bF,bF,.x (aA y312),bF,bF,bF,bF,bF,bF,bF,bF,bF,bF,bF,bF,bF,bF,bT,bF,bT]) (l:=[_,_,_,_,_,_,_,_,_,_,_,_,_,_,_,_,_,_,((bN (30:Int) [] (aB dc1) (aB sk0)).flatten.map aA)[((((n:Int)-1).toNat*3)+2)]? = some (aA y312),_,_,_,_,_,_,_,_,_,_,_,_,_,((bN (30:Int) [] (aB dc1) (aB sk0)).flatten.map aA)[((((n:Int)-1).toNat*3)+2)]? = some (aA y312),_,_,_,_,_,_,_,_,_,_,((bN (30:Int) [] (aB dc1) (aB sk0)).flatten.map aA)[((((n:Int)-1).toNat*3)+1)]? = some (aA y311),_,_,_,_,_,_,_,_,_,_,_,_,_,_,_,_,_,_,_,_,_,_,_,_,_,_,_,_,_,_,_,_,_,_,_,_,_,_,_,_,_,_,_,_,_,_,_]) (by kernel_rfl) (gc h18 (gc (bU h8) (gc (bG h16) (gc (bU h8) (gc (bI h17) (gc (bG h16) (g8c (bI h17) (gc (bI h17) (g3c (bG h16) (gc (dM (i:=((n:Int)-1).toNat) (f:=2) h2 h13 rfl) (g2c (bG h16) (gc (bP (i:=((n:Int)-1)) h14 h13) (gc (bG h16) (gc h12 (g3c (bG h16) (gc (bU h8) (gc (bI h15) (gc (bU h8) (g2c (bI h15) (gc (dM (i:=((n:Int)-1).toNat) (f:=2) h2 h13 rfl) (g2c (bI h15) (gc (bP (i:=((n:Int)-1)) h14 h13) (gc (bI h15) (gc h12 (g3c (bI h15) (g2c (bU h8) (gc (dM (i:=((n:Int)-1).toNat) (f:=1) h2 h13 rfl) (g2c (bU h8) (gc (bP (i:=((n:Int)-1)) h14 h13) (gc (bU h8) (gc h12 (g3c (bU h8) (g3c (aY h11) (g3c (cG h10) (gc h8 (gc (cG h10) (g7c h8 (gc (cG h10) (gc (aY h11) (gc (cG h10) (gc (aY h11) (g3c (cG h10) (g5c (cG h9) (g5c kW (gc h8 (gc hl7.code (gc (fk 3 (wH h3 h4 h5 h6) rfl) (gc (aS (i:=n) h2 h1) (gc (bH (i:=n) h2 h1) (gc (bP (i:=(n:Int)) (kQ2 _) h1) (gc (aY h0) gn)))))))))))))))))))))))))))))))))))))))))))))))))))
theorem aOf{sk0 dc1:Lqq}{n:Nat}{y300 y301 y302:Int}{i303:Nat}{s304 s305 t306:Int}{o307:Bool}{v'308:Nat}{p'309:Int}{n':Nat}(h0:(n:Int)<(((bN (30:Int) [] (aB dc1) (aB sk0)).length:Nat):Int))(h1:(bN (30:Int) [] (aB dc1) (aB sk0))[n]? = some [y300,y301,y302])(h2:uni 3 (bN (30:Int) [] (aB dc1) (aB sk0)))(h3:cB (30:Int) sk0 dc1)(h4:rB (aB sk0) y300=(i303:Int))(h5:(aB sk0)[i303]? = some [s304,s305])(h6:eU (30:Int) [] (aB dc1) s304 s305=(t306,o307))(hl7:aI Tp 0 mY (dI sk0 dc1 n y300 y301 y302 t306 o307 0 (1:Int)) (.exit 6) (dI sk0 dc1 n y300 y301 y302 t306 o307 v'308 p'309))(h8:o307=false)(h9:t306=y302)(h10:y301=p'309)(h11:(n:Int)≤0)(h12:inR (((n+1):Nat):Int))(en':n'=(n+1)):aC Tp 0 qP (eQ sk0 dc1 n) .normal (eQ sk0 dc1 n'):=by
 subst en';exact aC.fin (g:=⟨(rng [(0,5),(6,8),(15,188),(206,122)]),[0,1],[],[]⟩) (o:=[bT,.x (.agg [(aA y300),(aA y301),(aA y302)]),.c (.tup [(pI t306),(pB o307),(pI 0)]) [],.k 6 ⟨(rng [(0,4),(6,8),(15,15),(36,167),(221,16)]),[0,1,2],[],[]⟩ (.exit 6) (dI sk0 dc1 n y300 y301 y302 t306 o307 v'308 p'309),bF,bF,bF,bF,bF,bF,bF,bF,bF,bF,bF,bF,bF,bF,bF,bF,bF,bF,bF,bF,bF,bF,bF,bF,bF]) (l:=[_,_,_,_,_,_,_,_,_,_,_,_,_,_,_,_,_,_,_,_,_,_,_,_,_,_,_,_,_,_,_,_]) (by kernel_rfl) (gc h12 (g3c (bG h11) (g5c (cG h10) (gc (bG h11) (gc (cG h10) (gc (bG h11) (g3c (cG h10) (g5c (cG h9) (g5c kW (gc h8 (gc hl7.code (gc (fk 3 (wH h3 h4 h5 h6) rfl) (gc (aS (i:=n) h2 h1) (gc (bH (i:=n) h2 h1) (gc (bP (i:=(n:Int)) (kQ2 _) h1) (gc (aY h0) gn))))))))))))))))
theorem aOg{sk0 dc1:Lqq}{n:Nat}(h0:(((bN (30:Int) [] (aB dc1) (aB sk0)).length:Nat):Int)≤(n:Int)):aC Tp 0 qP (eQ sk0 dc1 n) (.exit 4) (eQ sk0 dc1 n):=by
 exact aC.fin (g:=⟨(rng [(0,5),(6,8),(15,188),(206,122)]),[0,1],[],[]⟩) (o:=[bF]) (l:=[_]) (by kernel_rfl) (gc (bG h0) gn)
theorem aVz{sk0 dc1:Lqq}{n:Nat}{y300 y301 y302 t306:Int}{o307:Bool}{v:Nat}{p y400 y401 y402:Int}{v':Nat}{p':Int}(h0:(v:Int)<(((bN (30:Int) [] (aB dc1) (aB sk0)).length:Nat):Int))(h1:(bN (30:Int) [] (aB dc1) (aB sk0))[v]? = some [y400,y401,y402])(h2:uni 3 (bN (30:Int) [] (aB dc1) (aB sk0)))(h3:y401≠(-1:Int))(h4:y402<y302)(h5:inR (p+1))(h6:inR (((v+1):Nat):Int))(ev':v'=(v+1))(ep':p'=(p+1)):aC Tp 0 mY (dI sk0 dc1 n y300 y301 y302 t306 o307 v p) .normal (dI sk0 dc1 n y300 y301 y302 t306 o307 v' p'):=by
 subst ev' ep';exact aC.fin (g:=⟨(rng [(0,4),(6,8),(15,15),(36,167),(221,16)]),[0,1,2],[],[]⟩) (o:=[bT,.x (.agg [(aA y400),(aA y401),(aA y402)]),bT,bT,bT,bT,bT,bT,bT]) (l:=[_,_,_,_,_,_,_,_,_,_,_,_,_]) (by kernel_rfl) (gc h6 (gc h5 (gc (aY h4) (g6c (nX h3) (gc (aS (i:=v) h2 h1) (gc (bH (i:=v) h2 h1) (gc (bP (i:=(v:Int)) (kQ2 _) h1) (gc (aY h0) gn))))))))
theorem aWa{sk0 dc1:Lqq}{n:Nat}{y300 y301 y302 t306:Int}{o307:Bool}{v:Nat}{p y400 y401 y402:Int}{v':Nat}(h0:(v:Int)<(((bN (30:Int) [] (aB dc1) (aB sk0)).length:Nat):Int))(h1:(bN (30:Int) [] (aB dc1) (aB sk0))[v]? = some [y400,y401,y402])(h2:uni 3 (bN (30:Int) [] (aB dc1) (aB sk0)))(h3:y401≠(-1:Int))(h4:y302≤y402)(h5:inR (((v+1):Nat):Int))(ev':v'=(v+1)):aC Tp 0 mY (dI sk0 dc1 n y300 y301 y302 t306 o307 v p) .normal (dI sk0 dc1 n y300 y301 y302 t306 o307 v' p):=by
 subst ev';exact aC.fin (g:=⟨(rng [(0,4),(6,8),(15,15),(36,167),(221,16)]),[0,1,2],[],[]⟩) (o:=[bT,.x (.agg [(aA y400),(aA y401),(aA y402)]),bT,bT,bT,bT,bT,bT,bF]) (l:=[_,_,_,_,_,_,_,_,_,_,_,_]) (by kernel_rfl) (gc h5 (gc (bG h4) (g6c (nX h3) (gc (aS (i:=v) h2 h1) (gc (bH (i:=v) h2 h1) (gc (bP (i:=(v:Int)) (kQ2 _) h1) (gc (aY h0) gn)))))))
theorem aWb{sk0 dc1:Lqq}{n:Nat}{y300 y301 y302 t306:Int}{o307:Bool}{v:Nat}{p y400 y401 y402:Int}{v':Nat}(h0:(v:Int)<(((bN (30:Int) [] (aB dc1) (aB sk0)).length:Nat):Int))(h1:(bN (30:Int) [] (aB dc1) (aB sk0))[v]? = some [y400,y401,y402])(h2:uni 3 (bN (30:Int) [] (aB dc1) (aB sk0)))(h3:y401=(-1:Int))(h4:inR (((v+1):Nat):Int))(ev':v'=(v+1)):aC Tp 0 mY (dI sk0 dc1 n y300 y301 y302 t306 o307 v p) .normal (dI sk0 dc1 n y300 y301 y302 t306 o307 v' p):=by
 subst ev';exact aC.fin (g:=⟨(rng [(0,4),(6,8),(15,15),(36,167),(221,16)]),[0,1,2],[],[]⟩) (o:=[bT,.x (.agg [(aA y400),(aA y401),(aA y402)]),bF,bF,bF,bF,bF,bF]) (l:=[_,_,_,_,_,_,_,_,_,_,_]) (by kernel_rfl) (gc h4 (g6c (cG h3) (gc (aS (i:=v) h2 h1) (gc (bH (i:=v) h2 h1) (gc (bP (i:=(v:Int)) (kQ2 _) h1) (gc (aY h0) gn))))))
theorem aWc{sk0 dc1:Lqq}{n:Nat}{y300 y301 y302 t306:Int}{o307:Bool}{v:Nat}{p:Int}(h0:(((bN (30:Int) [] (aB dc1) (aB sk0)).length:Nat):Int)≤(v:Int)):aC Tp 0 mY (dI sk0 dc1 n y300 y301 y302 t306 o307 v p) (.exit 6) (dI sk0 dc1 n y300 y301 y302 t306 o307 v p):=by
 exact aC.fin (g:=⟨(rng [(0,4),(6,8),(15,15),(36,167),(221,16)]),[0,1,2],[],[]⟩) (o:=[bF]) (l:=[_]) (by kernel_rfl) (gc (bG h0) gn)
end
section

theorem aCq(n:Int)(l:List Int)(nx st:Int):(nZ n l nx st).1.Perm (upL n.toNat)∧nx≤(nZ n l nx st).2.1∧(nZ n l nx st).2.1≤nx+(n.toNat:Int):=by
 have h:=aBh l (n.toNat-1) (upL n.toNat) nx st (by unfold upL;rw [kQ9,aNy];omega)
 refine ⟨h.1,h.2.1,?_⟩;have:=h.2.2;unfold nZ;omega
def oH(sk:Lqq)(o:List Int):Lqq:=o.map fun x=>sk.getD x.toNat []
theorem aFv{sk:Lqq}{o:List Int}(h:o.Perm (upL sk.length)):(oH sk o).Perm sk:=by
 have h1:oH sk (upL sk.length)=sk:=by
  unfold oH upL;rw [qO];apply List.ext_getElem
  ·simp
  ·intro i h1 h2
   rw [lG,List.getElem_range];show sk.getD ((i:Int)).toNat []=_;rw [aNz,kQ4,kQ0 h2];rfl
 have:=h.map fun x:Int=>sk.getD x.toNat []
 unfold oH at h1 ⊢
 rw [h1] at this
 exact this
theorem aTt{o:List Int}{n i:Nat}{x:Int}(h:o.Perm (upL n))(hx:o[i]? = some x):0≤x∧x.toNat<n:=by
 have:=h.mem_iff.1 (kQ5 hx);unfold upL at this
 obtain ⟨a,ha,rfl⟩:=eK.1 this;have:=rV.1 ha;omega
theorem aTu(n:Nat):(upL n).length=n:=by unfold upL;simp
theorem cB.sub{dl:Int}{sk dc sk' dc' r:Lqq}(h:cB dl sk dc)(hs:sk'.Perm sk)(hd:(dc'++r).Perm dc):cB dl sk' dc':=by
 have hm:∀ x∈dc',x∈dc:=fun x hx=>hd.mem_iff.1 (iH.2 (.inl hx))
 have hl:=hd.length_eq;rw [mD] at hl
 have hc:∀ n,(aJ sk' 0).contains n=(aJ sk 0).contains n:=fun n=>by
  rw [Bool.eq_iff_iff,List.contains_iff_mem,List.contains_iff_mem];exact (hs.map fun x=>x.getD 0 0).mem_iff
 have hnd:(aJ dc' 0).Nodup:=by
  have h1:=(hd.map fun x:List Int=>x.getD 0 0).nodup_iff.2 h.nd
  rw [gI] at h1
  exact (List.nodup_append.1 h1).1
 have hl2:=h.len2;exact ⟨fun x hx=>h.us x (hs.mem_iff.1 hx),fun x hx=>h.ud x (hm x hx),by rw [hs.length_eq];exact h.len,by omega,h.hdl,fun x hx=>h.hsk x (hs.mem_iff.1 hx),fun x hx=>h.hdc x (hm x hx),
  (hs.map fun x:List Int=>x.getD 0 0).nodup_iff.2 h.ns,hnd,fun x hx=>by
   have:=h.inb x (hm x hx);unfold inB at this ⊢
   rw [hc];exact this,fun x hx=>h.ord x (hm x hx)⟩
theorem sJ{l l':Lqq}(hn:(aJ l 0).Nodup)(hp:l'.Perm l):aB l'=aB l:=aBl hn ((eR l').trans hp) (lH l')

theorem bGz{α:Type}{Q:List α→Prop}(h0:Q [])(hs:∀ l x,Q l→Q (l++[x]))(l:List α):Q l:=by
 have key:∀ r:List α,Q r.reverse:=fun r=>by
  induction r with
  | nil=>exact h0
  | cons a r ih=>rw [List.reverse_cons];exact hs _ _ ih
 have:=key l.reverse
 rwa [List.reverse_reverse] at this
def mG(L:Lqq)(t:Int):Nat:=(L.filter fun x=>decide (x.getD 2 0<t)).length
theorem aFw(L:Lqq)(x:List Int)(t:Int):mG (L++[x]) t=mG L t+if x.getD 2 0<t then 1 else 0:=by
 unfold mG;rw [rU,mD]
 congr 1
 by_cases h:x.getD 2 0<t
 ·rw [if_pos h,List.filter_cons,if_pos (decide_eq_true h)];rfl
 ·rw [if_neg h,List.filter_cons,if_neg (by rw [decide_eq_false h];simp)];rfl
theorem bHa(L:Lqq):L.Pairwise (fun a b=>a.getD 2 0≤b.getD 2 0)→iW L=L.map fun x=>[x.getD 0 0,(mG L (x.getD 2 0):Int)+1,x.getD 2 0]:=by
 refine bGz (Q:=fun L=>L.Pairwise (fun a b=>a.getD 2 0≤b.getD 2 0)→iW L=L.map fun x=>[x.getD 0 0,(mG L (x.getD 2 0):Int)+1,x.getD 2 0]) (fun _=>rfl) (fun l x ih hp => ?_) L
 obtain ⟨h1,_,h3⟩:=List.pairwise_append.1 hp;have h4:∀ a∈l,a.getD 2 0≤x.getD 2 0:=fun a ha=>h3 a ha x (by simp)
 have e:iW (l++[x])=iW l++[[x.getD 0 0,plN (iW l) (x.getD 2 0),x.getD 2 0]]:=by
  unfold iW;rw [aGw];rfl
 rw [e,ih h1,gI]
 congr 1
 ·refine yN fun y hy => ?_
  rw [aFw,if_neg (by have:=h4 y hy;omega)];rfl
 ·have hx:mG (l++[x]) (x.getD 2 0)=mG l (x.getD 2 0):=by rw [aFw,if_neg (by omega)];rfl
  show [[x.getD 0 0,plN _ (x.getD 2 0),x.getD 2 0]]=[[x.getD 0 0,(mG (l++[x]) (x.getD 2 0):Int)+1,x.getD 2 0]];rw [hx]
  congr 3
  rcases List.eq_nil_or_concat l with rfl | ⟨m,y,rfl⟩
  ·rfl
  ·rw [List.concat_eq_append] at *
   unfold plN;rw [gI,iI,List.map_nil,List.getLast?_concat];show (if y.getD 2 0=x.getD 2 0 then (mG (m++[y]) (y.getD 2 0):Int)+1 else _)=_
   by_cases hc:y.getD 2 0=x.getD 2 0
   ·rw [if_pos hc,hc]
   ·rw [if_neg hc]
    have h5:=h4 y (by simp)
    have h6:mG (m++[y]) (x.getD 2 0)=(m++[y]).length:=by
     unfold mG;rw [List.filter_eq_self.2];intro a ha;refine decide_eq_true ?_
     rcases iH.1 ha with ha | ha
     ·have:=(List.pairwise_append.1 h1).2.2 a ha y (by simp)
      omega
     ·obtain rfl:a=y:=by simpa using ha
      omega
    rw [h6];simp
section
variable {dl:Int} {oc:List Int} {sk dc:Lqq}
def bNh(a b:List Int):Prop:=(b.getD 1 0 = -1→a.getD 1 0 = -1→a.getD 0 0<b.getD 0 0)∧(b.getD 1 0 ≠ -1→a.getD 1 0 ≠ -1∧a.getD 2 0≤b.getD 2 0∧(a.getD 2 0=b.getD 2 0→a.getD 0 0<b.getD 0 0))
def inL(t:Int)(y:List Int):Bool:=decide (y.getD 1 0 ≠ -1∧y.getD 2 0<t)
theorem bHb(hs:sk.Pairwise fun a b=>a.getD 0 0<b.getD 0 0) :
  (bN dl oc dc sk).Pairwise bNh ∧
  (∀ y∈bN dl oc dc sk,y.getD 1 0 ≠ -1→y.getD 1 0=1+(((bN dl oc dc sk).filter (inL (y.getD 2 0))).length:Int)) ∧
  (∀ y∈bN dl oc dc sk,∃ s∈sk,s.getD 0 0=y.getD 0 0∧eU dl oc dc (sB s) (sT s)=(y.getD 2 0,decide (y.getD 1 0 = -1))):=by
 have hI0:(iL dl oc dc sk).Pairwise fun a b=>a.getD 0 0<b.getD 0 0:=by
  unfold iL;rw [List.pairwise_map];exact (hs.sublist List.filter_sublist)
 have hO:(gT dl oc dc sk).Pairwise fun a b=>a.getD 0 0<b.getD 0 0:=by
  unfold gT;rw [List.pairwise_map];exact (hs.sublist List.filter_sublist)
 have s1:=aIh (f:=fun x:List Int=>x.getD 2 0) (fun x y=>bGf 2 x y) (iL dl oc dc sk)
 have s2:=aIi (f:=fun x:List Int=>x.getD 2 0) (g:=fun x:List Int=>x.getD 0 0) (fun x y=>bGf 2 x y) (iL dl oc dc sk) hI0
 have hpl:=bHa _ s1;have hmI:∀ x,x∈isort (ltK 2) (iL dl oc dc sk)→x∈iL dl oc dc sk:=fun x hx=>(xB _ _ x).1 hx
 have e:bN dl oc dc sk=((isort (ltK 2) (iL dl oc dc sk)).map fun x=>[x.getD 0 0,(mG (isort (ltK 2) (iL dl oc dc sk)) (x.getD 2 0):Int)+1,x.getD 2 0])++gT dl oc dc sk:=by
  unfold bN;rw [hpl]
 generalize isort (ltK 2) (iL dl oc dc sk)=I at s1 s2 hmI e
 have o1:∀ y∈gT dl oc dc sk,y.getD 1 0 = -1:=fun y hy=>by
  unfold gT at hy
  obtain ⟨s,_,rfl⟩:=eK.1 hy;rfl
 refine ⟨?_,?_,?_⟩
 ·rw [e]
  refine List.pairwise_append.2 ⟨?_,?_,?_⟩
  ·rw [List.pairwise_map]
   refine s2.imp fun {a b} h => ?_
   refine ⟨fun h1=>absurd h1 ?_,fun _=>⟨?_,?_,?_⟩⟩
   ·show (mG I (b.getD 2 0):Int)+1 ≠ -1
    omega
   ·show (mG I (a.getD 2 0):Int)+1 ≠ -1
    omega
   ·show a.getD 2 0≤b.getD 2 0
    omega
   ·show a.getD 2 0=b.getD 2 0→a.getD 0 0<b.getD 0 0
    omega
  ·refine hO.imp_of_mem fun {a b} ha hb h=>⟨fun _ _=>h,fun h1=>absurd (o1 b hb) h1⟩
  ·intro a ha b hb
   obtain ⟨x,_,rfl⟩:=eK.1 ha;refine ⟨fun _ h1=>absurd h1 ?_,fun h1=>absurd (o1 b hb) h1⟩
   show (mG I (x.getD 2 0):Int)+1 ≠ -1;omega
 ·have hc:∀ t,((bN dl oc dc sk).filter (inL t)).length=mG I t:=fun t=>by
   rw [e,rU,mD];have z:(gT dl oc dc sk).filter (inL t)=[]:=by
    rw [List.filter_eq_nil_iff];intro y hy;unfold inL;rw [o1 y hy];simp
   rw [z,List.filter_map,kQ9];unfold mG;rw [List.length_nil,Nat.add_zero]
   congr 1
   refine List.filter_congr fun x _ => ?_
   show decide ((mG I (x.getD 2 0):Int)+1 ≠ -1∧x.getD 2 0<t)=decide (x.getD 2 0<t)
   by_cases hx:x.getD 2 0<t
   ·rw [decide_eq_true hx,decide_eq_true ⟨by omega,hx⟩]
   ·rw [decide_eq_false hx,decide_eq_false fun h=>hx h.2]
  intro y hy h1;rw [hc];rw [e] at hy
  rcases iH.1 hy with hy | hy
  ·obtain ⟨x,_,rfl⟩:=eK.1 hy
   show (mG I (x.getD 2 0):Int)+1=1+(mG I (x.getD 2 0):Int);omega
  ·exact absurd (o1 y hy) h1
 ·intro y hy
  rw [e] at hy
  rcases iH.1 hy with hy | hy
  ·obtain ⟨x,hx,rfl⟩:=eK.1 hy
   have hx':=hmI x hx;unfold iL at hx'
   obtain ⟨s,hs',rfl⟩:=eK.1 hx';obtain ⟨m1,m2⟩:=aGx.1 hs';refine ⟨s,m1,rfl,?_⟩;have m3:(eU dl oc dc (sB s) (sT s)).2=false:=by simpa using m2
   have m4:(decide ((mG I (eU dl oc dc (sB s) (sT s)).1:Int)+1 = -1))=false:=decide_eq_false (by omega)
   show eU dl oc dc (sB s) (sT s)=((eU dl oc dc (sB s) (sT s)).1,decide ((mG I (eU dl oc dc (sB s) (sT s)).1:Int)+1 = -1));rw [m4];exact Prod.ext rfl m3
  ·unfold gT at hy
   obtain ⟨s,hs',rfl⟩:=eK.1 hy;obtain ⟨m1,m2⟩:=aGx.1 hs';refine ⟨s,m1,rfl,?_⟩;show eU dl oc dc (sB s) (sT s)=(0,true);unfold eU at m2 ⊢
   split at m2
   ·rename_i h;rw [if_pos h]
   ·cases m2
end
theorem aTv(t:Int):∀ (l:Lqq) (p:Int),l.foldl (fun p y=>if inL t y=true then p+1 else p) p=p+((l.filter (inL t)).length:Int)
 | [],p=>by simp
 | y::l,p=>by
  rw [wF,aTv t l]
  by_cases h:inL t y=true
  ·rw [if_pos h,List.filter_cons_of_pos h,tC];omega
  ·rw [if_neg h,List.filter_cons_of_neg h]
theorem bUs{sk:Lqq}(hn:(aJ sk 0).Nodup){s:List Int}(hs:s∈sk):∃ i:Nat,rB sk (s.getD 0 0)=(i:Int)∧sk[i]? = some s:=by
 rcases bBc sk (s.getD 0 0) with ⟨i,x,h1,h2,h3⟩ | ⟨_,h2⟩
 ·exact ⟨i,h1,by rw [h2,aSj hn (kQ5 h2) hs h3]⟩
 ·exact absurd (eK.2 ⟨s,hs,rfl⟩) h2
end
section

theorem aVs{sk0 dc1:Lqq}{n:Nat}{a b c t:Int}{o:Bool}(hl:(bN (30:Int) [] (aB dc1) (aB sk0)).length≤30) :
  aI Tp 0 (sub (cd Tryz.f10) [1,1,1,1,1,1,1,1,1,1,1,1,1,1,1,0,1,0,0,1,1,0,0,1,1,1,0,1,0,0]) (dI sk0 dc1 n a b c t o 0 (1:Int)) (.exit 6) (dI sk0 dc1 n a b c t o (bN (30:Int) [] (aB dc1) (aB sk0)).length (1+(((bN (30:Int) [] (aB dc1) (aB sk0)).filter (inL c)).length:Int))):=by
 have h:=aI.range (P:=Tp) (k:=0) (b:=sub (cd Tryz.f10) [1,1,1,1,1,1,1,1,1,1,1,1,1,1,1,0,1,0,0,1,1,0,0,1,1,1,0,1,0,0]) (e := .exit 6) (fun v (p:Int)=>dI sk0 dc1 n a b c t o v p) (fun p=>dI sk0 dc1 n a b c t o (bN (30:Int) [] (aB dc1) (aB sk0)).length p) (fun p y=>if inL c y=true then p+1 else p) (fun i p=>1≤p∧p≤1+(i:Int)) (by simp) (bN (30:Int) [] (aB dc1) (aB sk0)) (a0:=1) ⟨by omega,by omega⟩
  (fun i y p hy hI=>by
   obtain ⟨hI1,hI2⟩:=hI;have hi:=bC hy;obtain ⟨y0,y1,y2,rfl⟩:=len3 (mB _ (kQ5 hy));have hin:inR (((i+1):Nat):Int):=aO (by omega)
   by_cases h1:y1 = -1
   ·have:inL c [y0,y1,y2]=false:=decide_eq_false fun h=>h.1 h1
    rw [this,if_neg (by simp)]
    exact ⟨⟨by omega,by omega⟩,aWb (by omega) hy mB h1 hin rfl⟩
   ·by_cases h2:y2<c
    ·have:inL c [y0,y1,y2]=true:=decide_eq_true ⟨h1,h2⟩
     rw [this,if_pos rfl];exact ⟨⟨by omega,by omega⟩,aVz (by omega) hy mB h1 h2 (by unfold inR;omega) hin rfl rfl⟩
    ·have:inL c [y0,y1,y2]=false:=decide_eq_false fun h=>h2 h.2
     rw [this,if_neg (by simp)]
     exact ⟨⟨by omega,by omega⟩,aWa (by omega) hy mB h1 (by omega) hin rfl⟩)
  (fun p hI=>aWc (by omega))
 rw [aTv] at h
 exact h
theorem bHy{sk0 dc1:Lqq}(h:cB 30 sk0 dc1){n:Nat}(hn:n<(bN (30:Int) [] (aB dc1) (aB sk0)).length) :
  aC Tp 0 (sub (cd Tryz.f10) [1,1,1,1,1,1,1,1,1,1,1,1,1,1,1,0,1,0,0]) (eQ sk0 dc1 n) .normal (eQ sk0 dc1 (n+1)):=by
 have hsk:(aB sk0).Pairwise fun a b=>a.getD 0 0<b.getD 0 0:=by
  have h1:=lH sk0;have h2:(aB sk0).Pairwise fun a b=>a.getD 0 0≠b.getD 0 0:=by
   have:=yA h.ns;unfold aJ at this
   exact List.pairwise_map.1 this
  exact (h1.and h2).imp fun {a b} h=>by have:=h.1;have:=h.2;omega
 obtain ⟨q1,q2,q3⟩:=bHb (dl:=30) (dc:=aB dc1) hsk;have hu:uni 3 (bN (30:Int) [] (aB dc1) (aB sk0)):=mB;have hlen:(bN (30:Int) [] (aB dc1) (aB sk0)).length≤30:=by
  have:=h.len;rw [show (bN (30:Int) [] (aB dc1) (aB sk0)).length=sk0.length by rw [aMd,eO]]
  omega
 have hm:=eY hn;obtain ⟨a,b,c,hy⟩:=len3 (hu _ hm);have hx:(bN (30:Int) [] (aB dc1) (aB sk0))[n]? = some [a,b,c]:=by rw [kQ0 hn,hy]
 rw [hy] at hm
 obtain ⟨s,s1,s2,s3⟩:=q3 _ hm;obtain ⟨i,p1,p2⟩:=bUs (yA h.ns) s1;obtain ⟨s0,s9,rfl⟩:=len2 (fA h.us _ s1);have p1':rB (aB sk0) a=(i:Int):=by
  rw [s2] at p1
  exact p1
 have hpl:=aVs (n:=n) (a:=a) (b:=b) (c:=c) (t:=c) (o:=decide (b = -1)) hlen;have hin:inR (((n+1):Nat):Int):=aO (by omega)
 have hq2:=q2 _ hm;have s3':eU 30 [] (aB dc1) s0 s9=(c,decide (b = -1)):=s3;have prev:0<n→∃ a' b' c',(bN (30:Int) [] (aB dc1) (aB sk0))[((n:Int)-1).toNat]? = some [a',b',c']∧bNh [a',b',c'] [a,b,c]:=fun h0=>by
  have hn1:n-1<(bN (30:Int) [] (aB dc1) (aB sk0)).length:=by omega
  obtain ⟨a',b',c',hy'⟩:=len3 (hu _ (eY hn1));refine ⟨a',b',c',by rw [show ((n:Int)-1).toNat=n-1 by omega,kQ0 hn1,hy'],?_⟩
  have:=List.pairwise_iff_getElem.1 q1 (n-1) n hn1 hn (by omega)
  rw [hy,hy'] at this
  exact this
 by_cases hb:b = -1
 ·rw [decide_eq_true hb] at s3' hpl
  rcases Nat.eq_zero_or_pos n with h0 | h0
  ·exact aOc (by omega) hx hu h p1' p2 s3' hpl rfl rfl hb (by omega) hin rfl
  ·obtain ⟨a',b',c',hx',hR⟩:=prev h0
   by_cases hb':b' = -1
   ·exact aVx (by omega) hx hu h p1' p2 s3' hpl rfl rfl hb (by omega) (by unfold inR;omega) hx' (by omega) hb' (hR.1 hb hb') hin rfl
   ·exact aVy (by omega) hx hu h p1' p2 s3' hpl rfl rfl hb (by omega) (by unfold inR;omega) hx' (by omega) hb' hin rfl
 ·rw [decide_eq_false hb] at s3' hpl
  have hp:b=1+(((bN (30:Int) [] (aB dc1) (aB sk0)).filter (inL c)).length:Int):=hq2 hb
  rcases Nat.eq_zero_or_pos n with h0 | h0
  ·exact aOf (by omega) hx hu h p1' p2 s3' hpl rfl rfl hp (by omega) hin rfl
  ·obtain ⟨a',b',c',hx',hR⟩:=prev h0
   obtain ⟨r1,r2,r3⟩:=hR.2 hb;have r2':c'≤c:=r2
   by_cases hc:c'=c
   ·exact aOd (by omega) hx hu h p1' p2 s3' hpl rfl rfl hp (by omega) (by unfold inR;omega) hx' (by omega) r1 r2' hc (r3 hc) hin rfl
   ·exact aOe (by omega) hx hu h p1' p2 s3' hpl rfl rfl hp (by omega) (by unfold inR;omega) hx' (by omega) r1 r2' hc hin rfl
theorem wG(g:Int→List Int):∀ (l:List Int) (a:Lqq),l.foldl (fun a x=>a++[g x]) a=a++l.map g
 | [],a=>by simp
 | x::l,a=>by rw [wF,wG g l];simp
theorem bNt(hA:∀ {base:Nat},FV Tp 26 [] base (.p (blP true)) [])(l1 l2:List Int){base:Nat}:FV Tp 10 [.p (.sl l1.length (l1.map aN)),.p (.sl l2.length (l2.map aN))] base (.p (blP true)) []:=by
 have M:=aKo (ns:=8) (nd:=20) (l:=l1) (nx:=0) (st:=17) (by decide) (by decide) (by decide)
 rcases hmd:bDg 8 20 l1 0 17 with ⟨sk0,dc1,m2,t3⟩
 rw [hmd] at M
 obtain ⟨hr,hl8,hl20,_⟩:=M;dsimp only at hr hl8 hl20
 have S1:=aCq (sk0.length:Int) l2 0 17
 rcases hs1:nZ (sk0.length:Int) l2 0 17 with ⟨o4,m5,t6⟩
 rw [hs1,aNz] at S1
 obtain ⟨P1,P2,P3⟩:=S1;dsimp only at P1 P2 P3
 have S2:=aCq (dc1.length:Int) l2 m5 t6
 rcases hs2:nZ (dc1.length:Int) l2 m5 t6 with ⟨o9,m10,t11⟩
 rw [hs2,aNz] at S2
 obtain ⟨P4,_,_⟩:=S2;dsimp only at P4
 have K1:=aFv P1;have K2:=aFv P4;have n1:o4.length=sk0.length:=by rw [P1.length_eq,aTu]
 have n2:o9.length=dc1.length:=by rw [P4.length_eq,aTu]
 have e1:aB (oH sk0 o4)=aB sk0:=sJ hr.ns K1;have e2:aB (oH dc1 o9)=aB dc1:=sJ hr.nd K2;have hL0:=aI.range (P:=Tp) (k:=0) (b:=sub (cd Tryz.f10) [1,1,1,1,0,1,0,0]) (e := .exit 0) (fun i (a:Lqq)=>lT l2 sk0 dc1 o4 m5 t6 i a.length (a.flatten.map aA)) (fun a=>lT l2 sk0 dc1 o4 m5 t6 o4.length a.length (a.flatten.map aA)) (fun a x=>a++[sk0.getD x.toNat []]) (fun i a=>a.length=i) (by simp) o4 (a0:=[]) rfl
  (fun i x a hx hI=>by
   obtain ⟨g1,g2⟩:=aTt P1 hx;have hi:=bC hx;obtain ⟨y1,y2,hy⟩:=len2 (hr.us _ (eY g2));have g3:sk0[x.toNat]? = some [y1,y2]:=by rw [kQ0 g2,hy]
   have g4:sk0.getD x.toNat []=[y1,y2]:=by rw [kQ4,g3];rfl
   rw [g4];exact ⟨by simp [hI],aVt (by omega) hx g3 g1 hr.us ⟨rfl,by omega⟩ (aO (by omega)) rfl (by simp) (by simp)⟩)
  (fun a hI=>aVu (by omega))
 rw [wG,List.nil_append] at hL0
 have hpre:∀ j,cB 30 (oH sk0 o4) (oH dc1 (o9.take j)):=fun j=>hr.sub (r:=oH dc1 (o9.drop j)) K1 (by
  unfold oH;rw [← gI,aNx];exact K2)
 have hL1:=aI.range (P:=Tp) (k:=0) (b:=sub (cd Tryz.f10) [1,1,1,1,1,0,1,0,0]) (e := .exit 2) (fun j (a:Lqq)=>pA sk0 dc1 (oH sk0 o4) o9 j a) (fun a=>pA sk0 dc1 (oH sk0 o4) o9 o9.length a) (fun a x=>a++[dc1.getD x.toNat []]) (fun j a=>a=oH dc1 (o9.take j)) (by simp) o9 (a0:=[]) rfl
  (fun j x a hx hI=>by
   obtain ⟨g1,g2⟩:=aTt P4 hx;have hi:=bC hx;obtain ⟨y1,y2,y3,y4,y5,y6,hy⟩:=len6 (hr.ud _ (eY g2));have g3:dc1[x.toNat]? = some [y1,y2,y3,y4,y5,y6]:=by rw [kQ0 g2,hy]
   have g4:dc1.getD x.toNat []=[y1,y2,y3,y4,y5,y6]:=by rw [kQ4,g3];rfl
   rw [g4];have g5:a++[[y1,y2,y3,y4,y5,y6]]=oH dc1 (o9.take (j+1)):=by
    rw [hI,List.take_add_one,hx];unfold oH;rw [gI]
    congr 1
    show _=[dc1.getD x.toNat []];rw [g4]
   have g6:a.length≤1000:=by
    rw [hI];unfold oH;rw [kQ9,mX];have:=hr.len2;omega
   have g7:=hr.len2;refine ⟨g5,aVv (by omega) hx g3 g1 hr.ud (by rw [hI];exact hpre j) (by rw [g5];exact hpre (j+1)) (aO (by omega)) (by simp) (aO (by omega)) rfl⟩)
  (fun a hI=>aVw (by omega))
 rw [wG,List.nil_append] at hL1
 have hr':cB 30 (oH sk0 o4) (oH dc1 o9):=by
  have:=hpre o9.length
  rwa [List.take_length] at this
 have hL2:=aI.count (P:=Tp) (k:=0) (b:=sub (cd Tryz.f10) [1,1,1,1,1,1,1,1,1,1,1,1,1,1,1,0,1,0,0]) (e := .exit 4) (R:=eQ sk0 dc1 (bN (30:Int) [] (aB dc1) (aB sk0)).length) (bN (30:Int) [] (aB dc1) (aB sk0)).length (fun n=>eQ sk0 dc1 n) (fun n hn=>bHy hr hn) (aOg (by omega)) (by simp)
 have hrl:(bN (30:Int) [] (aB dc1) (aB sk0)).length=sk0.length:=by rw [aMd,eO]
 have hd:=gM hr;have w1:(gB (cU (30:Int) [] (aB dc1)) (aB dc1)).length≤1000:=by
  unfold gB;rw [kQ9];have:=wD (cU (30:Int) [] (aB dc1)) (aB dc1);have:=hd.len;omega
 have ll:=hr.len2;exact bNu (sk'8:=oH sk0 o4) (dc'13:=oH dc1 o9) (by omega) (by omega) (by omega) hmd (by omega) (by omega) hs1 hL0 (by omega) (by omega) hs2 hL1 hr (by omega) hr' (by rw [K1.length_eq];omega) mB mB (by omega)
  (decide_eq_true (by rw [e1,e2])) w1 (decide_eq_true (by rw [e2])) (aFu hd) (decide_eq_true (by rw [e2])) ⟨fA hr.us,by rw [eO];omega⟩ ⟨fA hr.ud,by rw [eO];omega⟩ (fA hr'.us) (fA hr'.ud)
  (decide_eq_true ⟨rfl,e1.symm,e2.symm⟩) (by rw [hrl]) hL2 hA
end
end KV
end Go.Proofs
