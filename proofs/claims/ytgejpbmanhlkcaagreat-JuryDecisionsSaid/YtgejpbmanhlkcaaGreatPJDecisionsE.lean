/- Parts of the proof of JDecisions: laws of walks, contracts of functions, plain models. No condition. -/
import Derived.Sort.LoopGhostIn
import Derived.Lib.OwnBridge
import Derived.Shelf.Slices.Clone
import Derived.Shelf.Small.Bits
import Derived.Shelf.Small.Wraps
import Derived.Shelf.Strconv.Itoa0
import Derived.Shelf.Sort.Plain
import Derived.Shelf.Slices.Turned
import Derived.Ground.Names2Prog
import Derived.Shelf.Slices.CompactI
import Derived.Shelf.Slices.SearchI
import Derived.Shelf.Slices.Cells
import Derived.Shelf.Slices.In.SortNone
import Derived.Ground.SlgnProg
import Derived.Shelf.SlicesE.Clone
import Derived.Test.YtgejpbmanhlkcaaGreatProg
import Derived.Sort.OwnSortedInts
import Derived.OneCell
import Derived.Test.YtgejpbmanhlkcaaGreatPJDecisionsD
set_option linter.unusedVariables false
set_option linter.unusedSimpArgs false
set_option maxRecDepth 100000
namespace Go.Proofs
namespace KV
section
variable {dl:Int}{sk dc:Lqq}

noncomputable abbrev rT:Code:=sub (cd Tryz.f86) [1,1,1,1,0,1,0,0]
noncomputable abbrev xL:Code:=sub (cd Tryz.f86) [1,1,0,1,0,0]
noncomputable abbrev xM:Code:=sub (cd Tryz.f129) [1,0,1,0,0]
noncomputable abbrev aIt:Code:=sub (cd Tryz.f21) [1,1,1,1,1,0,1,0,0]
theorem bJg:((0:Int) != (0:Int))=false:=by first | decide | simp
theorem aCw{cs:List PV}{a b:Nat}{v x:PV}(hn:a≠b)(h:cs[b]? = some x):(cs.set a v)[b]? = some x:=by rw [bKn hn];exact h
def ocB(q:List Int)(n:Int):Bool:=q.contains n
abbrev bYg(dl:Int)(sk dc:Lqq)(ov:PV)(R:Lqq)(T T2:Lqb):Prop:=FMM Tp 86 [oU dl sk dc,fP] (dG dl sk dc ov T) (.own 7) (dG dl sk dc ov T2++[some (.row 48 R.length (R.flatten.map aA))])
def jP(dl:Int)(sk:Lqq)(dc:Lqq)(ov:PV)(pn:Nat)(pc:List PV)(qn:Nat)(qc:List PV)(i:Nat)(te:List (Value × PV))(tk:Nat):St:=⟨fr 87 [(0,(.rp (aI dl sk dc) 0)),(3,(.ptr 7 0)),(4,(.p bI)),(5,(.own 8)),(6,(.own 9)),(16,(.p (fS sk))),(17,(pI (sk.length:Int))),(18,(pI (i:Int)))],[some (vB0 dl sk dc),some (.box 33 [(.p ov)]),some vB2,some (.mp te tk),some (.box 207 [(.mp 3)]),some (vB5 dl sk dc),some vB6,some vB2,some (.row 48 pn pc),some (.row 48 qn qc)]⟩
def fG(dl:Int)(sk:Lqq)(dc:Lqq)(ov:PV)(p'0:Lqq)(q'1:Lqq)(t'3:Lqb)(Ln:Nat)(Lc:List PV)(j:Nat):St:=⟨fr 87 [(4,(.p bI)),(5,(.own 7)),(6,(.own 8)),(47,(pI (((isort (ltK 2) p'0).length:Nat):Int))),(48,(pI (j:Int)))],[some (vB0 dl sk dc),some (.box 33 [(.p ov)]),some vB2,some (.mp (aF t'3) t'3.length),some (.box 207 [(.mp 3)]),some (vB5 dl sk dc),some vB6,some (.row 48 Ln Lc),some (.row 48 q'1.length (q'1.flatten.map aA))]⟩
theorem bYh{ov:PV}{T:Lqb}{p'0 q'1:Lqq}{i'2:Nat}{t'3:Lqb}{L'4:Lqq}{j'5 r0n:Nat}{r0c:List PV}(hl0:aE Tp 7 xL (jP dl sk dc ov 0 [] 0 [] 0 (aF T) T.length) (.exit 0) (jP dl sk dc ov p'0.length (p'0.flatten.map aA) q'1.length (q'1.flatten.map aA) i'2 (aF t'3) t'3.length))(h1:uni 3 p'0)(h2:p'0.length<20)(hl3:aE Tp 7 rT (fG dl sk dc ov p'0 q'1 t'3 ((isort (ltK 2) p'0).length) ((isort (ltK 2) p'0).flatten.map aA) 0) (.exit 2) (fG dl sk dc ov p'0 q'1 t'3 L'4.length (L'4.flatten.map aA) j'5))(h4:(q'1.flatten.map aA).length=q'1.length*3∧L'4.length+q'1.length≤1000000)(er0n:r0n=(L'4.length+q'1.length))(er0c:r0c=((L'4.flatten.map aA)++(q'1.flatten.map aA))):FMM Tp 86 [(.rp (aI dl sk dc) 0),fP] (dG dl sk dc ov T) (.own 7) [some (vB0 dl sk dc),some (.box 33 [(.p ov)]),some vB2,some (.mp (aF t'3) t'3.length),some (.box 207 [(.mp 3)]),some (vB5 dl sk dc),some vB6,some (.row 48 r0n r0c)]:=by
 subst er0n er0c;exact FMM.fin (k:=7) (g:=⟨[],[9],[],[]⟩) rfl Tryz.func86 rfl (o:=[.x (fS sk),.k 1 ⟨(rng [(1,2),(7,4),(12,4),(19,25),(45,1)]),[7,8,9],[],[(5,48),(6,48)]⟩ (.exit 0) (jP dl sk dc ov p'0.length (p'0.flatten.map aA) q'1.length (q'1.flatten.map aA) i'2 (aF t'3) t'3.length),.c (.tup []) [(8,(.row 48 ((isort (ltK 2) p'0).length) ((isort (ltK 2) p'0).flatten.map aA)))],.k 4 ⟨(rng [(0,4),(7,40),(49,35)]),[8,9],[],[]⟩ (.exit 2) (fG dl sk dc ov p'0 q'1 t'3 L'4.length (L'4.flatten.map aA) j'5)]) (l:=[_,_,FC Tp 151 [(.own 8),(.fn 152 [] [])] [(8,(.row 48 p'0.length (p'0.flatten.map aA)))] 10 (.tup []) [(8,(.row 48 ((isort (ltK 2) p'0).length) ((isort (ltK 2) p'0).flatten.map aA)))],_,(aI dl sk dc)[1]? = some (fS sk)]) (by kernel_rfl) (gc h4 (gc hl3.code (gc (FMM.fc (ids:=[8]) (bYu p'0 h1 h2) (by kernel_rfl)) (gc hl0.code (gc rfl gn)))))
theorem bDz{ov:PV}{p q:Lqq}{i:Nat}{t:Lqb}{y100 y101 n102:Int}{b103:Bool}{T104:Lqb}{q':Lqq}{i':Nat}{t':Lqb}(h0:(i:Int)<(sk.length:Int))(h1:sk[i]? = some [y100,y101])(h2:uni 2 sk)(h3:aDq dl sk dc ov [y100,y101] n102 b103 t T104)(h4:b103=true)(h5:[(aA y100),(aA (-1:Int)),(aA 0)].length=1*3∧q.length+1≤1000000)(h6:inR (((i+1):Nat):Int))(eq'n:q'.length=(q.length+1))(eq'c:q'.flatten.map aA=((q.flatten.map aA)++[(aA y100),(aA (-1:Int)),(aA 0)]))(ei':i'=(i+1))(et'e:aF t'=(aF T104))(et'k:t'.length=T104.length):aC Tp 7 xL (jP dl sk dc ov p.length (p.flatten.map aA) q.length (q.flatten.map aA) i (aF t) t.length) .normal (jP dl sk dc ov p.length (p.flatten.map aA) q'.length (q'.flatten.map aA) i' (aF t') t'.length):=by
 subst ei';have raw:aC Tp 7 xL (jP dl sk dc ov p.length (p.flatten.map aA) q.length (q.flatten.map aA) i (aF t) t.length) .normal (jP dl sk dc ov p.length (p.flatten.map aA) (q.length+1) ((q.flatten.map aA)++[(aA y100),(aA (-1:Int)),(aA 0)]) (i+1) (aF T104) T104.length):=aC.fin (g:=⟨(rng [(1,2),(7,4),(12,4),(19,25),(45,1)]),[7,8,12],[],[]⟩) (o:=[bT,.x (.agg [(aA y100),(aA y101)]),.c (.tup [(pI n102),(pB b103)]) (vU dl sk dc ov T104),bT]) (l:=[_,_,[(aA y100),(aA (-1:Int)),(aA 0)].length=3,_,FC Tp 134 [(.rp (aI dl sk dc) 0),(.p (.agg [(aA y100),(aA y101)])),fP] [(4,(.box 207 [(.mp 3)])),(5,(vB5 dl sk dc)),(0,(vB0 dl sk dc)),(2,vB2),(6,vB6),(1,(.box 33 [(.p ov)])),(3,(.mp (aF t) t.length))] 11 (.tup [(pI n102),(pB b103)]) (vU dl sk dc ov T104),_,_,0≤(i:Int)∧(i:Int)<(sk.length:Int)∧(i*2)<(sk.flatten.map aA).length,_]) (by kernel_rfl) (gc h6 (gc h5 (gc (by first | decide | simp) (gc h4 (gc (FMM.fc (ids:=[0,1,2,3,4,5,6]) h3 (by kernel_rfl)) (gc (aL (i:=i) h2 h1) (gc (aW (i:=i) h2 h1) (gc (aV (k:=2) (i:=(i:Int)) (by decide) h2 (kQ1 _) h1) (gc (aQ h0) gn)))))))))
 exact raw.cast (by rw [eq'n,eq'c,et'e,et'k])
theorem bEa{ov:PV}{p q:Lqq}{i:Nat}{t:Lqb}{y100 y101 n102:Int}{b103:Bool}{T104:Lqb}{p':Lqq}{i':Nat}{t':Lqb}(h0:(i:Int)<(sk.length:Int))(h1:sk[i]? = some [y100,y101])(h2:uni 2 sk)(h3:aDq dl sk dc ov [y100,y101] n102 b103 t T104)(h4:b103=false)(h5:[(aA y100),(aA 0),(aA n102)].length=1*3∧p.length+1≤1000000)(h6:inR (((i+1):Nat):Int))(ep'n:p'.length=(p.length+1))(ep'c:p'.flatten.map aA=((p.flatten.map aA)++[(aA y100),(aA 0),(aA n102)]))(ei':i'=(i+1))(et'e:aF t'=(aF T104))(et'k:t'.length=T104.length):aC Tp 7 xL (jP dl sk dc ov p.length (p.flatten.map aA) q.length (q.flatten.map aA) i (aF t) t.length) .normal (jP dl sk dc ov p'.length (p'.flatten.map aA) q.length (q.flatten.map aA) i' (aF t') t'.length):=by
 subst ei';have raw:aC Tp 7 xL (jP dl sk dc ov p.length (p.flatten.map aA) q.length (q.flatten.map aA) i (aF t) t.length) .normal (jP dl sk dc ov (p.length+1) ((p.flatten.map aA)++[(aA y100),(aA 0),(aA n102)]) q.length (q.flatten.map aA) (i+1) (aF T104) T104.length):=aC.fin (g:=⟨(rng [(1,2),(7,4),(12,4),(19,25),(45,1)]),[7,12,9],[],[]⟩) (o:=[bT,.x (.agg [(aA y100),(aA y101)]),.c (.tup [(pI n102),(pB b103)]) (vU dl sk dc ov T104),bF]) (l:=[_,_,[(aA y100),(aA 0),(aA n102)].length=3,_,FC Tp 134 [(.rp (aI dl sk dc) 0),(.p (.agg [(aA y100),(aA y101)])),fP] [(4,(.box 207 [(.mp 3)])),(5,(vB5 dl sk dc)),(0,(vB0 dl sk dc)),(2,vB2),(6,vB6),(1,(.box 33 [(.p ov)])),(3,(.mp (aF t) t.length))] 11 (.tup [(pI n102),(pB b103)]) (vU dl sk dc ov T104),_,_,0≤(i:Int)∧(i:Int)<(sk.length:Int)∧(i*2)<(sk.flatten.map aA).length,_]) (by kernel_rfl) (gc h6 (gc h5 (gc (by first | decide | simp) (gc h4 (gc (FMM.fc (ids:=[0,1,2,3,4,5,6]) h3 (by kernel_rfl)) (gc (aL (i:=i) h2 h1) (gc (aW (i:=i) h2 h1) (gc (aV (k:=2) (i:=(i:Int)) (by decide) h2 (kQ1 _) h1) (gc (aQ h0) gn)))))))))
 exact raw.cast (by rw [ep'n,ep'c,et'e,et'k])
theorem bEb{ov:PV}{p q:Lqq}{i:Nat}{t:Lqb}(h0:(sk.length:Int)≤(i:Int)):aC Tp 7 xL (jP dl sk dc ov p.length (p.flatten.map aA) q.length (q.flatten.map aA) i (aF t) t.length) (.exit 0) (jP dl sk dc ov p.length (p.flatten.map aA) q.length (q.flatten.map aA) i (aF t) t.length):=by
 exact aC.fin (g:=⟨(rng [(1,2),(7,4),(12,4),(19,25),(45,1)]),[7,8,9],[],[]⟩) (o:=[bF]) (l:=[_]) (by kernel_rfl) (gc (aR h0) gn)
theorem bEc{ov:PV}{p'0 q'1:Lqq}{t'3:Lqb}{L:Lqq}{j:Nat}{y200 y201 y202 y203 y204 y205:Int}{L':Lqq}{j':Nat}(h0:(j:Int)<(((isort (ltK 2) p'0).length:Nat):Int))(h1:inR (((j+1):Nat):Int))(h2:L[j]? = some [y200,y201,y202])(h3:((j*3)+1)<(L.flatten.map aA).length)(h4:(0:Int)<(j:Int))(h5:uni 3 L)(h6:inR ((j:Int)-1))(h7:L[((j:Int)-1).toNat]? = some [y203,y204,y205])(h8:0≤((j:Int)-1))(h9:y202=y205)(h10:((j*3)+1)<((L.flatten.map aA).set ((j*3)+1) (aA (((j+1):Nat):Int))).length)(eL'n:L'.length=L.length)(eL'c:L'.flatten.map aA=(((L.flatten.map aA).set ((j*3)+1) (aA (((j+1):Nat):Int))).set ((j*3)+1) (aA y204)))(ej':j'=(j+1)):aC Tp 7 rT (fG dl sk dc ov p'0 q'1 t'3 L.length (L.flatten.map aA) j) .normal (fG dl sk dc ov p'0 q'1 t'3 L'.length (L'.flatten.map aA) j'):=by
 subst ej';have raw:aC Tp 7 rT (fG dl sk dc ov p'0 q'1 t'3 L.length (L.flatten.map aA) j) .normal (fG dl sk dc ov p'0 q'1 t'3 L.length (((L.flatten.map aA).set ((j*3)+1) (aA (((j+1):Nat):Int))).set ((j*3)+1) (aA y204)) (j+1)):=aC.fin (g:=⟨(rng [(0,4),(7,40),(49,35)]),[7,8],[],[]⟩) (o:=[bT,bT,bT,bT,bT,bT,.x (aA y202),bT,bT,bT,bT,bT,bT,.x (aA y205),bT,bT,bT,.x (aA y204)]) (l:=[_,_,_,((L.flatten.map aA).set ((j*3)+1) (aA (((j+1):Nat):Int)))[((((j:Int)-1).toNat*3)+1)]? = some (aA y204),_,_,_,_,_,((L.flatten.map aA).set ((j*3)+1) (aA (((j+1):Nat):Int)))[((((j:Int)-1).toNat*3)+2)]? = some (aA y205),_,_,_,_,_,_,_,_,((L.flatten.map aA).set ((j*3)+1) (aA (((j+1):Nat):Int)))[((j*3)+2)]? = some (aA y202),_,_,_,_,_,_,_,_,_,_]) (by kernel_rfl) (gc h1 (gc h10 (gc (eH (i:=(j:Int)) (kQ1 _) h2) (gc (aCw (by omega) (cL (i:=((j:Int)-1).toNat) (f:=1) h5 h7 rfl)) (gc (eH (i:=((j:Int)-1)) h8 h7) (gc h6 (gc (cC h9) (g2c (aQ h4) (gc (aCw (by omega) (cL (i:=((j:Int)-1).toNat) (f:=2) h5 h7 rfl)) (g2c (aQ h4) (gc (eH (i:=((j:Int)-1)) h8 h7) (gc (aQ h4) (gc h6 (g3c (aQ h4) (gc (aCw (by omega) (cL (i:=j) (f:=2) h5 h2 rfl)) (g2c (aQ h4) (gc (eH (i:=(j:Int)) (kQ1 _) h2) (g3c (aQ h4) (gc h3 (gc (eH (i:=(j:Int)) (kQ1 _) h2) (gc h1 (gc (aQ h0) gn))))))))))))))))))))))
 exact raw.cast (by rw [eL'n,eL'c])
theorem bEd{ov:PV}{p'0 q'1:Lqq}{t'3:Lqb}{L:Lqq}{j:Nat}{y200 y201 y202 y203 y204 y205:Int}{L':Lqq}{j':Nat}(h0:(j:Int)<(((isort (ltK 2) p'0).length:Nat):Int))(h1:inR (((j+1):Nat):Int))(h2:L[j]? = some [y200,y201,y202])(h3:((j*3)+1)<(L.flatten.map aA).length)(h4:(0:Int)<(j:Int))(h5:uni 3 L)(h6:inR ((j:Int)-1))(h7:L[((j:Int)-1).toNat]? = some [y203,y204,y205])(h8:0≤((j:Int)-1))(h9:y202≠y205)(eL'n:L'.length=L.length)(eL'c:L'.flatten.map aA=((L.flatten.map aA).set ((j*3)+1) (aA (((j+1):Nat):Int))))(ej':j'=(j+1)):aC Tp 7 rT (fG dl sk dc ov p'0 q'1 t'3 L.length (L.flatten.map aA) j) .normal (fG dl sk dc ov p'0 q'1 t'3 L'.length (L'.flatten.map aA) j'):=by
 subst ej';have raw:aC Tp 7 rT (fG dl sk dc ov p'0 q'1 t'3 L.length (L.flatten.map aA) j) .normal (fG dl sk dc ov p'0 q'1 t'3 L.length ((L.flatten.map aA).set ((j*3)+1) (aA (((j+1):Nat):Int))) (j+1)):=aC.fin (g:=⟨(rng [(0,4),(7,40),(49,35)]),[7,8],[],[]⟩) (o:=[bT,bT,bT,bT,bT,bT,.x (aA y202),bT,bT,bT,bT,bT,bT,.x (aA y205),bT,bT,bF]) (l:=[_,_,_,_,((L.flatten.map aA).set ((j*3)+1) (aA (((j+1):Nat):Int)))[((((j:Int)-1).toNat*3)+2)]? = some (aA y205),_,_,_,_,_,_,_,_,((L.flatten.map aA).set ((j*3)+1) (aA (((j+1):Nat):Int)))[((j*3)+2)]? = some (aA y202),_,_,_,_,_,_,_,_,_,_]) (by kernel_rfl) (gc h1 (gc (bE h9) (g2c (aQ h4) (gc (aCw (by omega) (cL (i:=((j:Int)-1).toNat) (f:=2) h5 h7 rfl)) (g2c (aQ h4) (gc (eH (i:=((j:Int)-1)) h8 h7) (gc (aQ h4) (gc h6 (g3c (aQ h4) (gc (aCw (by omega) (cL (i:=j) (f:=2) h5 h2 rfl)) (g2c (aQ h4) (gc (eH (i:=(j:Int)) (kQ1 _) h2) (g3c (aQ h4) (gc h3 (gc (eH (i:=(j:Int)) (kQ1 _) h2) (gc h1 (gc (aQ h0) gn)))))))))))))))))
 exact raw.cast (by rw [eL'n,eL'c])
theorem bEe{ov:PV}{p'0 q'1:Lqq}{t'3:Lqb}{L:Lqq}{j:Nat}{y200 y201 y202:Int}{L':Lqq}{j':Nat}(h0:(j:Int)<(((isort (ltK 2) p'0).length:Nat):Int))(h1:inR (((j+1):Nat):Int))(h2:L[j]? = some [y200,y201,y202])(h3:((j*3)+1)<(L.flatten.map aA).length)(h4:(j:Int)≤0)(eL'n:L'.length=L.length)(eL'c:L'.flatten.map aA=((L.flatten.map aA).set ((j*3)+1) (aA (((j+1):Nat):Int))))(ej':j'=(j+1)):aC Tp 7 rT (fG dl sk dc ov p'0 q'1 t'3 L.length (L.flatten.map aA) j) .normal (fG dl sk dc ov p'0 q'1 t'3 L'.length (L'.flatten.map aA) j'):=by
 subst ej';have raw:aC Tp 7 rT (fG dl sk dc ov p'0 q'1 t'3 L.length (L.flatten.map aA) j) .normal (fG dl sk dc ov p'0 q'1 t'3 L.length ((L.flatten.map aA).set ((j*3)+1) (aA (((j+1):Nat):Int))) (j+1)):=aC.fin (g:=⟨(rng [(0,4),(7,40),(49,35)]),[7,8],[],[]⟩) (o:=[bT,bF,bF,bF,bF,bF,bF,bF,bF,bF,bF,bF,bF,bF]) (l:=[_,_,_,_,_,_,_,_,_,_,_,_,_,_,_,_,_,_]) (by kernel_rfl) (gc h1 (g8c (aR h4) (g5c (aR h4) (gc h3 (gc (eH (i:=(j:Int)) (kQ1 _) h2) (gc h1 (gc (aQ h0) gn)))))))
 exact raw.cast (by rw [eL'n,eL'c])
theorem bEf{ov:PV}{p'0 q'1:Lqq}{t'3:Lqb}{L:Lqq}{j:Nat}(h0:(((isort (ltK 2) p'0).length:Nat):Int)≤(j:Int)):aC Tp 7 rT (fG dl sk dc ov p'0 q'1 t'3 L.length (L.flatten.map aA) j) (.exit 2) (fG dl sk dc ov p'0 q'1 t'3 L.length (L.flatten.map aA) j):=by
 exact aC.fin (g:=⟨(rng [(0,4),(7,40),(49,35)]),[7,8],[],[]⟩) (o:=[bF]) (l:=[_]) (by kernel_rfl) (gc (aR h0) gn)
theorem bYi{dl:Int}{sk dc R0:Lqq}{T1:Lqb}(h0:cM dl sk dc)(h1:bYg dl (aB sk) (aB dc) bI R0 ([]:Lqb) T1){base:Nat}:FV Tp 28 [(.p (.agg (bB dl sk dc)))] base (.tup [(.own base),(pI 0)]) [(base,(.row 48 R0.length (R0.flatten.map aA)))]:=by
 exact FV.fin Tryz.func28 rfl (o:=[.c (.tup [(.rp (aI dl (aB sk) (aB dc)) 0),(pI 0)]) [],bF,.c (.agg (kVL 5 6 1 3 7 2)) [(1,(vB0 dl (aB sk) (aB dc))),(2,(.box 33 [(.p bI)])),(3,(.box 139 (kVL 5 6 1 3 7 2))),(4,(.mp (aF ([]:Lqb)) 0)),(5,(.box 207 [(.mp 4)])),(6,(vB5 dl (aB sk) (aB dc))),(7,(.box 209 [(.fn 153 [] [(.ptr 1 0),(.ptr 3 0)])]))],.c (.own 8) [(1,(vB0 dl (aB sk) (aB dc))),(2,(.box 33 [(.p bI)])),(3,(.box 139 (kVL 5 6 1 3 7 2))),(4,(.mp (aF T1) T1.length)),(5,(.box 207 [(.mp 4)])),(6,(vB5 dl (aB sk) (aB dc))),(7,(.box 209 [(.fn 153 [] [(.ptr 1 0),(.ptr 3 0)])])),(8,(.row 48 R0.length (R0.flatten.map aA)))]]) (l:=[FC Tp 86 [(.rp (aI dl (aB sk) (aB dc)) 0),(.agg (kVL 5 6 1 3 7 2))] [(5,(.box 207 [(.mp 4)])),(6,(vB5 dl (aB sk) (aB dc))),(1,(vB0 dl (aB sk) (aB dc))),(3,(.box 139 (kVL 5 6 1 3 7 2))),(7,(.box 209 [(.fn 153 [] [(.ptr 1 0),(.ptr 3 0)])])),(2,(.box 33 [(.p bI)])),(4,(.mp (aF ([]:Lqb)) 0))] 8 (.own 8) [(1,(vB0 dl (aB sk) (aB dc))),(2,(.box 33 [(.p bI)])),(3,(.box 139 (kVL 5 6 1 3 7 2))),(4,(.mp (aF T1) T1.length)),(5,(.box 207 [(.mp 4)])),(6,(vB5 dl (aB sk) (aB dc))),(7,(.box 209 [(.fn 153 [] [(.ptr 1 0),(.ptr 3 0)])])),(8,(.row 48 R0.length (R0.flatten.map aA)))],FC Tp 87 [(.rp (aI dl (aB sk) (aB dc)) 0),(.p bI)] [] 1 (.agg (kVL 5 6 1 3 7 2)) [(1,(vB0 dl (aB sk) (aB dc))),(2,(.box 33 [(.p bI)])),(3,(.box 139 (kVL 5 6 1 3 7 2))),(4,(.mp (aF ([]:Lqb)) 0)),(5,(.box 207 [(.mp 4)])),(6,(vB5 dl (aB sk) (aB dc))),(7,(.box 209 [(.fn 153 [] [(.ptr 1 0),(.ptr 3 0)])]))],_,_]) (by kernel_rfl) (gc (FMM.fc (ids:=[1,2,3,4,5,6,7]) h1 (by kernel_rfl)) (gc (FMM.fcN (k:=7) rfl (ids:=[]) (sM (dl:=dl) (sk:=(aB sk)) (dc:=(aB dc))) (by kernel_rfl)) (gc bJg (gc (fk 1 (gW dl sk dc h0) rfl) gn))))
theorem bYj{n:Int}{q:List Int}{r0:Bool}(h0:q.length≤1000)(er0:r0=(q.contains n)){base:Nat}:FV Tp 85 [(pI n),(.rp [(aG q)] 0)] base (pB r0) []:=by
 subst er0;exact FV.fin Tryz.func85 rfl (o:=[.x (aG q),.c (pB (q.contains n)) []]) (l:=[_,[(aG q)][0]? = some (aG q)]) (by kernel_rfl) (gc (fk 0 (pV q n h0) rfl) (gc rfl gn))
theorem bYk(n:Int)(q:List Int)(hq:q.length≤1000){base:Nat}:FV Tp 85 [.p (aA n),.rp [aG q] 0] base (pB (ocB q n)) []:=bYj hq rfl
theorem bOr{x:Int}{q:List Int}{r0:Bool}(h0:q.length≤1000)(er0:r0=(!(ocB q x))):FMM Tp 150 [(pI x),(.ptr 0 0)] [some (.box 96 [(.fn 85 [] [(.rp [(aG q)] 0)])])] (pB r0) [some (.box 96 [(.fn 85 [] [(.rp [(aG q)] 0)])])]:=by
 subst er0;exact FMM.fin (k:=1) (g:=⟨[],[],[],[]⟩) rfl Tryz.func150 rfl (o:=[.c (pB (ocB q x)) []]) (l:=[_]) (by kernel_rfl) (gc (fk 1 (bYk x q h0) rfl) gn)
theorem aUh(x:Int)(q:List Int)(he:q.length≤1000):FMM Tp 150 [(pI x),.ptr 0 0] [some (.box 96 [(.fn 85 [] [(.rp [(aG q)] 0)])])] (pB (!(ocB q x))) [some (.box 96 [(.fn 85 [] [(.rp [(aG q)] 0)])])]:=bOr he rfl
def gF(l:List Int)(q:List Int)(i:Nat):St:=⟨fr 19 [(0,(.p (aG l))),(1,(.fn 150 [] [(.ptr 0 0)])),(7,(pI (l.length:Int))),(8,(pI (i:Int)))],[some (.box 96 [(.fn 85 [] [(.rp [(aG q)] 0)])])]⟩
theorem bOs{l q:List Int}{i'0:Nat}(hl0:aE Tp 1 xM (gF l q 0) (.exit 0) (gF l q i'0)):FMM Tp 129 [(.p (aG l)),(.fn 150 [] [(.ptr 0 0)])] [some (.box 96 [(.fn 85 [] [(.rp [(aG q)] 0)])])] (pI (-1:Int)) [some (.box 96 [(.fn 85 [] [(.rp [(aG q)] 0)])])]:=by
 exact FMM.fin (k:=1) (g:=⟨[],[],[],[]⟩) rfl Tryz.func129 rfl (o:=[.k 6 ⟨(rng [(2,5),(9,10)]),[],[],[]⟩ (.exit 0) (gF l q i'0)]) (l:=[_]) (by kernel_rfl) (gc hl0.code gn)
theorem bOt{l q:List Int}{i'0:Nat}(hl0:aE Tp 1 xM (gF l q 0) .ret (bG (gF l q i'0) [(4,(pI (i'0:Int)))])):FMM Tp 129 [(.p (aG l)),(.fn 150 [] [(.ptr 0 0)])] [some (.box 96 [(.fn 85 [] [(.rp [(aG q)] 0)])])] (pI (i'0:Int)) [some (.box 96 [(.fn 85 [] [(.rp [(aG q)] 0)])])]:=by
 exact FMM.fin (k:=1) (g:=⟨[],[],[],[]⟩) rfl Tryz.func129 rfl (o:=[.k 6 ⟨(rng [(2,5),(9,10)]),[],[],[]⟩ .ret (bG (gF l q i'0) [(4,(pI (i'0:Int)))])]) (l:=[_]) (by kernel_rfl) (gc hl0.code gn)
theorem aRp{l q:List Int}{i:Nat}{x100:Int}(h0:(i:Int)<(l.length:Int))(h1:l[i]? = some x100)(h2:q.length≤1000)(h3:(ocB q x100)=false):aC Tp 1 xM (gF l q i) .ret (bG (gF l q i) [(4,(pI (i:Int)))]):=by
 exact aC.fin (g:=⟨(rng [(2,2),(5,2),(9,10)]),[],[],[]⟩) (o:=[bT,.x (aA x100),.c (pB (!(ocB q x100))) [(0,(.box 96 [(.fn 85 [] [(.rp [(aG q)] 0)])]))],bT]) (l:=[_,FC Tp 150 [(pI x100),(.ptr 0 0)] [(0,(.box 96 [(.fn 85 [] [(.rp [(aG q)] 0)])]))] 1 (pB (!(ocB q x100))) [(0,(.box 96 [(.fn 85 [] [(.rp [(aG q)] 0)])]))],_,_,_]) (by kernel_rfl) (gc (cP h3) (gc (FMM.fc (ids:=[0]) (aUh x100 q h2) (by kernel_rfl)) (gc (atm aA h1) (gc (ixn aA h1) (gc (aQ h0) gn)))))
theorem aRq{l q:List Int}{i:Nat}{x100:Int}{i':Nat}(h0:(i:Int)<(l.length:Int))(h1:l[i]? = some x100)(h2:q.length≤1000)(h3:(ocB q x100)=true)(h4:inR (((i+1):Nat):Int))(ei':i'=(i+1)):aC Tp 1 xM (gF l q i) .normal (gF l q i'):=by
 subst ei';exact aC.fin (g:=⟨(rng [(2,5),(9,10)]),[],[],[]⟩) (o:=[bT,.x (aA x100),.c (pB (!(ocB q x100))) [(0,(.box 96 [(.fn 85 [] [(.rp [(aG q)] 0)])]))],bF]) (l:=[_,_,FC Tp 150 [(pI x100),(.ptr 0 0)] [(0,(.box 96 [(.fn 85 [] [(.rp [(aG q)] 0)])]))] 1 (pB (!(ocB q x100))) [(0,(.box 96 [(.fn 85 [] [(.rp [(aG q)] 0)])]))],_,_,_]) (by kernel_rfl) (gc h4 (gc (bA h3) (gc (FMM.fc (ids:=[0]) (aUh x100 q h2) (by kernel_rfl)) (gc (atm aA h1) (gc (ixn aA h1) (gc (aQ h0) gn))))))
theorem aRr{l q:List Int}{i:Nat}(h0:(l.length:Int)≤(i:Int)):aC Tp 1 xM (gF l q i) (.exit 0) (gF l q i):=by
 exact aC.fin (g:=⟨(rng [(2,5),(9,10)]),[],[],[]⟩) (o:=[bF]) (l:=[_]) (by kernel_rfl) (gc (aR h0) gn)
theorem bOu(l:List Int)(q:List Int)(hl:l.length≤1000)(he:∀ x∈l,q.length≤1000):FMM Tp 129 [.p (aG l),(.fn 150 [] [(.ptr 0 0)])] [some (.box 96 [(.fn 85 [] [(.rp [(aG q)] 0)])])] (pI (bD (fun x => !(ocB q x)) l)) [some (.box 96 [(.fn 85 [] [(.rp [(aG q)] 0)])])]:=by
 rcases aE.find (P:=Tp) (k:=1) (b:=xM) (fun i=>gF l q i) (fun i _=>bG (gF l q i) [(4,.p (aA (i:Int)))]) (gF l q l.length) .ret (.exit 0) (by simp) (by simp) (fun x => !(ocB q x)) l
  (fun i x hx hp=>by exact aRq (by have:=aT hx;omega) hx (he _ (kQ4 hx)) (by simpa using hp) (aO (by have:=aT hx;omega)) rfl)
  (fun i x hx hp=>by exact aRp (by have:=aT hx;omega) hx (he _ (kQ4 hx)) (by simpa using hp))
  (aRr (l:=l) (i:=l.length) (by omega)) with ⟨i,x,h1,h2,h3,h4⟩ | ⟨h1,h2,h3⟩
 ·rw [eL h2];exact bOt h4
 ·rw [gL h1];exact bOs h3
theorem bOv{l q:List Int}{r0:Bool}(h0:l.length≤1000)(h1:∀ x∈l,q.length≤1000)(er0:r0=(decide ((bD (fun x => !(ocB q x)) l) ≥ (0:Int)))):FMM Tp 149 [(.p (aG l)),(.fn 150 [] [(.ptr 0 0)])] [some (.box 96 [(.fn 85 [] [(.rp [(aG q)] 0)])])] (pB r0) [some (.box 96 [(.fn 85 [] [(.rp [(aG q)] 0)])])]:=by
 subst er0;exact FMM.fin (k:=1) (g:=⟨[],[],[],[]⟩) rfl Tryz.func149 rfl (o:=[.c (pI (bD (fun x => !(ocB q x)) l)) [(0,(.box 96 [(.fn 85 [] [(.rp [(aG q)] 0)])]))]]) (l:=[FC Tp 129 [(.p (aG l)),(.fn 150 [] [(.ptr 0 0)])] [(0,(.box 96 [(.fn 85 [] [(.rp [(aG q)] 0)])]))] 1 (pI (bD (fun x => !(ocB q x)) l)) [(0,(.box 96 [(.fn 85 [] [(.rp [(aG q)] 0)])]))]]) (by kernel_rfl) (gc (FMM.fc (ids:=[0]) (bOu l q h0 h1) (by kernel_rfl)) gn)
theorem bOw(l:List Int)(q:List Int)(hl:l.length≤1000)(he:∀ x∈l,q.length≤1000):FMM Tp 149 [.p (aG l),(.fn 150 [] [(.ptr 0 0)])] [some (.box 96 [(.fn 85 [] [(.rp [(aG q)] 0)])])] (pB (l.any (fun x => !(ocB q x)))) [some (.box 96 [(.fn 85 [] [(.rp [(aG q)] 0)])])]:=bOv hl he (lK _ _).symm
theorem bYl{l q:List Int}{r0:Bool}(h0:l.length≤1000)(h1:∀ x∈l,q.length≤1000)(er0:r0=(!(l.any (fun x => !(ocB q x))))){base:Nat}:FV Tp 84 [(.p (aG l)),(.fn 85 [] [(.rp [(aG q)] 0)])] base (pB r0) []:=by
 subst er0;exact FV.fin Tryz.func84 rfl (o:=[.c (pB (l.any (fun x => !(ocB q x)))) [(0,(.box 96 [(.fn 85 [] [(.rp [(aG q)] 0)])]))]]) (l:=[FC Tp 149 [(.p (aG l)),(.fn 150 [] [(.ptr 0 0)])] [(0,(.box 96 [(.fn 85 [] [(.rp [(aG q)] 0)])]))] 1 (pB (l.any (fun x => !(ocB q x)))) [(0,(.box 96 [(.fn 85 [] [(.rp [(aG q)] 0)])]))]]) (by kernel_rfl) (gc (FMM.fc (ids:=[0]) (bOw l q h0 h1) (by kernel_rfl)) gn)
theorem bYm(l:List Int)(q:List Int)(hl:l.length≤1000)(he:∀ x∈l,q.length≤1000){base:Nat}:FV Tp 84 [.p (aG l),(.fn 85 [] [(.rp [(aG q)] 0)])] base (pB (l.all (ocB q))) []:=bYl hl he (by rw [List.all_eq_not_any_not])
def iJ(dl:Int)(sk:Lqq)(dc:Lqq)(u:List Int)(i:Int):St:=⟨fr 45 [(1,(.p (aG u))),(6,(.rp (aI dl (aB sk) (aB dc)) 0)),(9,(pI i))],[]⟩
theorem bYn{u:List Int}{i'0:Int}{R1:Lqq}{T2:Lqb}(h0:cM dl sk dc)(h1:cE (aB dc))(h2:u.length≤1000)(h3:∀ x∈u,(aP dl (aB dc)).length≤1000)(h4:(u.all (ocB (aP dl (aB dc))))=true)(hl5:aE Tp 0 aIt (iJ dl sk dc u (1:Int)) (.exit 0) (iJ dl sk dc u i'0))(h6:bYg dl (aB sk) (aB dc) (aG u) R1 ([]:Lqb) T2){base:Nat}:FV Tp 21 [(.p (.agg (bB dl sk dc))),(.p (aG u))] base (.tup [(.own base),(pI 0)]) [(base,(.row 48 R1.length (R1.flatten.map aA)))]:=by
 exact FV.fin Tryz.func21 rfl (o:=[.c (.tup [(.rp (aI dl (aB sk) (aB dc)) 0),(pI 0)]) [],bF,.c (.own 1) [(1,(.row 3 ((aP dl (aB dc)).length) ((aP dl (aB dc)).map aA)))],.g 2 ⟨[],[0],[1,2],[]⟩,.c (pB (u.all (ocB (aP dl (aB dc))))) [],bF,.k 4 ⟨(rng [(0,1),(2,4),(7,2),(10,30)]),[],[],[]⟩ (.exit 0) (iJ dl sk dc u i'0),.c fP (vU dl (aB sk) (aB dc) (aG u) ([]:Lqb)),.c (.own 7) [(0,(vB0 dl (aB sk) (aB dc))),(1,(.box 33 [(.p (aG u))])),(2,vB2),(3,(.mp (aF T2) T2.length)),(4,(.box 207 [(.mp 3)])),(5,(vB5 dl (aB sk) (aB dc))),(6,vB6),(7,(.row 48 R1.length (R1.flatten.map aA)))]]) (l:=[FC Tp 86 [(.rp (aI dl (aB sk) (aB dc)) 0),fP] [(4,(.box 207 [(.mp 3)])),(5,(vB5 dl (aB sk) (aB dc))),(0,(vB0 dl (aB sk) (aB dc))),(2,vB2),(6,vB6),(1,(.box 33 [(.p (aG u))])),(3,(.mp (aF ([]:Lqb)) 0))] 7 (.own 7) [(0,(vB0 dl (aB sk) (aB dc))),(1,(.box 33 [(.p (aG u))])),(2,vB2),(3,(.mp (aF T2) T2.length)),(4,(.box 207 [(.mp 3)])),(5,(vB5 dl (aB sk) (aB dc))),(6,vB6),(7,(.row 48 R1.length (R1.flatten.map aA)))],FC Tp 87 [(.rp (aI dl (aB sk) (aB dc)) 0),(.p (aG u))] [] 0 fP (vU dl (aB sk) (aB dc) (aG u) ([]:Lqb)),_,_,_,_,_,_]) (by kernel_rfl) (gc (FMM.fc (ids:=[0,1,2,3,4,5,6]) h6 (by kernel_rfl)) (gc (FMM.fcN (k:=7) rfl (ids:=[]) (qA (dl:=dl) (sk:=(aB sk)) (dc:=(aB dc)) (on:=u.length) (ol:=(u.map aA))) (by kernel_rfl)) (gc hl5.code (gc (bA h4) (gc (fk 1 (bYm u (aP dl (aB dc)) h2 h3) rfl) (gc (fk 1 (rL (dl:=dl) (sk:=(aB sk)) (dc:=(aB dc)) h1) rfl) (gc bJg (gc (fk 1 (gW dl sk dc h0) rfl) gn))))))))
theorem bEg{u:List Int}{i x100 x101:Int}(h0:i<(u.length:Int))(h1:u[i.toNat]? = some x100)(h2:0≤i)(h3:inR (i-1))(h4:u[(i-1).toNat]? = some x101)(h5:0≤(i-1))(h6:x100≤x101):aC Tp 0 aIt (iJ dl sk dc u i) .ret (bG (iJ dl sk dc u i) [(4,(.p bI)),(5,(pI 4))]):=by
 exact aC.fin (g:=⟨(rng [(0,1),(2,2),(7,2),(10,30)]),[],[],[]⟩) (o:=[bT,.x (aA x100),.x (aA x101),bT]) (l:=[_,(u.map aA)[((i-1).toNat*1)]? = some (aA x101),_,_,(u.map aA)[(i.toNat*1)]? = some (aA x100),_,_]) (by kernel_rfl) (gc (mD h6) (gc (wT (i:=(i-1).toNat) h4) (gc (wU (g:=aA) h5 h4) (gc h3 (gc (wT (i:=i.toNat) h1) (gc (wU (g:=aA) h2 h1) (gc (aQ h0) gn)))))))
theorem bEh{u:List Int}{i x100 x101 i':Int}(h0:i<(u.length:Int))(h1:u[i.toNat]? = some x100)(h2:0≤i)(h3:inR (i-1))(h4:u[(i-1).toNat]? = some x101)(h5:0≤(i-1))(h6:x101<x100)(h7:inR (i+1))(ei':i'=(i+1)):aC Tp 0 aIt (iJ dl sk dc u i) .normal (iJ dl sk dc u i'):=by
 subst ei';exact aC.fin (g:=⟨(rng [(0,1),(2,4),(7,2),(10,30)]),[],[],[]⟩) (o:=[bT,.x (aA x100),.x (aA x101),bF]) (l:=[_,_,(u.map aA)[((i-1).toNat*1)]? = some (aA x101),_,_,(u.map aA)[(i.toNat*1)]? = some (aA x100),_,_]) (by kernel_rfl) (gc h7 (gc (lT h6) (gc (wT (i:=(i-1).toNat) h4) (gc (wU (g:=aA) h5 h4) (gc h3 (gc (wT (i:=i.toNat) h1) (gc (wU (g:=aA) h2 h1) (gc (aQ h0) gn))))))))
theorem aFy{u:List Int}{i:Int}(h0:(u.length:Int)≤i):aC Tp 0 aIt (iJ dl sk dc u i) (.exit 0) (iJ dl sk dc u i):=by
 exact aC.fin (g:=⟨(rng [(0,1),(2,4),(7,2),(10,30)]),[],[],[]⟩) (o:=[bF]) (l:=[_]) (by kernel_rfl) (gc (aR h0) gn)
end
section

def iS(q:List Int)(s i:Nat):List Int:=((List.range i).filter fun j=>s / 2 ^ j % 2 == 1).map fun j=>q.getD j 0
def jX(q:List Int):Lqq:=(List.range (2 ^ q.length)).map fun s=>iS q s q.length

theorem bOg{l:Nat}{q:List Int}(h0:0≤(q.length:Int)∧(q.length:Int)≤60∧IntKind.i64 = .i64)(h1:inR ((1:Int)*2 ^ ((q.length:Int).toNat))):eR Tp 0 (sub (cd Tryz.f182) [0]) ⟨fr 35 [(0,(.yld l)),(1,(.rp [(aG q)] 0))],[]⟩ .normal ⟨fr 35 [(0,(.yld l)),(1,(.rp [(aG q)] 0)),(8,(pI ((1:Int)*2 ^ ((q.length:Int).toNat)))),(9,(pI 0))],[]⟩:=by
 exact eR.fin (g:=⟨(rng [(2,6),(10,25)]),[],[],[]⟩) (o:=[.x (aG q)]) (l:=[_,_,[(aG q)][0]? = some (aG q)]) (by kernel_rfl) (gc h1 (gc h0 (gc rfl gn)))
theorem bOh{l:Nat}{q:List Int}{n8:Int}{s:Nat}:eR Tp 0 (sub (cd Tryz.f182) [1,0,0,0]) ⟨fr 35 [(0,(.yld l)),(1,(.rp [(aG q)] 0)),(8,(pI n8)),(9,(pI (s:Int)))],[]⟩ .normal ⟨fr 35 [(0,(.yld l)),(1,(.rp [(aG q)] 0)),(8,(pI n8)),(9,(pI (s:Int))),(10,(pB (decide ((s:Int)<n8))))],[]⟩:=by
 exact eR.fin (g:=⟨(rng [(2,6),(11,24)]),[],[],[]⟩) (o:=[]) (l:=[]) (by kernel_rfl) (gn)
theorem bOi{l:Nat}{q:List Int}{n8:Int}{s:Nat}:eR Tp 0 (sub (cd Tryz.f182) [1,0,0,1,1,0,0,0]) ⟨fr 35 [(0,(.yld l)),(1,(.rp [(aG q)] 0)),(8,(pI n8)),(9,(pI (s:Int)))],[]⟩ .normal ⟨fr 35 [(0,(.yld l)),(1,(.rp [(aG q)] 0)),(3,(pI (s:Int))),(8,(pI n8)),(9,(pI (s:Int)))],[]⟩:=by
 exact eR.fin (g:=⟨(rng [(2,1),(4,4),(10,25)]),[],[],[]⟩) (o:=[]) (l:=[]) (by kernel_rfl) (gn)
theorem bOj{l:Nat}{q:List Int}{n8:Int}{s:Nat}:eR Tp 0 (sub (cd Tryz.f182) [1,0,0,1,1,0,0,1,0]) ⟨fr 35 [(0,(.yld l)),(1,(.rp [(aG q)] 0)),(3,(pI (s:Int))),(8,(pI n8)),(9,(pI (s:Int)))],[]⟩ .normal ⟨fr 35 [(0,(.yld l)),(1,(.rp [(aG q)] 0)),(3,(pI (s:Int))),(4,(.p bI)),(8,(pI n8)),(9,(pI (s:Int)))],[]⟩:=by
 exact eR.fin (g:=⟨(rng [(2,1),(5,3),(10,25)]),[],[],[]⟩) (o:=[]) (l:=[]) (by kernel_rfl) (gn)
theorem bOk{l:Nat}{q:List Int}{n8:Int}{s:Nat}:eR Tp 0 (sub (cd Tryz.f182) [1,0,0,1,1,0,0,1,1,0,0]) ⟨fr 35 [(0,(.yld l)),(1,(.rp [(aG q)] 0)),(3,(pI (s:Int))),(4,(.p bI)),(8,(pI n8)),(9,(pI (s:Int)))],[]⟩ .normal ⟨fr 35 [(0,(.yld l)),(1,(.rp [(aG q)] 0)),(3,(pI (s:Int))),(4,(.own 0)),(8,(pI n8)),(9,(pI (s:Int))),(13,(pI (q.length:Int))),(14,(pI 0))],[some (.row 3 0 [])]⟩:=by
 exact eR.fin (g:=⟨(rng [(2,1),(5,3),(10,3),(15,20)]),[0],[],[(4,3)]⟩) (o:=[.x (aG q)]) (l:=[[(aG q)][0]? = some (aG q)]) (by kernel_rfl) (gc rfl gn)
theorem bOl{l:Nat}{q:List Int}{n8:Int}{s:Nat}{o:List Int}{i:Nat}:eR Tp 0 (sub (cd Tryz.f182) [1,0,0,1,1,0,0,1,1,0,1,0,0,0]) ⟨fr 35 [(0,(.yld l)),(1,(.rp [(aG q)] 0)),(3,(pI (s:Int))),(4,(.own 0)),(8,(pI n8)),(9,(pI (s:Int))),(13,(pI (q.length:Int))),(14,(pI (i:Int)))],[some (.row 3 o.length (o.map aA))]⟩ .normal ⟨fr 35 [(0,(.yld l)),(1,(.rp [(aG q)] 0)),(3,(pI (s:Int))),(4,(.own 0)),(8,(pI n8)),(9,(pI (s:Int))),(13,(pI (q.length:Int))),(14,(pI (i:Int))),(15,(pB (decide ((i:Int)<(q.length:Int)))))],[some (.row 3 o.length (o.map aA))]⟩:=by
 exact eR.fin (g:=⟨(rng [(2,1),(5,3),(10,3),(16,19)]),[0],[],[]⟩) (o:=[]) (l:=[]) (by kernel_rfl) (gn)
theorem bOm{l:Nat}{q:List Int}{n8:Int}{s:Nat}{o:List Int}{i:Nat}:eR Tp 0 (sub (cd Tryz.f182) [1,0,0,1,1,0,0,1,1,0,1,0,0,1,1,0,0,0]) ⟨fr 35 [(0,(.yld l)),(1,(.rp [(aG q)] 0)),(3,(pI (s:Int))),(4,(.own 0)),(8,(pI n8)),(9,(pI (s:Int))),(13,(pI (q.length:Int))),(14,(pI (i:Int)))],[some (.row 3 o.length (o.map aA))]⟩ .normal ⟨fr 35 [(0,(.yld l)),(1,(.rp [(aG q)] 0)),(3,(pI (s:Int))),(4,(.own 0)),(5,(pI (i:Int))),(8,(pI n8)),(9,(pI (s:Int))),(13,(pI (q.length:Int))),(14,(pI (i:Int)))],[some (.row 3 o.length (o.map aA))]⟩:=by
 exact eR.fin (g:=⟨(rng [(2,1),(6,2),(10,3),(15,20)]),[0],[],[]⟩) (o:=[]) (l:=[]) (by kernel_rfl) (gn)
theorem bOn{l:Nat}{q:List Int}{n8:Int}{s:Nat}{o:List Int}{i:Nat}(h0:0≤((s:Int).fdiv (2 ^ min ((i:Int).toNat) (IntKind.bits .i64)))∧((s:Int).fdiv (2 ^ min ((i:Int).toNat) (IntKind.bits .i64)))≤9223372036854775807∧(1:Int)=1∧IntKind.i64 = .i64):eR Tp 0 (sub (cd Tryz.f182) [1,0,0,1,1,0,0,1,1,0,1,0,0,1,1,0,0,1,0]) ⟨fr 35 [(0,(.yld l)),(1,(.rp [(aG q)] 0)),(3,(pI (s:Int))),(4,(.own 0)),(5,(pI (i:Int))),(8,(pI n8)),(9,(pI (s:Int))),(13,(pI (q.length:Int))),(14,(pI (i:Int)))],[some (.row 3 o.length (o.map aA))]⟩ .normal ⟨fr 35 [(0,(.yld l)),(1,(.rp [(aG q)] 0)),(3,(pI (s:Int))),(4,(.own 0)),(5,(pI (i:Int))),(8,(pI n8)),(9,(pI (s:Int))),(13,(pI (q.length:Int))),(14,(pI (i:Int))),(21,(pB ((((s:Int).fdiv (2 ^ min ((i:Int).toNat) (IntKind.bits .i64))) % 2) == (1:Int))))],[some (.row 3 o.length (o.map aA))]⟩:=by
 exact eR.fin (g:=⟨(rng [(2,1),(6,2),(10,3),(15,6),(22,13)]),[0],[],[]⟩) (o:=[]) (l:=[_,0≤(i:Int)]) (by kernel_rfl) (gc h0 (gc (kQ1 _) gn))
theorem bOo{l:Nat}{q:List Int}{n8:Int}{s:Nat}{o:List Int}{i:Nat}{x0:Int}(h0:q[i]? = some x0)(h1:[(aA x0)].length=1*1∧o.length+1≤1000000):eR Tp 0 (sub (cd Tryz.f182) [1,0,0,1,1,0,0,1,1,0,1,0,0,1,1,0,0,1,1,0]) ⟨fr 35 [(0,(.yld l)),(1,(.rp [(aG q)] 0)),(3,(pI (s:Int))),(4,(.own 0)),(5,(pI (i:Int))),(8,(pI n8)),(9,(pI (s:Int))),(13,(pI (q.length:Int))),(14,(pI (i:Int)))],[some (.row 3 o.length (o.map aA))]⟩ .normal ⟨fr 35 [(0,(.yld l)),(1,(.rp [(aG q)] 0)),(3,(pI (s:Int))),(4,(.own 0)),(8,(pI n8)),(9,(pI (s:Int))),(13,(pI (q.length:Int))),(14,(pI (i:Int)))],[some (.row 3 (o.length+1) ((o.map aA)++[(aA x0)]))]⟩:=by
 exact eR.fin (g:=⟨(rng [(2,1),(5,3),(10,3),(15,20)]),[2],[],[]⟩) (o:=[.x (aG q),.x (aA x0)]) (l:=[_,_,_,[(aG q)][0]? = some (aG q)]) (by kernel_rfl) (gc h1 (gc (atm aA h0) (gc (ixn aA h0) (gc rfl gn))))
theorem bOp{l:Nat}{q:List Int}{n8:Int}{s:Nat}{o:List Int}{i:Nat}(h0:inR (((i+1):Nat):Int)):eR Tp 0 (sub (cd Tryz.f182) [1,0,0,1,1,0,0,1,1,0,1,0,0,1,1,1]) ⟨fr 35 [(0,(.yld l)),(1,(.rp [(aG q)] 0)),(3,(pI (s:Int))),(4,(.own 0)),(8,(pI n8)),(9,(pI (s:Int))),(13,(pI (q.length:Int))),(14,(pI (i:Int)))],[some (.row 3 o.length (o.map aA))]⟩ .normal ⟨fr 35 [(0,(.yld l)),(1,(.rp [(aG q)] 0)),(3,(pI (s:Int))),(4,(.own 0)),(8,(pI n8)),(9,(pI (s:Int))),(13,(pI (q.length:Int))),(14,(pI (((i+1):Nat):Int)))],[some (.row 3 o.length (o.map aA))]⟩:=by
 exact eR.fin (g:=⟨(rng [(2,1),(5,3),(10,3),(15,20)]),[0],[],[]⟩) (o:=[]) (l:=[_]) (by kernel_rfl) (gc h0 gn)
theorem bOq{l:Nat}{q:List Int}{n8:Int}{s:Nat}(h0:inR (((s+1):Nat):Int)):eR Tp 0 (sub (cd Tryz.f182) [1,0,0,1,1,1]) ⟨fr 35 [(0,(.yld l)),(1,(.rp [(aG q)] 0)),(8,(pI n8)),(9,(pI (s:Int)))],[]⟩ .normal ⟨fr 35 [(0,(.yld l)),(1,(.rp [(aG q)] 0)),(8,(pI n8)),(9,(pI (((s+1):Nat):Int)))],[]⟩:=by
 exact eR.fin (g:=⟨(rng [(2,6),(10,25)]),[],[],[]⟩) (o:=[]) (l:=[_]) (by kernel_rfl) (gc h0 gn)
end
end KV
end Go.Proofs
section
namespace Go.Proofs
open Go.RowKit
namespace KV
attribute [local go_sem] Oper.semAt_some
theorem zR(l:List (Nat × AV)):∀ (n k:Nat),(frm l n k).length=n
 | 0,_=>rfl
 | n+1,k=>by unfold frm;rw [vK,zR]
theorem aRn(l:List (Nat × AV)):∀ (n k j:Nat) (h:j<(frm l n k).length),(frm l n k)[j]=look l (k+j)
 | 0,_,j,h=>by simp [frm] at h
 | n+1,k,0,h=>rfl
 | n+1,k,j+1,h=>by
  have:=aRn l n (k+1) j (by rw [zR] at h ⊢;omega)
  rw [show k+(j+1)=k+1+j by omega]
  exact this
theorem aMi{C:Cx}{M:Mem}{w:World}{us:Array Value}:∀ {l:List (Nat × AV)},(∀ p∈l,Rep C M w p.2 (us.getD p.1 undef))→∀ j,Rep C M w (look l j) (us.getD j undef)
 | [],_,j => .any _
 | (i,x)::r,h,j=>by
  unfold look
  split
  ·rename_i hb
   rw [← Nat.eq_of_beq_eq_true hb];exact h (i,x) (mC ..)
  ·exact aMi (fun p hp=>h p (kQ7 _ hp)) j
theorem aMj{C:Cx}{M:Mem}{w:World}{us:Array Value}{n:Nat}{l:List (Nat × AV)}(hs:us.size=n)(h:∀ p∈l,Rep C M w p.2 (us.getD p.1 undef)):eT C M w (fr n l) us:=by
 refine ⟨by rw [hs,zR],fun i hi => ?_⟩
 rw [aRn,gN];exact aMi h _
theorem uL{C:Cx}{M:Mem}{w:World}{us:Array Value}{n:Nat}{l:List (Nat × AV)}(h:eT C M w (fr n l) us)(i:Nat)(hi:i<n):Rep C M w (look l i) (us.getD i undef):=by
 have:=h.rep i (by rw [zR];exact hi)
 rwa [aRn,gN] at this

section
variable {P:Program}
def InK(Cv:Cx)(V:World)(v0:Value)(st:St)(a:Act)(w:World):Prop:=Sim Tp Cv [] V st a w∧a.tmps.getD 1 undef=v0∧a.defers=[]
theorem InK.step{Cv:Cx}{V:World}{v0:Value}{c:Code}{st st':St}{a:Act}{w:World}{n:Nat}{K:Act→World→Prop}{Q:Exit→Act→World→Prop}(h:eR Tp 0 c st .normal st')(hw:wrR c 1=false)(hi:InK Cv V v0 st a w)
  (hK:∀ a' w',InK Cv V v0 st' a' w'→K a' w'):c.wpIn (Fen none) n Tp (Exit.then K Q) a w :=
 wpIn_mono (h Cv [] V a w (by simp) hi.1 none n) fun e a' w' hq=>by
  obtain ⟨he,hs,hk⟩:=hq;subst he;exact hK a' w' ⟨hs,(hk.1 1 hw).trans hi.2.1,hk.2.trans hi.2.2⟩
end
noncomputable abbrev cO:Code:=cd Tryz.f182
abbrev stA(l:Nat)(q:List Int)(n8:Int)(s:Nat):St:=⟨fr 35 [(0,.yld l),(1,.rp [aG q] 0),(8,.p (aA n8)),(9,.p (aA (s:Int)))],[]⟩
abbrev stB(l:Nat)(q:List Int)(n8:Int)(s:Nat)(o:List Int)(i:Nat):St:=⟨fr 35 [(0,.yld l),(1,.rp [aG q] 0),(3,.p (aA (s:Int))),(4,.own 0),(8,.p (aA n8)),(9,.p (aA (s:Int))),(13,.p (aA (q.length:Int))),(14,.p (aA (i:Int)))],[some (.row 3 o.length (o.map aA))]⟩
theorem bDx(q:List Int)(s i:Nat):iS q s (i+1)=iS q s i++if s / 2 ^ i % 2 == 1 then [q.getD i 0] else []:=by
 unfold iS;rw [List.range_succ,sQ,iY]
 congr 1
 cases h:s / 2 ^ i % 2 == 1 <;> simp [h]
theorem aMk(q:List Int)(s i:Nat):(iS q s i).length≤i:=by
 unfold iS;rw [fL];have:=rF (fun j=>s / 2 ^ j % 2 == 1) (List.range i)
 rwa [aHf] at this
theorem bOf(s i:Nat)(hi:i≤60):(s:Int).fdiv (2 ^ min ((i:Int).toNat) (IntKind.bits .i64))=((s / 2 ^ i:Nat):Int):=by
 have hb:IntKind.bits .i64=64:=rfl;rw [aWj,hb,Nat.min_eq_left (by omega),Int.fdiv_eq_ediv_of_nonneg _ (by exact_mod_cast Nat.zero_le _)]
 push_cast
 rfl
theorem bJb{Cv:Cx}{V:World}{v0:Value}{l:Nat}{q:List Int}{n8:Int}{s:Nat}(hq:q.length≤60)(hs:s≤9223372036854775807){n:Nat}{K:Act→World→Prop}{Q:Exit→Act→World→Prop}{a:Act}{w:World}
  (hi:InK Cv V v0 (stB l q n8 s [] 0) a w) (hK:∀ a' w',InK Cv V v0 (stB l q n8 s (iS q s q.length) q.length) a' w'→K a' w') :
  (Code.block 2 (.loop (sub cO [1,0,0,1,1,0,0,1,1,0,1,0,0]))).wpIn (Fen none) n Tp (Exit.then K Q) a w:=by
 refine wpIn_block ?_;refine wpIn_loop_ghost (fun k a w=>∃ i,i≤q.length∧k=q.length-i∧InK Cv V v0 (stB l q n8 s (iS q s i) i) a w) q.length ⟨0,by omega,by omega,hi⟩ ?_
 rintro k a w ⟨i,hil,rfl,hI⟩;have e1:sub cO [1,0,0,1,1,0,0,1,1,0,1,0,0] = .seq (sub cO [1,0,0,1,1,0,0,1,1,0,1,0,0,0]) (.seq (.cond (.tmp 15) .skip (.exit 2)) (.seq (.block 3 (.seq (sub cO [1,0,0,1,1,0,0,1,1,0,1,0,0,1,1,0,0,0]) (.seq (sub cO [1,0,0,1,1,0,0,1,1,0,1,0,0,1,1,0,0,1,0]) (.cond (.tmp 21) (sub cO [1,0,0,1,1,0,0,1,1,0,1,0,0,1,1,0,0,1,1,0]) .skip)))) (sub cO [1,0,0,1,1,0,0,1,1,0,1,0,0,1,1,1]))):=by kernel_rfl
 rw [e1];refine wpIn_seq ?_;refine InK.step bOl (by kernel_rfl) hI fun a1 w1 h1 => ?_
 refine wpIn_seq ?_;obtain ⟨⟨C1,hS1,_⟩,_⟩:=id h1;have hc15:a1.eval (.tmp 15) = .bool (decide ((i:Int)<(q.length:Int))):=by
  have:=uL hS1 15 (by omega)
  show a1.tmps.getD 15 undef=_;generalize a1.tmps.getD 15 undef=u at this
  have h2:Rep C1 _ w1 (.p (.v (.bool (decide ((i:Int)<(q.length:Int)))))) u:=this;cases h2 with
  | p _ _ h=>cases h;rfl
 by_cases hlt:i<q.length
 ·refine wpIn_cond_true (by rw [hc15,decide_eq_true (by omega)]) (wpIn_skip ?_)
  show Code.wpIn _ _ _ _ _ _ _;have h1':InK Cv V v0 (stB l q n8 s (iS q s i) i) a1 w1:=⟨(eY (g:=⟨[15],[0],[],[]⟩) (k:=0) (eG _) (by kernel_rfl) h1.1),h1.2⟩
  refine wpIn_seq ?_;have hsd:=bOf s i (by omega)
  have hx:q[i]? = some (q.getD i 0):=by rw [kQ5,kQ0 hlt];rfl
  have hpl:=aMk q s i;have hfin:∀ a2 w2,InK Cv V v0 (stB l q n8 s (iS q s (i+1)) i) a2 w2→(sub cO [1,0,0,1,1,0,0,1,1,0,1,0,0,1,1,1]).wpIn (Fen none) n Tp (Exit.then (fun a' w'=>∃ n',n'<q.length-i∧∃ i',i'≤q.length∧n'=q.length-i'∧InK Cv V v0 (stB l q n8 s (iS q s i') i') a' w') (Exit.inBlock 2 (Exit.then K Q))) a2 w2:=fun a2 w2 h2 =>
   InK.step (bOp (aO (by omega))) (by kernel_rfl) h2 fun a3 w3 h3=>⟨q.length-(i+1),by omega,i+1,by omega,rfl,h3⟩
  refine wpIn_block ?_;refine wpIn_seq ?_;refine InK.step bOm (by kernel_rfl) h1' fun a2 w2 h2 => ?_
  refine wpIn_seq ?_;have hle:s / 2 ^ i≤s:=Nat.div_le_self _ _;refine InK.step (bOn (s:=s) (i:=i) ⟨by rw [hsd];exact kQ1 _,by rw [hsd];exact Int.ofNat_le.2 (gO hle hs),rfl,rfl⟩) (by kernel_rfl) h2 fun a3 w3 h3 => ?_
  obtain ⟨⟨C3,hS3,_⟩,_⟩:=id h3;have hc21:a3.eval (.tmp 21) = .bool (s / 2 ^ i % 2 == 1):=by
   have:=uL hS3 21 (by omega)
   show a3.tmps.getD 21 undef=_;generalize a3.tmps.getD 21 undef=u at this
   have h2:Rep C3 _ w3 (.p (.v (.bool (((s:Int).fdiv (2 ^ min ((i:Int).toNat) (IntKind.bits .i64))) % 2 == 1)))) u:=this;cases h2 with
   | p _ _ h =>
    cases h;rw [hsd]
    congr 1
    generalize s / 2 ^ i=z;rw [Bool.eq_iff_iff,beq_iff_eq,beq_iff_eq];omega
  have h3':InK Cv V v0 ⟨fr 35 [(0,.yld l),(1,.rp [aG q] 0),(3,.p (aA (s:Int))),(4,.own 0),(5,.p (aA (i:Int))),(8,.p (aA n8)),(9,.p (aA (s:Int))),(13,.p (aA (q.length:Int))),(14,.p (aA (i:Int)))],[some (.row 3 (iS q s i).length ((iS q s i).map aA))]⟩ a3 w3:=⟨(eY (g:=⟨[21],[0],[],[]⟩) (k:=0) (eG _) (by kernel_rfl) h3.1),h3.2⟩
  have hp:=bDx q s i;cases hb:s / 2 ^ i % 2 == 1 with
  | true =>
   refine wpIn_cond_true (by rw [hc21,hb]) ?_
   rw [hb,if_pos rfl] at hp
   refine wpIn_mono (bOo (o:=iS q s i) hx ⟨rfl,by omega⟩ Cv [] V a3 w3 (by simp) h3'.1 none n) ?_
   rintro e a4 w4 ⟨rfl,h4,hk4⟩;refine hfin a4 w4 ⟨?_,(hk4.1 1 (by kernel_rfl)).trans h3'.2.1,hk4.2.trans h3'.2.2⟩
   have e8:(stB l q n8 s (iS q s (i+1)) i)=⟨fr 35 [(0,.yld l),(1,.rp [aG q] 0),(3,.p (aA (s:Int))),(4,.own 0),(8,.p (aA n8)),(9,.p (aA (s:Int))),(13,.p (aA (q.length:Int))),(14,.p (aA (i:Int)))],[some (.row 3 ((iS q s i).length+1) ((iS q s i).map aA++[aA (q.getD i 0)]))]⟩:=by
    rw [hp];unfold stB;rw [oS,iY];rfl
   rw [e8];exact h4
  | false =>
   refine wpIn_cond_false (by rw [hc21,hb]) (wpIn_skip ?_)
   rw [hb,if_neg (by simp),List.append_nil] at hp
   refine hfin a3 w3 ?_;rw [hp];exact ⟨(eY (g:=⟨[5],[0],[],[]⟩) (k:=0) (eG _) (by kernel_rfl) h3'.1),h3'.2⟩
 ·obtain rfl:i=q.length:=by omega
  refine wpIn_cond_false (by rw [hc15,decide_eq_false (by omega)]) (wpIn_exit ?_)
  show Exit.inBlock 2 (Exit.then K Q) (.exit 2) a1 w1
  unfold Exit.inBlock;dsimp only;rw [if_pos rfl];exact hK a1 w1 ⟨(eY (g:=⟨[15],[0],[],[]⟩) (k:=0) (eG _) (by kernel_rfl) h1.1),h1.2⟩
theorem aIs{a:Act}{W:World}{l id t0 t1 t2 t3:Nat}{ts:Array TypeId}{p0 p1 p2 p3:String}{f0 f1 f2 f3:Array Edge}{u:Value}{A B:World→Prop}{K:Act→World→Prop}{Q:Exit→Act→World→Prop}
  (hs:a.tmps.size=35) (h0:a.tmps.getD 0 undef = .func (.yield l) #[] #[]) (h4:a.tmps.getD 4 undef=u)
  (hy:YieldAt (Fen none) 1 Tp l #[u] W (fun e W'=>(e = .returned (.bool true)∧A W')∨(e = .returned (.bool false)∧B W')))
  (hA:∀ a' W',A W'→a'.defers=a.defers→a'.tmps.size=35→(∀ i,i<30→a'.tmps.getD i undef=a.tmps.getD i undef)→a'.tmps.getD 33 undef = .bool false→K a' W')
  (hB:∀ a' W',B W'→a'.defers=a.defers→a'.tmps.getD 33 undef = .bool true→K a' W') :
  (Code.region id #[{ dst:=some 30,op := .move (.tmp 0),type:=t0,pos:=p0,after:=f0,guard:=none },{ dst:=some 31,op := .move (.tmp 4),type:=t1,pos:=p1,after:=f1,guard:=none },
   {dst:=some 32,op := .call { callee := .value (.tmp 30),args := #[.tmp 31],argTypes:=ts },type:=t2,pos:=p2,after:=f2,guard:=none },{ dst:=some 33,op := .unOp .not 4 (.tmp 32),type:=t3,pos:=p3,after:=f3,guard:=none }] false).wpIn (Fen none) 2 Tp (Exit.then K Q) a W:=by
 refine wpIn_region_lit (wpListIn_plain rfl fun K1 hK1 => ?_)
 unfold Oper.wpIn;refine ⟨fun f _=>trivial,?_⟩
 rw [Oper.semAt_plain _ _ _ (by intro c hc';cases hc')]
 simp only [execOp,Sem.run_pure];refine hK1 _ _ (wpListIn_plain rfl fun K2 hK2 => ?_)
 unfold Oper.wpIn;refine ⟨fun f _=>trivial,?_⟩
 rw [Oper.semAt_plain _ _ _ (by intro c hc';cases hc')]
 simp only [execOp,Sem.run_pure];refine hK2 _ _ (wpListIn_plain rfl fun K3 hK3 => ?_)
 unfold Oper.wpIn;refine ⟨fun f _=>trivial,?_⟩
 rw [Oper.semAt_plain _ _ _ (by intro c hc';cases hc')]
 obtain ⟨fn,tmps,assign,body,hrun,hR⟩:=hy;have e30:(((a.put (some 30) (a.eval (.tmp 0))).put (some 31) ((a.put (some 30) (a.eval (.tmp 0))).eval (.tmp 4)))).eval (.tmp 30) = .func (.yield l) #[] #[]:=by
  show ((a.tmps.setIfInBounds 30 (a.tmps.getD 0 undef)).setIfInBounds 31 _).getD 30 undef=_;rw [h0];simp [kQ2,Array.getElem?_setIfInBounds,hs]
 have e31:(((a.put (some 30) (a.eval (.tmp 0))).put (some 31) ((a.put (some 30) (a.eval (.tmp 0))).eval (.tmp 4)))).eval (.tmp 31)=u:=by
  show ((a.tmps.setIfInBounds 30 (a.tmps.getD 0 undef)).setIfInBounds 31 ((a.tmps.setIfInBounds 30 (a.tmps.getD 0 undef)).getD 4 undef)).getD 31 undef=_;rw [← h4];simp [kQ2,Array.getElem?_setIfInBounds,hs]
 have e45:∀ i,i<30→(((a.put (some 30) (a.eval (.tmp 0))).put (some 31) ((a.put (some 30) (a.eval (.tmp 0))).eval (.tmp 4)))).tmps.getD i undef=a.tmps.getD i undef:=fun i hi=>by
  rw [oZ (fun e=>by cases e;omega),oZ (fun e=>by cases e;omega)]
 have eD:(((a.put (some 30) (a.eval (.tmp 0))).put (some 31) ((a.put (some 30) (a.eval (.tmp 0))).eval (.tmp 4)))).defers=a.defers:=rfl;have eS:(((a.put (some 30) (a.eval (.tmp 0))).put (some 31) ((a.put (some 30) (a.eval (.tmp 0))).eval (.tmp 4)))).tmps.size=35:=by
  show ((a.tmps.setIfInBounds _ _).setIfInBounds _ _).size=35;simp [hs]
 revert e30 e31 e45 eD eS;dsimp only;generalize (((a.put (some 30) (a.eval (.tmp 0))).put (some 31) ((a.put (some 30) (a.eval (.tmp 0))).eval (.tmp 4))))=a2;intro e30 e31 e45 eD eS;have er:Sem.run Tp (execOp a2.eval { dst:=some 32,op := .call { callee := .value (.tmp 30),args := #[.tmp 31],argTypes:=ts },type:=t2,pos:=p2,after:=f2,guard:=none }) W = .ok (.round l fn tmps assign body) W:=by
  rw [← hrun];simp only [execOp,resolve,Deferred.ofValue,e30,e31,List.map_toArray,iM,List.map_nil,Sem.run_bind,Sem.run_pure,invoke];simp
 rw [er,Oper.uponIn_round];refine ⟨fun h=>by simp [Fen,Fence.wide] at h,hR.mono ?_⟩
 have last:∀ (b:Bool) (w3:World),(∀ a',a'.defers=a.defers→a'.tmps.size=35→(∀ i,i<30→a'.tmps.getD i undef=a.tmps.getD i undef)→a'.tmps.getD 33 undef = .bool (!b)→K a' w3)→K3 (a2.put (some 32) (.bool b)) w3:=fun b w3 hfin=>by
  refine hK3 _ _ (wpListIn_plain rfl fun K4 hK4 => ?_)
  unfold Oper.wpIn;refine ⟨fun f _=>trivial,?_⟩
  rw [Oper.semAt_plain _ _ _ (by intro c hc';cases hc')]
  have e32:(a2.put (some 32) (.bool b)).eval (.tmp 32) = .bool b:=by
   show (a2.tmps.setIfInBounds 32 _).getD 32 undef=_;simp [kQ2,eS]
  have eu:Sem.run Tp (execOp (a2.put (some 32) (.bool b)).eval { dst:=some 33,op := .unOp .not 4 (.tmp 32),type:=t3,pos:=p3,after:=f3,guard:=none }) w3 = .ok (.value (.bool !b)) w3:=by
   simp only [execOp,e32];rfl
  rw [eu];refine hK4 _ _ (wpListIn_nil (hfin _ eD ?_ (fun i hi => ?_) ?_))
  ·show ((a2.tmps.setIfInBounds _ _).setIfInBounds _ _).size=35
   simp [eS]
  ·rw [oZ (fun e=>by cases e;omega),oZ (fun e=>by cases e;omega)]
   exact e45 i hi
  ·show ((a2.tmps.setIfInBounds 32 _).setIfInBounds 33 _).getD 33 undef=_
   simp [kQ2,eS]
 rintro e w3 (⟨rfl,h⟩ | ⟨rfl,h⟩)
 ·exact last true w3 fun a' h1 h2 h3 h4=>hA a' w3 h h1 h2 h3 h4
 ·exact last false w3 fun a' h1 h2 h3 h4=>hB a' w3 h h1 h4
end KV
end Go.Proofs
end
section
namespace Go.Proofs
open Go.RowKit
namespace KV
structure Lp (l:Nat) (v0:Value) (n8:Int) (s:Nat) (a:Act):Prop where
 size:a.tmps.size=35
 s0:a.tmps.getD 0 undef = .func (.yield l) #[] #[]
 s1:a.tmps.getD 1 undef=v0
 s8:a.tmps.getD 8 undef = .int .i64 n8
 s9:a.tmps.getD 9 undef = .int .i64 (s:Int)
 df:a.defers=[]
abbrev cxF(F:Nat→Prop):Cx:={ ι:=fun _=>none,κ:=fun _=>0,F:=F,R:=[] }
theorem aUf{P:Program}{F:Nat→Prop}{W:World}(hF:∀ b,F b→b<W.heap.size):aU P (cxF F) [] W :=
 ⟨fun _ _ _ _ h=>by simp at h,fun _ _ _ h=>by simp at h,fun _ _ _ h=>by simp at h,fun _ _ _ _ _ h=>by simp at h,fun _ _ _ h=>by simp at h,hF,fun _ _ _ h=>by simp at h⟩
theorem aMg{C:Cx}{M:Mem}{w:World}{n:Int}{u:Value}(h:Rep C M w (.p (aA n)) u):u = .int .i64 n:=by
 cases h with
 | p _ _ h=>cases h;rfl
theorem Lp.ink{F:Nat→Prop}{l:Nat}{v0:Value}{q:List Int}{n8:Int}{s:Nat}{a:Act}{W:World}(h:Lp l v0 n8 s a)(hF:∀ b,F b→b<W.heap.size)(hr:Rep (cxF F) [] W (.rp [aG q] 0) v0):InK (cxF F) W v0 (stA l q n8 s) a W:=by
 refine ⟨⟨cxF F,aMj h.size ?_,aUf hF,Fr.refl _ _ _,?_⟩,h.s1,h.df⟩
 ·intro p hp
  simp only [kM,List.not_mem_nil,or_false] at hp
  rcases hp with rfl | rfl | rfl | rfl
  ·rw [h.s0];exact .yld l
  ·rw [h.s1];exact hr
  ·rw [h.s8];exact .p _ _ (.v _)
  ·rw [h.s9];exact .p _ _ (.v _)
 ·rw [h.df];exact .nil rfl (oI rfl)
theorem InK.lp{Cv:Cx}{V W:World}{l:Nat}{v0:Value}{n8:Int}{s:Nat}{a:Act}{st:St}(h:InK Cv V v0 st a W)(h35:st.t.length=35)(e0:st.t[0]? = some (.yld l))(e8:st.t[8]? = some (.p (aA n8)))(e9:st.t[9]? = some (.p (aA (s:Int)))):Lp l v0 n8 s a:=by
 obtain ⟨⟨C,hS,_⟩,h1,hd⟩:=h;refine ⟨hS.size.trans h35,?_,h1,aMg (hS.at e8),aMg (hS.at e9),hd⟩
 have:=hS.at e0
 revert this;generalize a.tmps.getD 0 undef=u;intro this;cases this;rfl
theorem aMh{C0 C:Cx}{V W:World}{M:Mem}(h:Fr C0 [] V C M W):V.grownBy W none :=
 ⟨h.os,h.tape,h.out,h.size,fun k hk _=>h.keep k hk (fun _ _ h=>by simp at h)⟩
theorem InK.grown{Cv:Cx}{V W:World}{v0:Value}{st:St}{a:Act}(h:InK Cv V v0 st a W):V.grownBy W none:=by
 obtain ⟨⟨C,_,_,hF,_⟩,_⟩:=h;exact aMh hF
theorem InK.kp{Cv:Cx}{V W:World}{v0:Value}{st:St}{a:Act}(h:InK Cv V v0 st a W){F:Nat→Prop}(hF:∀ b,F b→b<V.heap.size):KpG F V W :=
 ⟨h.grown.size,fun b hb=>pA h.grown b (hF b hb)⟩
theorem InK.rowH{F:Nat→Prop}{V W:World}{v0:Value}{st:St}{a:Act}{o:List Int}(h:InK (cxF F) V v0 st a W)(e4:st.t[4]? = some (.own 0))(em:st.m=[some (mI o)])(hl:o.length≤1000):bJc Tp (o,a.tmps.getD 4 undef) V W:=by
 obtain ⟨⟨C,hS,hM,hF,_⟩,_⟩:=h;refine ⟨hl,C,em ▸ hM,em ▸ hS.at e4,fun b hb => ?_⟩
 rcases hF.new 0 (mI o) b (by rw [em];rfl) rfl hb with h | ⟨i,o',h,_⟩
 ·exact h
 ·simp at h
theorem aUg{n:Nat}(h:n≤1152921504606846977):inR (n:Int):=by unfold inR;omega
theorem bJa{n:Nat}(h:n≤60):(2:Nat) ^ n≤1152921504606846976:=gO (Nat.pow_le_pow_right (by omega) h) (by decide)
theorem bDu(q:List Int)(s:Nat)(h:s<2 ^ q.length):(jX q).take (s+1)=(jX q).take s++[iS q s q.length]:=by
 rw [List.take_add_one]
 congr 1
 unfold jX;rw [gM,mQ h];rfl
theorem vZ(q:List Int):(jX q).length=2 ^ q.length:=by unfold jX;simp
set_option maxHeartbeats 2000000 in
theorem bDv{F:Nat→Prop}{q:List Int}(hq:q.length≤60){l:Nat}{v0:Value}{w:World}(hF:∀ b,F b→b<w.heap.size)(hr:Rep (cxF F) [] w (.rp [aG q] 0) v0){a:Act}(ha:a.tmps.size=35)(ha0:a.tmps.getD 0 undef = .func (.yield l) #[] #[])(ha1:a.tmps.getD 1 undef=v0)(had:a.defers=[])
  {J Jx:List (List Int × Value)→World→Prop} (hJ:AbidesFrom w.heap.size J) (hJx:AbidesFrom w.heap.size Jx)
  (hY:∀ pre x W0 W1,J pre W0→W0.grownBy W1 none→bJc Tp x W0 W1→pre.length<2 ^ q.length→YieldAt (Fen none) 1 Tp l #[x.2] W1 fun e W' =>
   (e = .returned (.bool true)∧J (pre++[x]) W'∧KpG F W0 W')∨(e = .returned (.bool false)∧Jx (pre++[x]) W'))
  (h0:J [] w) {R:Ending→World→Prop} (hR:∀ W',((∃ xs:List (List Int × Value),xs.map (·.1)=jX q∧J xs W')∨(∃ pre:List (List Int × Value),pre.map (·.1) <+: jX q∧Jx pre W'))→R (.returned (.tuple #[])) W') :
  cO.wpIn (Fen none) 2 Tp (bodyPost Tp Tryz.f182 R) a w:=by
 have hpow:=bJa hq;obtain ⟨N,hN⟩:∃ N,2 ^ q.length=N:=⟨_,rfl⟩;rw [hN] at hpow
 have c0 : cO = .seq (sub cO [0]) (.block 0 (.loop (.seq (sub cO [1, 0, 0, 0]) (.seq (.cond (.tmp 10) .skip (.exit 0)) (.seq (.block 1 (.seq (sub cO [1, 0, 0, 1, 1, 0, 0, 0]) (.seq (sub cO [1, 0, 0, 1, 1, 0, 0, 1, 0]) (.seq (.seq (sub cO [1, 0, 0, 1, 1, 0, 0, 1, 1, 0, 0]) (.block 2 (.loop (sub cO [1, 0, 0, 1, 1, 0, 0, 1, 1, 0, 1, 0, 0])))) (.seq (.region 10 #[{ dst := some 30, op := .move (.tmp 0), type := 155, pos := "outcome.go:38", after := #[], guard := none }, { dst := some 31, op := .move (.tmp 4), type := 33, pos := "outcome.go:38", after := #[], guard := none }, { dst := some 32, op := .call { callee := .value (.tmp 30), args := #[.tmp 31], argTypes := #[33] }, type := 4, pos := "outcome.go:38", after := #[{ on := 0, ground := .data }, { on := 1, ground := .data }], guard := none }, { dst := some 33, op := .unOp .not 4 (.tmp 32), type := 4, pos := "outcome.go:38", after := #[{ on := 2, ground := .data }], guard := none }] false) (.cond (.tmp 33) .ret .skip)))))) (sub cO [1, 0, 0, 1, 1, 1])))))) := by kernel_rfl
 rw [c0];have hsame:∀ {W'},KpG F w W'→Rep (cxF F) [] W' (.rp [aG q] 0) v0:=fun hk=>by
  cases hr with
  | rp _ _ b o us h1 h2 h3 =>
   exact .rp _ _ b o us (fun i hi=>⟨(h1 i hi).1,(eW (hk.same b (h1 i hi).1) _).trans (h1 i hi).2⟩) (fun i hi=>(h2 i hi).mono (fun _ h=>h) hk.same) h3
 have hFw:∀ {W'},KpG F w W'→∀ b,F b→b<W'.heap.size:=fun hk b hb=>kQ8 (hF b hb) hk.size
 have n8e:(1:Int)*2 ^ ((q.length:Int).toNat)=(N:Int):=by
  rw [aWj,Int.one_mul,← hN];push_cast;rfl
 have hI0:InK (cxF F) w v0 ⟨fr 35 [(0,.yld l),(1,.rp [aG q] 0)],[]⟩ a w:=by
  refine ⟨⟨cxF F,aMj ha ?_,aUf hF,Fr.refl _ _ _,by rw [had];exact .nil rfl (oI rfl)⟩,ha1,had⟩
  intro p hp;simp only [kM,List.not_mem_nil,or_false] at hp
  rcases hp with rfl | rfl
  ·rw [ha0];exact .yld l
  ·rw [ha1];exact hr
 refine wpIn_seq ?_;refine InK.step (bOg (l:=l) (q:=q) ⟨by omega,by omega,rfl⟩ (by rw [n8e];exact aUg (by omega))) (by kernel_rfl) hI0 fun a1 w1 h1 => ?_
 rw [n8e] at h1
 refine wpIn_block ?_;refine wpIn_loop_ghost (fun k a W=>∃ s,s≤N∧k=N-s∧Lp l v0 (N:Int) s a∧KpG F w W∧∃ pre:List (List Int × Value),pre.map (·.1)=(jX q).take s∧J pre W) (N)
  ⟨0,by omega,by omega,h1.lp (s:=0) (by rfl) (by rfl) (by rfl) (by rfl),h1.kp hF,[],by simp,hJ [] w w1 none h0 h1.grown (fun r e=>by cases e)⟩ ?_
 rintro k a W ⟨s,hs,rfl,hL,hK,pre,hpre,hJp⟩;have hI:=hL.ink (hFw hK) (hsame hK);have grow:∀ {W0 W':World} {ys},KpG F w W0→J ys W0→W0.grownBy W' none→J ys W':=fun hk hj hg=>hJ _ _ _ none hj hg (fun r e=>by cases e)
 refine wpIn_seq ?_;refine InK.step bOh (by kernel_rfl) hI fun a2 w2 h2 => ?_
 have hc10:a2.eval (.tmp 10) = .bool (decide ((s:Int)<(N:Int))):=by
  obtain ⟨⟨C2,hS2,_⟩,_⟩:=id h2;have:=uL hS2 10 (by omega)
  show a2.tmps.getD 10 undef=_;revert this;generalize a2.tmps.getD 10 undef=u;intro this;have h3:Rep C2 _ w2 (.p (.v (.bool (decide ((s:Int)<(N:Int)))))) u:=this;cases h3 with
  | p _ _ h=>cases h;rfl
 refine wpIn_seq ?_
 by_cases hlt:s<N
 ·refine wpIn_cond_true (by rw [hc10,decide_eq_true (by omega)]) (wpIn_skip ?_)
  show Code.wpIn _ _ _ _ _ _ _;have h2':InK (cxF F) W v0 (stA l q (N:Int) s) a2 w2:=⟨(eY (g:=⟨[10],[],[],[]⟩) (k:=0) (eG _) (by kernel_rfl) h2.1),h2.2⟩
  refine wpIn_seq ?_;refine wpIn_block ?_;refine wpIn_seq ?_;refine InK.step bOi (by kernel_rfl) h2' fun a3 w3 h3 => ?_
  refine wpIn_seq ?_;refine InK.step bOj (by kernel_rfl) h3 fun a4 w4 h4 => ?_
  refine wpIn_seq ?_;refine wpIn_seq ?_;refine InK.step bOk (by kernel_rfl) h4 fun a5 w5 h5 => ?_
  refine bJb hq (by omega) h5 fun a6 w6 h6 => ?_
  refine wpIn_seq ?_;have hL6:Lp l v0 (N:Int) s a6:=h6.lp (s:=s) (by rfl) (by rfl) (by rfl) (by rfl)
  have hpl:pre.length=s:=by
   have:=congrArg List.length hpre;rw [fL,nC,vZ,hN] at this
   omega
  have hrow:bJc Tp (iS q s q.length,a6.tmps.getD 4 undef) W w6:=h6.rowH (by rfl) (by rfl) (gO (aMk q s q.length) (by omega))
  have hmap:(pre++[(iS q s q.length,a6.tmps.getD 4 undef)]).map (·.1)=(jX q).take (s+1):=by
   rw [bDu q s (hN ▸ hlt),iY,hpre];rfl
  refine aIs hL6.size hL6.s0 rfl (hY pre _ W w6 hJp h6.grown hrow (by omega)) (A:=fun W'=>J (pre++[(iS q s q.length,a6.tmps.getD 4 undef)]) W'∧KpG F W W') (B:=fun W'=>Jx (pre++[(iS q s q.length,a6.tmps.getD 4 undef)]) W') ?_ ?_
  ·rintro a7 w7 ⟨hj7,hk7⟩ hd7 hs7 hl7 h33
   refine wpIn_cond_false h33 (wpIn_skip ?_);show Code.wpIn _ _ _ _ _ _ _;have hL7:Lp l v0 (N:Int) s a7:=⟨hs7,(hl7 0 (by omega)).trans hL6.s0,(hl7 1 (by omega)).trans hL6.s1,(hl7 8 (by omega)).trans hL6.s8,(hl7 9 (by omega)).trans hL6.s9,hd7.trans hL6.df⟩
   have hK7:=hK.trans hk7;refine InK.step (bOq (aUg (by omega))) (by kernel_rfl) (hL7.ink (hFw hK7) (hsame hK7)) fun a8 w8 h8 => ?_
   exact ⟨N-(s+1),by omega,s+1,by omega,rfl,h8.lp (by rfl) (by rfl) (by rfl) (by rfl),hK7.trans (h8.kp (hFw hK7)),_,hmap,grow hK7 hj7 h8.grown⟩
  ·rintro a7 w7 hj7 hd7 h33
   refine wpIn_cond_true h33 (wpIn_ret ?_);exact bodyPost_ret (results_none rfl _ _ _) (hd7.trans hL6.df) (hR _ (.inr ⟨_,by rw [hmap];exact List.take_prefix _ _,hj7⟩))
 ·have hsN:s=N:=by omega
  subst hsN;refine wpIn_cond_false (by rw [hc10,decide_eq_false (by omega)]) (wpIn_exit ?_)
  have hL2:Lp l v0 (s:Int) s a2:=h2.lp (by rfl) (by rfl) (by rfl) (by rfl)
  show Exit.inBlock 0 (bodyPost Tp Tryz.f182 R) (.exit 0) a2 w2;unfold Exit.inBlock;dsimp only;rw [if_pos rfl];refine ⟨hL2.df,_,results_none rfl _ _ _,hR _ (.inl ⟨pre,?_,grow hK hJp h2.grown⟩)⟩;rw [hpre,← hN,← vZ,List.take_length]
theorem bZy{C:Cx}{M:Mem}{w:World}{cs:List PV}{k:Nat}{u:Value}(h:Rep C M w (.rp cs k) u):Rep (cxF C.F) [] w (.rp cs k) u:=by
 cases h with
 | rp _ _ b o us h1 h2 h3=>exact .rp _ _ b o us h1 h2 h3
theorem bZz{F:Nat→Prop}{w W:World}{cs:List PV}{k:Nat}{u:Value}(h:Rep (cxF F) [] w (.rp cs k) u)(hk:KpG F w W):Rep (cxF F) [] W (.rp cs k) u:=by
 cases h with
 | rp _ _ b o us h1 h2 h3=>exact .rp _ _ b o us (fun i hi=>⟨(h1 i hi).1,(eW (hk.same b (h1 i hi).1) _).trans (h1 i hi).2⟩) (fun i hi=>(h2 i hi).mono (fun _ h=>h) hk.same) h3
theorem bDw(y v0:Value)(k:Nat):(#[y] ++ #[v0]++Array.replicate k undef).size=2+k∧(#[y] ++ #[v0]++Array.replicate k undef).getD 0 undef=y∧(#[y] ++ #[v0]++Array.replicate k undef).getD 1 undef=v0:=by
 refine ⟨by simp,?_,?_⟩ <;> simp [kQ2,Array.getElem?_append]
theorem aFu(q:List Int)(hq:q.length≤60):bQa Tp (.fn 182 [] [.rp [aG q] 0]) 182 (2 ^ q.length) (jX q):=fun C M w u hu0 hFs=>by
 cases hu0 with
 | fn _ _ _ us vs h1 h2 h3 h4 =>
  obtain rfl:us = #[]:=by simpa using h1
  have q0:=h4 0 (by simp)
  simp only [List.getElem_cons_zero] at q0
  obtain ⟨v0,rfl⟩:∃ v0,vs = #[v0]:=by
   have:vs.toList.length=1:=by simpa using h2
   match hv:vs.toList,this with
   | [x0],_=>exact ⟨x0,by rw [← hv]⟩
  change Rep C M w (.rp [aG q] 0) v0 at q0
  have hr:=bZy q0;refine ⟨#[v0],rfl,fun l J Jx W hW hJ hJx hY h0 => ?_⟩
  have hk:KpG C.F w W:=⟨hW.size,fun b hb=>hW.block b (hFs b hb)⟩
  have hr':=bZz hr hk;refine callsIn_of_wp Tryz.func182 rfl trivial ?_ rfl;obtain ⟨k1,k2,k3⟩:=bDw (.func (.yield l) #[] #[]) v0 (Tryz.f182.ntmps-(#[Value.func (.yield l) #[] #[]] ++ #[v0]).size);exact bDv hq (fun b hb=>kQ8 (hFs b hb) hW.size) hr' (a:={ tmps := #[.func (.yield l) #[] #[]] ++ #[v0]++Array.replicate (Tryz.f182.ntmps-(#[Value.func (.yield l) #[] #[]] ++ #[v0]).size) undef,defers:=[] }) k1 k2 k3 rfl hJ hJx hY h0 fun W' h=>⟨⟨_,rfl⟩,h⟩
end KV
end Go.Proofs
end
namespace Go.Proofs
namespace KV
section
variable {dl:Int}{sk dc:Lqq}

noncomputable abbrev oD:Code:=sub (cd Tryz.f129) [1,0,1,0,0]
noncomputable abbrev oE:Code:=sub (cd Tryz.f54) [1,1,1,0,1,0,0]
theorem bIy:((-1:Int) == (-1:Int))=true:=by first | decide | simp
theorem aRf{q:List Int}{base:Nat}:FV Tp 132 [(.p (aG q))] base (.fn 182 [] [(.rp [(aG q)] 0)]) []:=by
 exact FV.fin Tryz.func132 rfl (o:=[.g 3 ⟨[],[],[0],[]⟩]) (l:=[]) (by kernel_rfl) (gn)
abbrev aMf(dl:Int)(sk dc:Lqq)(x:List Int)(r:Int):Prop:=∀ base:Nat,FV Tp 128 [oU dl sk dc,.p (.agg (x.map aA))] base (pI r) []
theorem bYa{n dl:Int}{sk dc:Lqq}{bib tm y0 y1 y2 y3 y4 y5 r6:Int}{r0:Bool}(h0:cS .i64 (atF dc.reverse) (.int .i64 n))(h1:(dV (atF dc.reverse) (.int .i64 n))=true)(h2:fJ (atF dc.reverse) (.int .i64 n)=some (dcE y0 y1 y2 y3 y4 y5))(h3:aMf dl sk dc [y0,y1,y2,y3,y4,y5] r6)(er0:r0=(r6 != bib)){base:Nat}:FV Tp 189 [(pI n),(.rp [(PV.rp (aI dl sk dc) 0)] 0),(.rp [(aA bib),(aA tm)] 0)] base (pB r0) []:=by
 subst er0;exact FV.fin Tryz.func189 rfl (o:=[.x (PV.rp (aI dl sk dc) 0),.x (PV.rp (aI dl sk dc) 0),.x (.mp (atF dc.reverse)),bT,.x (dcE y0 y1 y2 y3 y4 y5),.c (pI r6) [],.x (aA bib)]) (l:=[[(aA bib),(aA tm)][0]? = some (aA bib),FC Tp 128 [(.rp (aI dl sk dc) 0),(.p (dcE y0 y1 y2 y3 y4 y5))] [] 0 (pI r6) [],_,_,_,(aI dl sk dc)[3]? = some (.mp (atF dc.reverse)),[(PV.rp (aI dl sk dc) 0)][0]? = some (PV.rp (aI dl sk dc) 0),[(PV.rp (aI dl sk dc) 0)][0]? = some (PV.rp (aI dl sk dc) 0)]) (by kernel_rfl) (gc rfl (gc (FV.fc (h3 _) rfl) (gc h2 (gc h1 (gc h0 (gc rfl (gc rfl (gc rfl gn))))))))
theorem bYb{n m:Int}{r0:Bool}(er0:r0=(n == m)){base:Nat}:FV Tp 133 [(pI n),(.rp [(aA m)] 0)] base (pB r0) []:=by
 subst er0;exact FV.fin Tryz.func133 rfl (o:=[.x (aA m)]) (l:=[[(aA m)][0]? = some (aA m)]) (by kernel_rfl) (gc rfl gn)
abbrev bIz(dl:Int)(sk dc:Lqq):PV := .rp (aI dl sk dc) 0
abbrev aRg(dl:Int)(sk dc:Lqq)(bib tm n:Int)(b:Bool):Prop:=∀ base:Nat,FV Tp 189 [.p (aA n),.rp [bIz dl sk dc] 0,.rp [aA bib,aA tm] 0] base (pB b) []
theorem aIr(n m:Int){base:Nat}:FV Tp 133 [.p (aA n),.rp [aA m] 0] base (pB (n == m)) []:=bYb rfl
def gD(l:List Int)(dl:Int)(sk:Lqq)(dc:Lqq)(bib:Int)(tm:Int)(i:Nat):St:=⟨fr 19 [(0,(.own 0)),(1,(.fn 189 [] [(.rp [(PV.rp (aI dl sk dc) 0)] 0),(.rp [(aA bib),(aA tm)] 0)])),(7,(pI (l.length:Int))),(8,(pI (i:Int)))],[some (.row 3 l.length (l.map aA))]⟩
theorem bNz{l:List Int}{dl:Int}{sk dc:Lqq}{bib tm:Int}{i'0:Nat}(hl0:aE Tp 1 oD (gD l dl sk dc bib tm 0) (.exit 0) (gD l dl sk dc bib tm i'0)):FMM Tp 129 [(.own 0),(.fn 189 [] [(.rp [(PV.rp (aI dl sk dc) 0)] 0),(.rp [(aA bib),(aA tm)] 0)])] [some (.row 3 l.length (l.map aA))] (pI (-1:Int)) [some (.row 3 l.length (l.map aA))]:=by
 exact FMM.fin (k:=1) (g:=⟨[],[],[],[]⟩) rfl Tryz.func129 rfl (o:=[.k 6 ⟨(rng [(2,5),(9,10)]),[],[],[]⟩ (.exit 0) (gD l dl sk dc bib tm i'0)]) (l:=[_]) (by kernel_rfl) (gc hl0.code gn)
theorem bOa{l:List Int}{dl:Int}{sk dc:Lqq}{bib tm:Int}{i'0:Nat}(hl0:aE Tp 1 oD (gD l dl sk dc bib tm 0) .ret (bG (gD l dl sk dc bib tm i'0) [(4,(pI (i'0:Int)))])):FMM Tp 129 [(.own 0),(.fn 189 [] [(.rp [(PV.rp (aI dl sk dc) 0)] 0),(.rp [(aA bib),(aA tm)] 0)])] [some (.row 3 l.length (l.map aA))] (pI (i'0:Int)) [some (.row 3 l.length (l.map aA))]:=by
 exact FMM.fin (k:=1) (g:=⟨[],[],[],[]⟩) rfl Tryz.func129 rfl (o:=[.k 6 ⟨(rng [(2,5),(9,10)]),[],[],[]⟩ .ret (bG (gD l dl sk dc bib tm i'0) [(4,(pI (i'0:Int)))])]) (l:=[_]) (by kernel_rfl) (gc hl0.code gn)
theorem aRh{l:List Int}{dl:Int}{sk dc:Lqq}{bib tm:Int}{i:Nat}{x100:Int}{b101:Bool}(h0:(i:Int)<(l.length:Int))(h1:l[i]? = some x100)(h2:aRg dl sk dc bib tm x100 b101)(h3:b101=true):aC Tp 1 oD (gD l dl sk dc bib tm i) .ret (bG (gD l dl sk dc bib tm i) [(4,(pI (i:Int)))]):=by
 exact aC.fin (g:=⟨(rng [(2,2),(5,2),(9,10)]),[],[],[]⟩) (o:=[bT,.x (aA x100),.c (pB b101) [],bT]) (l:=[_,FC Tp 189 [(pI x100),(.rp [(PV.rp (aI dl sk dc) 0)] 0),(.rp [(aA bib),(aA tm)] 0)] [] 1 (pB b101) [],_,_,_]) (by kernel_rfl) (gc h3 (gc (FV.fc (h2 _) rfl) (gc (atm aA h1) (gc (eH (i:=(i:Int)) (kQ1 _) h1) (gc (aQ h0) gn)))))
theorem aRi{l:List Int}{dl:Int}{sk dc:Lqq}{bib tm:Int}{i:Nat}{x100:Int}{b101:Bool}{i':Nat}(h0:(i:Int)<(l.length:Int))(h1:l[i]? = some x100)(h2:aRg dl sk dc bib tm x100 b101)(h3:b101=false)(h4:inR (((i+1):Nat):Int))(ei':i'=(i+1)):aC Tp 1 oD (gD l dl sk dc bib tm i) .normal (gD l dl sk dc bib tm i'):=by
 subst ei';exact aC.fin (g:=⟨(rng [(2,5),(9,10)]),[],[],[]⟩) (o:=[bT,.x (aA x100),.c (pB b101) [],bF]) (l:=[_,_,FC Tp 189 [(pI x100),(.rp [(PV.rp (aI dl sk dc) 0)] 0),(.rp [(aA bib),(aA tm)] 0)] [] 1 (pB b101) [],_,_,_]) (by kernel_rfl) (gc h4 (gc h3 (gc (FV.fc (h2 _) rfl) (gc (atm aA h1) (gc (eH (i:=(i:Int)) (kQ1 _) h1) (gc (aQ h0) gn))))))
theorem aRj{l:List Int}{dl:Int}{sk dc:Lqq}{bib tm:Int}{i:Nat}(h0:(l.length:Int)≤(i:Int)):aC Tp 1 oD (gD l dl sk dc bib tm i) (.exit 0) (gD l dl sk dc bib tm i):=by
 exact aC.fin (g:=⟨(rng [(2,5),(9,10)]),[],[],[]⟩) (o:=[bF]) (l:=[_]) (by kernel_rfl) (gc (aR h0) gn)
abbrev bOb(l:List Int)(dl:Int)(sk:Lqq)(dc:Lqq)(bib:Int)(tm:Int)(i:Int):Prop:=FMM Tp 129 [.own 0,(.fn 189 [] [(.rp [(PV.rp (aI dl sk dc) 0)] 0),(.rp [(aA bib),(aA tm)] 0)])] [some (.row 3 l.length (l.map aA))] (pI i) [some (.row 3 l.length (l.map aA))]
def lA(dl:Int)(sk:Lqq)(dc:Lqq)(bib:Int)(tm:Int)(cn:Nat)(cc:List PV)(i:Nat)(j:Nat):St:=⟨fr 42 [(0,(.own 0)),(1,(.fn 189 [] [(.rp [(PV.rp (aI dl sk dc) 0)] 0),(.rp [(aA bib),(aA tm)] 0)])),(4,(.p bI)),(5,(pI (i:Int))),(6,(pI (j:Int)))],[some (.row 3 cn cc)]⟩
theorem bYc{l:List Int}{dl:Int}{sk dc:Lqq}{bib tm:Int}{i0:Nat}{c'1:List Int}{i'2 j'3:Nat}{r0c:List PV}(h0:bOb l dl sk dc bib tm (i0:Int))(h1:(i0:Int)≠(-1:Int))(h2:inR (((i0+1):Nat):Int))(hl3:aE Tp 1 oE (lA dl sk dc bib tm l.length (l.map aA) i0 (i0+1)) (.exit 0) (lA dl sk dc bib tm c'1.length (c'1.map aA) i'2 j'3))(h4:0≤(i'2:Int)∧(i'2:Int)≤(c'1.length:Int)∧(c'1.length:Int)≤(c'1.length:Int))(h5:(i'2*1)+(c'1.length-i'2)≤(c'1.map aA).length)(h6:0≤(0:Int)∧(0:Int)≤(i'2:Int)∧(i'2:Int)≤(c'1.length:Int))(er0c:r0c=((((c'1.map aA).take (i'2*1)++List.replicate (c'1.length-i'2) (PV.v (.int .i64 0))++(c'1.map aA).drop ((i'2*1)+(List.replicate (c'1.length-i'2) (PV.v (.int .i64 0))).length)).drop 0).take (i'2*(((c'1.map aA).take (i'2*1)++List.replicate (c'1.length-i'2) (PV.v (.int .i64 0))++(c'1.map aA).drop ((i'2*1)+(List.replicate (c'1.length-i'2) (PV.v (.int .i64 0))).length)).length / c'1.length)))):FMM Tp 54 [(.own 0),(.fn 189 [] [(.rp [(PV.rp (aI dl sk dc) 0)] 0),(.rp [(aA bib),(aA tm)] 0)])] [some (.row 3 l.length (l.map aA))] (.p (.sl i'2 r0c)) [some .dead]:=by
 subst er0c;exact FMM.fin (k:=1) (g:=⟨[],[],[0],[]⟩) rfl Tryz.func54 rfl (o:=[.c (pI (i0:Int)) [(0,(.row 3 l.length (l.map aA)))],bF,.k 4 ⟨(rng [(2,2),(7,29)]),[],[],[]⟩ (.exit 0) (lA dl sk dc bib tm c'1.length (c'1.map aA) i'2 j'3)]) (l:=[_,_,_,_,_,_,FC Tp 129 [(.own 0),(.fn 189 [] [(.rp [(PV.rp (aI dl sk dc) 0)] 0),(.rp [(aA bib),(aA tm)] 0)])] [(0,(.row 3 l.length (l.map aA)))] 1 (pI (i0:Int)) [(0,(.row 3 l.length (l.map aA)))]]) (by kernel_rfl) (gc h6 (gc h5 (gc h4 (gc hl3.code (gc h2 (gc (bE h1) (gc (FMM.fc (ids:=[0]) h0 (by kernel_rfl)) gn)))))))
theorem bYd{l:List Int}{dl:Int}{sk dc:Lqq}{bib tm:Int}(h0:bOb l dl sk dc bib tm (-1:Int)):FMM Tp 54 [(.own 0),(.fn 189 [] [(.rp [(PV.rp (aI dl sk dc) 0)] 0),(.rp [(aA bib),(aA tm)] 0)])] [some (.row 3 l.length (l.map aA))] (.p (aG l)) [some .dead]:=by
 exact FMM.fin (k:=1) (g:=⟨[],[],[0],[]⟩) rfl Tryz.func54 rfl (o:=[.c (pI (-1:Int)) [(0,(.row 3 l.length (l.map aA)))],bT]) (l:=[_,FC Tp 129 [(.own 0),(.fn 189 [] [(.rp [(PV.rp (aI dl sk dc) 0)] 0),(.rp [(aA bib),(aA tm)] 0)])] [(0,(.row 3 l.length (l.map aA)))] 1 (pI (-1:Int)) [(0,(.row 3 l.length (l.map aA)))]]) (by kernel_rfl) (gc bIy (gc (FMM.fc (ids:=[0]) h0 (by kernel_rfl)) gn))
theorem bDo{bib tm:Int}{c:List Int}{i j:Nat}{x100:Int}{b101:Bool}{x102:Int}{c':List Int}{i' j':Nat}(h0:(j:Int)<(c.length:Int))(h1:c[j]? = some x100)(h2:aRg dl sk dc bib tm x100 b101)(h3:b101=false)(h4:c[i]? = some x102)(h5:(i*1)<(c.map aA).length)(h6:inR (((i+1):Nat):Int))(h7:inR (((j+1):Nat):Int))(ec'n:c'.length=c.length)(ec'c:c'.map aA=((c.map aA).set (i*1) (aA x100)))(ei':i'=(i+1))(ej':j'=(j+1)):aC Tp 1 oE (lA dl sk dc bib tm c.length (c.map aA) i j) .normal (lA dl sk dc bib tm c'.length (c'.map aA) i' j'):=by
 subst ei' ej';have raw:aC Tp 1 oE (lA dl sk dc bib tm c.length (c.map aA) i j) .normal (lA dl sk dc bib tm c.length ((c.map aA).set (i*1) (aA x100)) (i+1) (j+1)):=aC.fin (g:=⟨(rng [(2,2),(7,29)]),[],[],[]⟩) (o:=[bT,.x (aA x100),.c (pB b101) [],bT]) (l:=[_,_,_,_,_,FC Tp 189 [(pI x100),(.rp [(PV.rp (aI dl sk dc) 0)] 0),(.rp [(aA bib),(aA tm)] 0)] [] 1 (pB b101) [],_,_,_]) (by kernel_rfl) (gc h7 (gc h6 (gc h5 (gc (eH (i:=(i:Int)) (kQ1 _) h4) (gc (cP h3) (gc (FV.fc (h2 _) rfl) (gc (atm aA h1) (gc (eH (i:=(j:Int)) (kQ1 _) h1) (gc (aQ h0) gn)))))))))
 exact raw.cast (by rw [ec'n,ec'c])
theorem bDp{bib tm:Int}{c:List Int}{i j:Nat}{x100:Int}{b101:Bool}{j':Nat}(h0:(j:Int)<(c.length:Int))(h1:c[j]? = some x100)(h2:aRg dl sk dc bib tm x100 b101)(h3:b101=true)(h4:inR (((j+1):Nat):Int))(ej':j'=(j+1)):aC Tp 1 oE (lA dl sk dc bib tm c.length (c.map aA) i j) .normal (lA dl sk dc bib tm c.length (c.map aA) i j'):=by
 subst ej';exact aC.fin (g:=⟨(rng [(2,2),(7,29)]),[],[],[]⟩) (o:=[bT,.x (aA x100),.c (pB b101) [],bF]) (l:=[_,_,FC Tp 189 [(pI x100),(.rp [(PV.rp (aI dl sk dc) 0)] 0),(.rp [(aA bib),(aA tm)] 0)] [] 1 (pB b101) [],_,_,_]) (by kernel_rfl) (gc h4 (gc (bA h3) (gc (FV.fc (h2 _) rfl) (gc (atm aA h1) (gc (eH (i:=(j:Int)) (kQ1 _) h1) (gc (aQ h0) gn))))))
theorem bDq{bib tm:Int}{c:List Int}{i j:Nat}(h0:(c.length:Int)≤(j:Int)):aC Tp 1 oE (lA dl sk dc bib tm c.length (c.map aA) i j) (.exit 0) (lA dl sk dc bib tm c.length (c.map aA) i j):=by
 exact aC.fin (g:=⟨(rng [(2,2),(7,29)]),[],[],[]⟩) (o:=[bF]) (l:=[_]) (by kernel_rfl) (gc (aR h0) gn)
def gE(l:List Int)(m:Int)(i:Nat):St:=⟨fr 19 [(0,(.own 0)),(1,(.fn 133 [] [(.rp [(aA m)] 0)])),(7,(pI (l.length:Int))),(8,(pI (i:Int)))],[some (.row 3 l.length (l.map aA))]⟩
theorem bOc{l:List Int}{m:Int}{i'0:Nat}(hl0:aE Tp 1 oD (gE l m 0) (.exit 0) (gE l m i'0)):FMM Tp 129 [(.own 0),(.fn 133 [] [(.rp [(aA m)] 0)])] [some (.row 3 l.length (l.map aA))] (pI (-1:Int)) [some (.row 3 l.length (l.map aA))]:=by
 exact FMM.fin (k:=1) (g:=⟨[],[],[],[]⟩) rfl Tryz.func129 rfl (o:=[.k 6 ⟨(rng [(2,5),(9,10)]),[],[],[]⟩ (.exit 0) (gE l m i'0)]) (l:=[_]) (by kernel_rfl) (gc hl0.code gn)
theorem bOd{l:List Int}{m:Int}{i'0:Nat}(hl0:aE Tp 1 oD (gE l m 0) .ret (bG (gE l m i'0) [(4,(pI (i'0:Int)))])):FMM Tp 129 [(.own 0),(.fn 133 [] [(.rp [(aA m)] 0)])] [some (.row 3 l.length (l.map aA))] (pI (i'0:Int)) [some (.row 3 l.length (l.map aA))]:=by
 exact FMM.fin (k:=1) (g:=⟨[],[],[],[]⟩) rfl Tryz.func129 rfl (o:=[.k 6 ⟨(rng [(2,5),(9,10)]),[],[],[]⟩ .ret (bG (gE l m i'0) [(4,(pI (i'0:Int)))])]) (l:=[_]) (by kernel_rfl) (gc hl0.code gn)
theorem aRk{l:List Int}{m:Int}{i:Nat}{x100:Int}(h0:(i:Int)<(l.length:Int))(h1:l[i]? = some x100)(h2:(x100 == m)=true):aC Tp 1 oD (gE l m i) .ret (bG (gE l m i) [(4,(pI (i:Int)))]):=by
 exact aC.fin (g:=⟨(rng [(2,2),(5,2),(9,10)]),[],[],[]⟩) (o:=[bT,.x (aA x100),.c (pB (x100 == m)) [],bT]) (l:=[_,_,_,_,_]) (by kernel_rfl) (gc h2 (gc (fk 1 (aIr x100 m) rfl) (gc (atm aA h1) (gc (eH (i:=(i:Int)) (kQ1 _) h1) (gc (aQ h0) gn)))))
theorem aRl{l:List Int}{m:Int}{i:Nat}{x100:Int}{i':Nat}(h0:(i:Int)<(l.length:Int))(h1:l[i]? = some x100)(h2:(x100 == m)=false)(h3:inR (((i+1):Nat):Int))(ei':i'=(i+1)):aC Tp 1 oD (gE l m i) .normal (gE l m i'):=by
 subst ei';exact aC.fin (g:=⟨(rng [(2,5),(9,10)]),[],[],[]⟩) (o:=[bT,.x (aA x100),.c (pB (x100 == m)) [],bF]) (l:=[_,_,_,_,_,_]) (by kernel_rfl) (gc h3 (gc h2 (gc (fk 1 (aIr x100 m) rfl) (gc (atm aA h1) (gc (eH (i:=(i:Int)) (kQ1 _) h1) (gc (aQ h0) gn))))))
theorem aRm{l:List Int}{m:Int}{i:Nat}(h0:(l.length:Int)≤(i:Int)):aC Tp 1 oD (gE l m i) (.exit 0) (gE l m i):=by
 exact aC.fin (g:=⟨(rng [(2,5),(9,10)]),[],[],[]⟩) (o:=[bF]) (l:=[_]) (by kernel_rfl) (gc (aR h0) gn)
abbrev bOe(l:List Int)(m:Int)(i:Int):Prop:=FMM Tp 129 [.own 0,(.fn 133 [] [(.rp [(aA m)] 0)])] [some (.row 3 l.length (l.map aA))] (pI i) [some (.row 3 l.length (l.map aA))]
def lB(m:Int)(cn:Nat)(cc:List PV)(i:Nat)(j:Nat):St:=⟨fr 42 [(0,(.own 0)),(1,(.fn 133 [] [(.rp [(aA m)] 0)])),(4,(.p bI)),(5,(pI (i:Int))),(6,(pI (j:Int)))],[some (.row 3 cn cc)]⟩
theorem bYe{l:List Int}{m:Int}{i0:Nat}{c'1:List Int}{i'2 j'3:Nat}{r0c:List PV}(h0:bOe l m (i0:Int))(h1:(i0:Int)≠(-1:Int))(h2:inR (((i0+1):Nat):Int))(hl3:aE Tp 1 oE (lB m l.length (l.map aA) i0 (i0+1)) (.exit 0) (lB m c'1.length (c'1.map aA) i'2 j'3))(h4:0≤(i'2:Int)∧(i'2:Int)≤(c'1.length:Int)∧(c'1.length:Int)≤(c'1.length:Int))(h5:(i'2*1)+(c'1.length-i'2)≤(c'1.map aA).length)(h6:0≤(0:Int)∧(0:Int)≤(i'2:Int)∧(i'2:Int)≤(c'1.length:Int))(er0c:r0c=((((c'1.map aA).take (i'2*1)++List.replicate (c'1.length-i'2) (PV.v (.int .i64 0))++(c'1.map aA).drop ((i'2*1)+(List.replicate (c'1.length-i'2) (PV.v (.int .i64 0))).length)).drop 0).take (i'2*(((c'1.map aA).take (i'2*1)++List.replicate (c'1.length-i'2) (PV.v (.int .i64 0))++(c'1.map aA).drop ((i'2*1)+(List.replicate (c'1.length-i'2) (PV.v (.int .i64 0))).length)).length / c'1.length)))):FMM Tp 54 [(.own 0),(.fn 133 [] [(.rp [(aA m)] 0)])] [some (.row 3 l.length (l.map aA))] (.p (.sl i'2 r0c)) [some .dead]:=by
 subst er0c;exact FMM.fin (k:=1) (g:=⟨[],[],[0],[]⟩) rfl Tryz.func54 rfl (o:=[.c (pI (i0:Int)) [(0,(.row 3 l.length (l.map aA)))],bF,.k 4 ⟨(rng [(2,2),(7,29)]),[],[],[]⟩ (.exit 0) (lB m c'1.length (c'1.map aA) i'2 j'3)]) (l:=[_,_,_,_,_,_,FC Tp 129 [(.own 0),(.fn 133 [] [(.rp [(aA m)] 0)])] [(0,(.row 3 l.length (l.map aA)))] 1 (pI (i0:Int)) [(0,(.row 3 l.length (l.map aA)))]]) (by kernel_rfl) (gc h6 (gc h5 (gc h4 (gc hl3.code (gc h2 (gc (bE h1) (gc (FMM.fc (ids:=[0]) h0 (by kernel_rfl)) gn)))))))
theorem bYf{l:List Int}{m:Int}(h0:bOe l m (-1:Int)):FMM Tp 54 [(.own 0),(.fn 133 [] [(.rp [(aA m)] 0)])] [some (.row 3 l.length (l.map aA))] (.p (aG l)) [some .dead]:=by
 exact FMM.fin (k:=1) (g:=⟨[],[],[0],[]⟩) rfl Tryz.func54 rfl (o:=[.c (pI (-1:Int)) [(0,(.row 3 l.length (l.map aA)))],bT]) (l:=[_,FC Tp 129 [(.own 0),(.fn 133 [] [(.rp [(aA m)] 0)])] [(0,(.row 3 l.length (l.map aA)))] 1 (pI (-1:Int)) [(0,(.row 3 l.length (l.map aA)))]]) (by kernel_rfl) (gc bIy (gc (FMM.fc (ids:=[0]) h0 (by kernel_rfl)) gn))
theorem bDr{m:Int}{c:List Int}{i j:Nat}{x100 x101:Int}{c':List Int}{i' j':Nat}(h0:(j:Int)<(c.length:Int))(h1:c[j]? = some x100)(h2:(x100 == m)=false)(h3:c[i]? = some x101)(h4:(i*1)<(c.map aA).length)(h5:inR (((i+1):Nat):Int))(h6:inR (((j+1):Nat):Int))(ec'n:c'.length=c.length)(ec'c:c'.map aA=((c.map aA).set (i*1) (aA x100)))(ei':i'=(i+1))(ej':j'=(j+1)):aC Tp 1 oE (lB m c.length (c.map aA) i j) .normal (lB m c'.length (c'.map aA) i' j'):=by
 subst ei' ej';have raw:aC Tp 1 oE (lB m c.length (c.map aA) i j) .normal (lB m c.length ((c.map aA).set (i*1) (aA x100)) (i+1) (j+1)):=aC.fin (g:=⟨(rng [(2,2),(7,29)]),[],[],[]⟩) (o:=[bT,.x (aA x100),.c (pB (x100 == m)) [],bT]) (l:=[_,_,_,_,_,_,_,_,_]) (by kernel_rfl) (gc h6 (gc h5 (gc h4 (gc (eH (i:=(i:Int)) (kQ1 _) h3) (gc (cP h2) (gc (fk 1 (aIr x100 m) rfl) (gc (atm aA h1) (gc (eH (i:=(j:Int)) (kQ1 _) h1) (gc (aQ h0) gn)))))))))
 exact raw.cast (by rw [ec'n,ec'c])
theorem bDs{m:Int}{c:List Int}{i j:Nat}{x100:Int}{j':Nat}(h0:(j:Int)<(c.length:Int))(h1:c[j]? = some x100)(h2:(x100 == m)=true)(h3:inR (((j+1):Nat):Int))(ej':j'=(j+1)):aC Tp 1 oE (lB m c.length (c.map aA) i j) .normal (lB m c.length (c.map aA) i j'):=by
 subst ej';exact aC.fin (g:=⟨(rng [(2,2),(7,29)]),[],[],[]⟩) (o:=[bT,.x (aA x100),.c (pB (x100 == m)) [],bF]) (l:=[_,_,_,_,_,_]) (by kernel_rfl) (gc h3 (gc (bA h2) (gc (fk 1 (aIr x100 m) rfl) (gc (atm aA h1) (gc (eH (i:=(j:Int)) (kQ1 _) h1) (gc (aQ h0) gn))))))
theorem bDt{m:Int}{c:List Int}{i j:Nat}(h0:(c.length:Int)≤(j:Int)):aC Tp 1 oE (lB m c.length (c.map aA) i j) (.exit 0) (lB m c.length (c.map aA) i j):=by
 exact aC.fin (g:=⟨(rng [(2,2),(7,29)]),[],[],[]⟩) (o:=[bF]) (l:=[_]) (by kernel_rfl) (gc (aR h0) gn)
end
section
structure zC (p:Int→Bool) (l:List Int) (j:Nat) (x:List Int × Nat):Prop where
 len:x.1.length=l.length
 le:x.2<j
 kept:x.1.take x.2=(l.take j).filter fun n => !p n
 rest:x.1.drop j=l.drop j
theorem zC.skip{p:Int→Bool}{l:List Int}{j:Nat}{x:List Int × Nat}(h:zC p l j x)(hj:j<l.length){n:Int}(hn:x.1[j]? = some n)(hp:p n=true):zC p l (j+1) x:=by
 have hl:l[j]? = some n:=by
  have:=congrArg (·[0]?) h.rest
  simp only [List.getElem?_drop,Nat.add_zero] at this
  rw [← this];exact hn
 refine ⟨h.len,by have:=h.le;omega,?_,?_⟩
 ·rw [h.kept,List.take_add_one,hl]
  simp [sQ,hp]
 ·rw [← List.drop_drop,h.rest,List.drop_drop]
theorem zC.keep{p:Int→Bool}{l:List Int}{j:Nat}{x:List Int × Nat}(h:zC p l j x)(hj:j<l.length){n:Int}(hn:x.1[j]? = some n)(hp:p n=false):zC p l (j+1) (x.1.set x.2 n,x.2+1):=by
 have hl:l[j]? = some n:=by
  have:=congrArg (·[0]?) h.rest
  simp only [List.getElem?_drop,Nat.add_zero] at this
  rw [← this];exact hn
 have hle:=h.le;have hlen:=h.len;refine ⟨by simp [h.len],by simpa using hle,?_,?_⟩
 ·show (x.1.set x.2 n).take (x.2+1)=_
  rw [List.take_add_one,List.take_set_of_le (eG _),h.kept,bKm (by omega),List.take_add_one,hl]
  simp [sQ,hp]
 ·show (x.1.set x.2 n).drop (j+1)=_
  rw [List.drop_set_of_lt (by omega),← List.drop_drop,h.rest,List.drop_drop]
theorem zC.start{p:Int→Bool}{l:List Int}{i:Nat}{n:Int}(hi:l[i]? = some n)(hp:p n=true)(hb:∀ m∈l.take i,p m=false):zC p l (i+1) (l,i):=by
 refine ⟨rfl,Nat.lt_succ_self _,?_,rfl⟩;show l.take i=_;rw [List.take_add_one,hi];simp only [sQ];rw [List.filter_eq_self.2 fun m hm=>by simp [hb m hm]]
 simp [hp]
theorem yT{p:Int→Bool}{l:List Int}{i:Nat}(h:l.findIdx? p=some i):∀ m∈l.take i,p m=false:=fun m hm=>by
 obtain ⟨hi,h1,h2⟩:=List.findIdx?_eq_some_iff_getElem.1 h;obtain ⟨j,hj,rfl⟩:=List.getElem_of_mem hm;rw [List.getElem_take];rw [nC] at hj
 have:=h2 j (by omega)
 simpa using this

theorem bNx{l:List Int}{dl:Int}{sk dc:Lqq}{bib tm:Int}(hl:l.length≤1000){p:Int→Bool}(hp:∀ n∈l,aRg dl sk dc bib tm n (p n)) :
  (∃ i n,l[i]? = some n∧l.findIdx? p=some i∧p n=true∧bOb l dl sk dc bib tm (i:Int))∨(l.any p=false∧bOb l dl sk dc bib tm (-1)):=by
 rcases aE.find (P:=Tp) (k:=1) (b:=(sub (cd Tryz.f129) [1,0,1,0,0])) (fun i=>gD l dl sk dc bib tm i) (fun i _=>bG (gD l dl sk dc bib tm i) [(4,.p (aA (i:Int)))]) (gD l dl sk dc bib tm l.length) .ret (.exit 0) (by simp) (by simp) p l
  (fun i x hx hq=>aRi (by have:=aT hx;omega) hx (hp x (kQ4 hx)) hq (aO (by have:=aT hx;omega)) rfl)
  (fun i x hx hq=>aRh (by have:=aT hx;omega) hx (hp x (kQ4 hx)) hq)
  (aRj (by omega)) with ⟨i,x,h1,h2,h3,h4⟩ | ⟨h1,h2,h3⟩
 ·exact .inl ⟨i,x,h1,h2,h3,bOa h4⟩
 ·exact .inr ⟨h2,bNz h3⟩
theorem bXz{l:List Int}{dl:Int}{sk dc:Lqq}{bib tm:Int}(hl:l.length≤1000){p:Int→Bool}(hp:∀ n∈l,aRg dl sk dc bib tm n (p n)) :
  FMM Tp 54 [.own 0,.fn 189 [] [.rp [bIz dl sk dc] 0,.rp [aA bib,aA tm] 0]] [some (.row 3 l.length (l.map aA))] (.p (aG (l.filter fun n => !p n))) [some .dead]:=by
 rcases bNx hl hp with ⟨i,n,h1,h2,h3,h4⟩ | ⟨h1,h2⟩
 ·have hi:=aT h1
  obtain ⟨d,hm⟩:∃ d,i+1+d=l.length:=⟨l.length-(i+1),by omega⟩
  obtain ⟨⟨c,k⟩,hI,hL⟩:=aE.ex (P:=Tp) (k:=1) (b:=(sub (cd Tryz.f54) [1,1,1,0,1,0,0])) (e := .exit 0) (fun j (x:List Int × Nat)=>lA dl sk dc bib tm x.1.length (x.1.map aA) x.2 (i+1+j)) (fun x=>lA dl sk dc bib tm x.1.length (x.1.map aA) x.2 l.length) (fun j x=>zC p l (i+1+j) x∧∀ n∈x.1,n∈l) (by simp) d
   (fun j x hj hx=>by
    obtain ⟨hI,hs⟩:=hx;have hlt:i+1+j<x.1.length:=by rw [hI.len];omega
    have hle:=hI.le;have hlen:=hI.len;obtain ⟨y,hy⟩:∃ y,x.1[i+1+j]? = some y:=⟨_,kQ0 hlt⟩;have hyl:=hs y (kQ4 hy);cases hq:p y with
    | true=>exact ⟨x,⟨hI.skip (by omega) hy hq,hs⟩,bDp (by omega) hy (hp y hyl) hq (aO (by omega)) rfl⟩
    | false =>
     obtain ⟨z,hz⟩:∃ z,x.1[x.2]? = some z:=⟨_,kQ0 (by omega)⟩
     refine ⟨_,⟨hI.keep (by omega) hy hq,fun n hn => ?_⟩,bDo (c:=x.1) (c':=x.1.set x.2 y) (by omega) hy (hp y hyl) hq hz (by rw [fL];omega) (aO (by omega)) (aO (by omega)) (by simp) (by rw [List.map_set,Nat.mul_one]) rfl rfl⟩
     rcases List.mem_or_eq_of_mem_set hn with h | rfl
     ·exact hs n h
     ·exact hyl)
   (fun x hx=>by
    have:=bDq (dl:=dl) (sk:=sk) (dc:=dc) (bib:=bib) (tm:=tm) (c:=x.1) (i:=x.2) (j:=l.length) (by rw [hx.1.len];omega)
    rw [show i+1+d=l.length from hm];exact this)
   (acc:=(l,i)) ⟨zC.start h1 h3 (yT h2),fun n h=>h⟩
  obtain ⟨hI,_⟩:=hI;have hlen:=hI.len;have hle:=hI.le;have hk:=hI.kept;simp only [hm,List.take_length] at hlen hle hk
  have fin:=bYc (l:=l) (c'1:=c) (i'2:=k) (j'3:=l.length) (r0c:=(c.take k).map aA) h4 (by omega) (aO (by omega)) hL ⟨by omega,by omega,by omega⟩ (by rw [fL];omega) ⟨by omega,by omega,by omega⟩ (by
   rw [List.drop_zero,Nat.mul_one,List.length_replicate];have hL2:(((c.map aA).take k)++List.replicate (c.length-k) (PV.v (.int .i64 0))++(c.map aA).drop (k+(c.length-k))).length=c.length:=by
    simp only [oS,nC,fL,List.length_replicate,bKo];omega
   rw [hL2,Nat.div_self (by omega),Nat.mul_one,List.append_assoc,List.take_append_of_le_length (by rw [nC,fL];omega),List.take_take,Nat.min_self,List.map_take])
  rw [← hk];have e:aG (c.take k) = .sl k ((c.take k).map aA):=by
   show PV.sl (c.take k).length _=_;rw [nC,Nat.min_eq_left (by omega)]
  rw [e];exact fin
 ·have:(l.filter fun n => !p n)=l:=List.filter_eq_self.2 fun n hn=>by
   have:=List.any_eq_false.1 h1 n hn;simpa using this
  rw [this];exact bYd h2

theorem bNy{l:List Int}{m:Int}(hl:l.length≤1000){p:Int→Bool}(hp:∀ n∈l,p n=(n == m)) :
  (∃ i n,l[i]? = some n∧l.findIdx? p=some i∧p n=true∧bOe l m (i:Int))∨(l.any p=false∧bOe l m (-1)):=by
 rcases aE.find (P:=Tp) (k:=1) (b:=(sub (cd Tryz.f129) [1,0,1,0,0])) (fun i=>gE l m i) (fun i _=>bG (gE l m i) [(4,.p (aA (i:Int)))]) (gE l m l.length) .ret (.exit 0) (by simp) (by simp) p l
  (fun i x hx hq=>aRl (by have:=aT hx;omega) hx (by rw [← hp x (kQ4 hx)];exact hq) (aO (by have:=aT hx;omega)) rfl)
  (fun i x hx hq=>aRk (by have:=aT hx;omega) hx (by rw [← hp x (kQ4 hx)];exact hq))
  (aRm (by omega)) with ⟨i,x,h1,h2,h3,h4⟩ | ⟨h1,h2,h3⟩
 ·exact .inl ⟨i,x,h1,h2,h3,bOd h4⟩
 ·exact .inr ⟨h2,bOc h3⟩
theorem bIx{l:List Int}{m:Int}(hl:l.length≤1000){p:Int→Bool}(hp:∀ n∈l,p n=(n == m)) :
  FMM Tp 54 [.own 0,.fn 133 [] [.rp [aA m] 0]] [some (.row 3 l.length (l.map aA))] (.p (aG (l.filter fun n => !p n))) [some .dead]:=by
 rcases bNy hl hp with ⟨i,n,h1,h2,h3,h4⟩ | ⟨h1,h2⟩
 ·have hi:=aT h1
  obtain ⟨d,hm⟩:∃ d,i+1+d=l.length:=⟨l.length-(i+1),by omega⟩
  obtain ⟨⟨c,k⟩,hI,hL⟩:=aE.ex (P:=Tp) (k:=1) (b:=(sub (cd Tryz.f54) [1,1,1,0,1,0,0])) (e := .exit 0) (fun j (x:List Int × Nat)=>lB m x.1.length (x.1.map aA) x.2 (i+1+j)) (fun x=>lB m x.1.length (x.1.map aA) x.2 l.length) (fun j x=>zC p l (i+1+j) x∧∀ n∈x.1,n∈l) (by simp) d
   (fun j x hj hx=>by
    obtain ⟨hI,hs⟩:=hx;have hlt:i+1+j<x.1.length:=by rw [hI.len];omega
    have hle:=hI.le;have hlen:=hI.len;obtain ⟨y,hy⟩:∃ y,x.1[i+1+j]? = some y:=⟨_,kQ0 hlt⟩;have hyl:=hs y (kQ4 hy);cases hq:p y with
    | true=>exact ⟨x,⟨hI.skip (by omega) hy hq,hs⟩,bDs (by omega) hy (by rw [← hp y hyl];exact hq) (aO (by omega)) rfl⟩
    | false =>
     obtain ⟨z,hz⟩:∃ z,x.1[x.2]? = some z:=⟨_,kQ0 (by omega)⟩
     refine ⟨_,⟨hI.keep (by omega) hy hq,fun n hn => ?_⟩,bDr (c:=x.1) (c':=x.1.set x.2 y) (by omega) hy (by rw [← hp y hyl];exact hq) hz (by rw [fL];omega) (aO (by omega)) (aO (by omega)) (by simp) (by rw [List.map_set,Nat.mul_one]) rfl rfl⟩
     rcases List.mem_or_eq_of_mem_set hn with h | rfl
     ·exact hs n h
     ·exact hyl)
   (fun x hx=>by
    have:=bDt (m:=m) (c:=x.1) (i:=x.2) (j:=l.length) (by rw [hx.1.len];omega)
    rw [show i+1+d=l.length from hm];exact this)
   (acc:=(l,i)) ⟨zC.start h1 h3 (yT h2),fun n h=>h⟩
  obtain ⟨hI,_⟩:=hI;have hlen:=hI.len;have hle:=hI.le;have hk:=hI.kept;simp only [hm,List.take_length] at hlen hle hk
  have fin:=bYe (l:=l) (c'1:=c) (i'2:=k) (j'3:=l.length) (r0c:=(c.take k).map aA) h4 (by omega) (aO (by omega)) hL ⟨by omega,by omega,by omega⟩ (by rw [fL];omega) ⟨by omega,by omega,by omega⟩ (by
   rw [List.drop_zero,Nat.mul_one,List.length_replicate];have hL2:(((c.map aA).take k)++List.replicate (c.length-k) (PV.v (.int .i64 0))++(c.map aA).drop (k+(c.length-k))).length=c.length:=by
    simp only [oS,nC,fL,List.length_replicate,bKo];omega
   rw [hL2,Nat.div_self (by omega),Nat.mul_one,List.append_assoc,List.take_append_of_le_length (by rw [nC,fL];omega),List.take_take,Nat.min_self,List.map_take])
  rw [← hk];have e:aG (c.take k) = .sl k ((c.take k).map aA):=by
   show PV.sl (c.take k).length _=_;rw [nC,Nat.min_eq_left (by omega)]
  rw [e];exact fin
 ·have:(l.filter fun n => !p n)=l:=List.filter_eq_self.2 fun n hn=>by
   have:=List.any_eq_false.1 h1 n hn;simpa using this
  rw [this];exact bYf h2
end
section
open Go.RowKit Go.Lib Go.Shelf
theorem bXx{n:Nat}{x:PV}{r:List PV}{r0n:Nat}{r0c:List PV}(h0:(x::r).length=n*1∧0+n≤1000000)(er0n:r0n=(0+n))(er0c:r0c=(x::r)){base:Nat}:FV Tp 55 [(.p (.sl n (x::r)))] base (.own base) [(base,(.row 3 r0n r0c))]:=by
 subst er0n er0c;exact FV.fin Tryz.func55 rfl (o:=[]) (l:=[_]) (by kernel_rfl) (gc h0 gn)
set_option maxHeartbeats 1000000 in
theorem bNw(n c:Nat)(w:World):Calls Tp 55 #[.slice none n c] w fun e w'=>e = .returned (.slice none 0 0)∧w'=w:=by
 have q33:∀ (w:World) (a:Option Addr) (n c n' c':Nat),(binOp .eql 33 (.slice a n c) (.slice none n' c')).run Tp w = .ok (.bool a.isNone) w:=fun w a n c n' c'=>Lib.run_eql_slice_nil w _ _ a n c n' c' Tryz.underlying33
 go_enter Tryz.func55,Tryz.ntmps55
 go_wp2
 go_ret
 exact ⟨rfl,rfl⟩
theorem inf3:(Tryz.prog.info? 3).map (fun i=>(i.zero,i.size,i.bytes))=some (some (.int .i64 0),1,8):=by kernel_rfl
set_option maxHeartbeats 2000000 in
theorem bIw(a:Addr)(c:Nat)(w:World):Calls Tp 55 #[.slice (some a) 0 c] w fun e w'=>∃ v',e = .returned v'∧w'.ownsRow w.heap.size 3 1 v' 0 []∧Below w.heap.size w w':=by
 obtain ⟨i0,hi,hz0,hz1,hz2⟩:=info_parts inf3;have q33:∀ (w:World) (a:Option Addr) (n c n' c':Nat),(binOp .eql 33 (.slice a n c) (.slice none n' c')).run Tp w = .ok (.bool a.isNone) w:=fun w a n c n' c'=>Lib.run_eql_slice_nil w _ _ a n c n' c' Tryz.underlying33
 go_enter Tryz.func55,Tryz.ntmps55
 go_wp2_with (at_builtin;refine wpList_append_own _ rfl _ _ 33 rfl w.heap.size 3 i0 (.int .i64 0) 1 8 Tryz.underlying33 hi hz0 hz1 hz2 rfl (by decide) _ _ _ rfl (World.ownsRow_made w #[] 0 (eG _) (Nat.zero_le _) rfl) a 0 c [] rfl rfl (by intro j u hj;simp at hj) (by intro u hu;cases hu) (by unfold maxLen;omega) (by omega) (by simp) ?_)
 intro v' w1 hown hgrow hnil
 go_wp2
 go_ret
 refine ⟨v',rfl,by simpa using hown,?_⟩
 exact ((Below.refl _ w).alloc (eG _) _).grown hgrow (by simp) (by intro k hk;simp [Value.ownBlock] at hk;omega)
theorem bDn{base:Nat}:FV Tp 55 [.p (.sl 0 [])] base (.own base) [(base,.row 3 0 [])]:=aZw (sL (show (Tryz.prog.info? 3).map (fun i=>i.size)=some 1 by kernel_rfl)) fun p c w=>by
 cases p with
 | none =>
  refine (bNw 0 c w).mono ?_;rintro e w' ⟨rfl,rfl⟩;exact ⟨_,rfl,World.ownsRow_nil _ _ _ _,Below.refl _ _⟩
 | some a=>exact bIw a c w
theorem bXy(l:List Int)(hl:l.length≤1000){base:Nat}:FV Tp 55 [.p (aG l)] base (.own base) [(base,.row 3 l.length (l.map aA))]:=by
 cases l with
 | nil=>exact bDn
 | cons x l=>exact bXx (n:=(x::l).length) (x:=aA x) (r:=l.map aA) ⟨by simp,by simp at hl ⊢;omega⟩ (by simp) rfl
end
section
variable {dl:Int}{sk dc:Lqq}

theorem aIo:0≤(1:Int)∧(1:Int)<2:=by first | decide | simp
theorem aIp:0≤(0:Int)∧(0:Int)<2:=by first | decide | simp
abbrev cAk(l:List Int)(dl:Int)(sk dc:Lqq)(bib tm:Int)(o:List Int):Prop:=FMM Tp 54 [.own 0,.fn 189 [] [.rp [bIz dl sk dc] 0,.rp [aA bib,aA tm] 0]] [some (.row 3 l.length (l.map aA))] (.p (aG o)) [some .dead]
def chE(x:Int × Bool × List Int):List PV:=[aA x.1,blP x.2.1,aG x.2.2]
def nA(dl:Int)(sk:Lqq)(dc:Lqq)(aln:Nat)(alc:List PV)(i:Nat):St:=⟨fr 77 [(1,(.rp [(PV.rp (aI dl sk dc) 0)] 0)),(2,(.p bI)),(3,(pI 0)),(4,(.p (aG (aP dl dc)))),(5,(.own 0)),(22,(.p (fS sk))),(23,(pI (sk.length:Int))),(24,(pI (i:Int)))],[some (.row 195 aln alc)]⟩
theorem bXw{al'0n:Nat}{al'0c:List PV}{i'1:Nat}(h0:cE dc)(h1:(((aP dl dc).length:Nat):Int)≤8)(hl2:aE Tp 0 (sub (cd Tryz.f161) [1,1,1,1,0,1,0,0]) (nA dl sk dc 0 [] 0) (.exit 0) (nA dl sk dc al'0n al'0c i'1)){base:Nat}:FV Tp 161 [(.rp (aI dl sk dc) 0)] base (.tup [(.own base),(pI 0)]) [(base,(.row 195 al'0n al'0c))]:=by
 exact FV.fin Tryz.func161 rfl (o:=[.g 3 ⟨[],[],[0],[]⟩,.x (PV.rp (aI dl sk dc) 0),.c (.own 0) [(0,(.row 3 ((aP dl dc).length) ((aP dl dc).map aA)))],.g 2 ⟨[],[],[0],[]⟩,bF,.x (PV.rp (aI dl sk dc) 0),.x (fS sk),.k 1 ⟨(rng [(0,1),(6,16),(25,51)]),[0],[],[(5,195)]⟩ (.exit 0) (nA dl sk dc al'0n al'0c i'1)]) (l:=[_,(aI dl sk dc)[1]? = some (fS sk),[(PV.rp (aI dl sk dc) 0)][0]? = some (PV.rp (aI dl sk dc) 0),_,_,[(PV.rp (aI dl sk dc) 0)][0]? = some (PV.rp (aI dl sk dc) 0)]) (by kernel_rfl) (gc hl2.code (gc rfl (gc rfl (gc (aR h1) (gc (fk 0 (rL (dl:=dl) (sk:=sk) (dc:=dc) h0) rfl) (gc rfl gn))))))
def xK(dl:Int)(sk:Lqq)(dc:Lqq)(aln:Nat)(alc:List PV)(i:Nat)(y100:Int)(y101:Int)(o102:List Int)(chn:Nat)(chc:List PV)(mn:Int)(mx:Int):St:=⟨fr 77 [(1,(.rp [(PV.rp (aI dl sk dc) 0)] 0)),(2,(.p bI)),(3,(pI 0)),(4,(.p (aG (aP dl dc)))),(5,(.own 0)),(7,(.rp [(aA y100),(aA y101)] 0)),(8,(.p (aG o102))),(9,(.ptr 2 0)),(22,(.p (fS sk))),(23,(pI (sk.length:Int))),(24,(pI (i:Int))),(25,(pB (decide ((i:Int)<(sk.length:Int))))),(26,(.rp (sk.flatten.map aA) (i*2))),(27,(.p (.agg [(aA y100),(aA y101)]))),(28,(.p (aG (aP dl dc)))),(29,(.own 1)),(30,(.fn 189 [] [(.rp [(PV.rp (aI dl sk dc) 0)] 0),(.rp [(aA y100),(aA y101)] 0)])),(31,(.p (aG o102))),(32,(.p (.agg [(aA 1099511627776),(aA 0)]))),(33,(.p (.agg [bI,(aA 1099511627776),(aA 0)]))),(34,(.p (aG o102))),(35,(.fn 182 [] [(.rp [(aG o102)] 0)]))],[some (.row 195 aln alc),some .dead,some (.box 195 [(.own 3),(pI mn),(pI mx)]),some (.row 197 chn chc)]⟩
def aIq(dl:Int)(sk:Lqq)(dc:Lqq)(aln:Nat)(alc:List PV)(i:Nat)(y100:Int)(y101:Int)(o102:List Int):St:=⟨fr 77 [(1,(.rp [(PV.rp (aI dl sk dc) 0)] 0)),(2,(.p bI)),(3,(pI 0)),(4,(.p (aG (aP dl dc)))),(5,(.own 0)),(7,(.rp [(aA y100),(aA y101)] 0)),(8,(.p (aG o102))),(9,(.ptr 2 0)),(22,(.p (fS sk))),(23,(pI (sk.length:Int))),(24,(pI (i:Int))),(25,(pB (decide ((i:Int)<(sk.length:Int))))),(26,(.rp (sk.flatten.map aA) (i*2))),(27,(.p (.agg [(aA y100),(aA y101)]))),(28,(.p (aG (aP dl dc)))),(29,(.own 1)),(30,(.fn 189 [] [(.rp [(PV.rp (aI dl sk dc) 0)] 0),(.rp [(aA y100),(aA y101)] 0)])),(31,(.p (aG o102))),(32,(.p (.agg [(aA 1099511627776),(aA 0)]))),(33,(.p (.agg [bI,(aA 1099511627776),(aA 0)]))),(34,(.p (aG o102))),(35,(.fn 182 [] [(.rp [(aG o102)] 0)]))],[some (.row 195 aln alc),some .dead,some (.box 195 [(.p bI),(pI 1099511627776),(pI 0)])]⟩
theorem bDj{aln:Nat}{alc:List PV}{i:Nat}{y100 y101:Int}{o102:List Int}{ch'103n:Nat}{ch'103c:List PV}{mn'104 mx'105:Int}{al'n:Nat}{al'c:List PV}{i':Nat}(h0:(i:Int)<(sk.length:Int))(h1:sk[i]? = some [y100,y101])(h2:uni 2 sk)(h3:(aP dl dc).length≤1000)(h4:cAk (aP dl dc) dl sk dc y100 y101 o102)(hl5:aC Tp 0 (sub (cd Tryz.f161) [1,1,1,1,0,1,0,0,1,1,0,0,1,1,1,0,1,0]) (aIq dl sk dc aln alc i y100 y101 o102) .normal (xK dl sk dc aln alc i y100 y101 o102 ch'103n ch'103c mn'104 mx'105))(h6:[(.sl ch'103n ch'103c),(aA mn'104),(aA mx'105)].length=1*3∧aln+1≤1000000)(h7:inR (((i+1):Nat):Int))(eal'n:al'n=(aln+1))(eal'c:al'c=(alc++[(.sl ch'103n ch'103c),(aA mn'104),(aA mx'105)]))(ei':i'=(i+1)):aC Tp 0 (sub (cd Tryz.f161) [1,1,1,1,0,1,0,0]) (nA dl sk dc aln alc i) .normal (nA dl sk dc al'n al'c i'):=by
 subst eal'n eal'c ei';exact aC.fin (g:=⟨(rng [(0,1),(6,16),(25,51)]),[3],[],[]⟩) (o:=[bT,.x (.agg [(aA y100),(aA y101)]),.g 1 ⟨[],[0],[1],[]⟩,.c (.own 1) [(1,(.row 3 ((aP dl dc).length) ((aP dl dc).map aA)))],.c (.p (aG o102)) [(1,.dead)],.c (.fn 182 [] [(.rp [(aG o102)] 0)]) [],.k 1 ⟨(rng [(0,1),(6,1),(10,12),(36,35)]),[0,1,2],[],[]⟩ .normal (xK dl sk dc aln alc i y100 y101 o102 ch'103n ch'103c mn'104 mx'105),.g 0 ⟨[29],[0,2],[3],[]⟩]) (l:=[_,_,[(.sl ch'103n ch'103c),(aA mn'104),(aA mx'105)].length=3,aC Tp 0 (sub (cd Tryz.f161) [1,1,1,1,0,1,0,0,1,1,0,0,1,1,1,0,1,0]) (aIq dl sk dc aln alc i y100 y101 o102) .normal (xK dl sk dc aln alc i y100 y101 o102 ch'103n ch'103c mn'104 mx'105),FC Tp 132 [(.p (aG o102))] [] 3 (.fn 182 [] [(.rp [(aG o102)] 0)]) [],FC Tp 54 [(.own 1),(.fn 189 [] [(.rp [(PV.rp (aI dl sk dc) 0)] 0),(.rp [(aA y100),(aA y101)] 0)])] [(1,(.row 3 ((aP dl dc).length) ((aP dl dc).map aA)))] 2 (.p (aG o102)) [(1,.dead)],_,_,_,0≤(i:Int)∧(i:Int)<(sk.length:Int)∧(i*2)<(sk.flatten.map aA).length,_]) (by kernel_rfl) (gc h7 (gc h6 (gc (by first | decide | simp) (gc hl5 (gc (FV.fc (aRf (q:=o102)) rfl) (gc (FMM.fc (ids:=[1]) h4 (by kernel_rfl)) (gc (fk 1 (bXy (aP dl dc) h3) rfl) (gc (aL (i:=i) h2 h1) (gc (aW (i:=i) h2 h1) (gc (aV (k:=2) (i:=(i:Int)) (by decide) h2 (kQ1 _) h1) (gc (aQ h0) gn)))))))))))
theorem bDk{aln:Nat}{alc:List PV}{i:Nat}(h0:(sk.length:Int)≤(i:Int)):aC Tp 0 (sub (cd Tryz.f161) [1,1,1,1,0,1,0,0]) (nA dl sk dc aln alc i) (.exit 0) (nA dl sk dc aln alc i):=by
 exact aC.fin (g:=⟨(rng [(0,1),(6,16),(25,51)]),[0],[],[]⟩) (o:=[bF]) (l:=[_]) (by kernel_rfl) (gc (aR h0) gn)
def aRe(dl:Int)(sk:Lqq)(dc:Lqq)(aln:Nat)(alc:List PV)(i:Nat)(y100:Int)(y101:Int)(o102:List Int)(chn:Nat)(chc:List PV)(mn:Int)(mx:Int):St:=⟨fr 77 [(1,(.rp [(PV.rp (aI dl sk dc) 0)] 0)),(2,(.p bI)),(3,(pI 0)),(4,(.p (aG (aP dl dc)))),(5,(.own 0)),(7,(.rp [(aA y100),(aA y101)] 0)),(8,(.p (aG o102))),(9,(.ptr 2 0)),(22,(.p (fS sk))),(23,(pI (sk.length:Int))),(24,(pI (i:Int))),(25,(pB (decide ((i:Int)<(sk.length:Int))))),(26,(.rp (sk.flatten.map aA) (i*2))),(27,(.p (.agg [(aA y100),(aA y101)]))),(28,(.p (aG (aP dl dc)))),(30,(.fn 189 [] [(.rp [(PV.rp (aI dl sk dc) 0)] 0),(.rp [(aA y100),(aA y101)] 0)])),(31,(.p (aG o102))),(32,(.p (.agg [(aA 1099511627776),(aA 0)]))),(33,(.p (.agg [bI,(aA 1099511627776),(aA 0)]))),(34,(.p (aG o102))),(35,(.fn 182 [] [(.rp [(aG o102)] 0)]))],[some (.row 195 aln alc),some .dead,some (.box 195 [(.own 5),(pI mn),(pI mx)]),some .dead,some .dead,some (.row 197 chn chc)]⟩
theorem bDl{aln:Nat}{alc:List PV}{i:Nat}{y100 y101:Int}{o102:List Int}{chn:Nat}{chc:List PV}{mn mx:Int}{x:List Int}{n200:Int}{b201:Bool}{T202:Lqb}{ch'n:Nat}{ch'c:List PV}{mn' mx':Int}(h0:aDq dl sk dc (aG x) [y100,y101] n200 b201 ([]:Lqb) T202)(h1:b201=true)(h2:[(aA 1099511627776),(blP b201),(aG x)].length=1*3∧chn+1≤1000000)(h3:([(1099511627776:Int)]:List Int).length≤1000)(ech'n:ch'n=(chn+1))(ech'c:ch'c=(chc++[(aA 1099511627776),(blP b201),(aG x)]))(emn':mn'=(if (1099511627776:Int)<mn then (1099511627776:Int) else mn))(emx':mx'=(zB mx ([(1099511627776:Int)]:List Int))):aC Tp 5 (sub (cd Tryz.f161) [1,1,1,1,0,1,0,0,1,1,0,0,1,1,1,0,1,0,1]) (rfO (xK dl sk dc aln alc i y100 y101 o102 chn chc mn mx) 36 10 x) .normal (aRe dl sk dc aln alc i y100 y101 o102 ch'n ch'c mn' mx'):=by
 subst ech'n ech'c emn' emx'
 exact aC.fin (g:=⟨(rng [(0,1),(6,1),(10,12),(36,35)]),[13],[],[]⟩) (o:=[.g 2 ⟨[29],[],[4],[]⟩,.x (PV.rp (aI dl sk dc) 0),.x (.agg [(aA y100),(aA y101)]),.x (PV.rp (aI dl sk dc) 0),.c (.agg (kVL 9 10 5 7 11 6)) [(5,(vB0 dl sk dc)),(6,(.box 33 [(.p (aG x))])),(7,(.box 139 (kVL 9 10 5 7 11 6))),(8,(.mp (aF ([]:Lqb)) 0)),(9,(.box 207 [(.mp 8)])),(10,(vB5 dl sk dc)),(11,(.box 209 [(.fn 153 [] [(.ptr 5 0),(.ptr 7 0)])]))],.c (.tup [(pI n200),(pB b201)]) [(5,(vB0 dl sk dc)),(6,(.box 33 [(.p (aG x))])),(7,(.box 139 (kVL 9 10 5 7 11 6))),(8,(.mp (aF T202) T202.length)),(9,(.box 207 [(.mp 8)])),(10,(vB5 dl sk dc)),(11,(.box 209 [(.fn 153 [] [(.ptr 5 0),(.ptr 7 0)])]))],bT,.c (pI (zB mx ([(1099511627776:Int)]:List Int))) []]) (l:=[_,_,FC Tp 184 [(pI mx),(.own 15)] [(15,(.row 3 1 [(aA 1099511627776)]))] 16 (pI (zB mx ([(1099511627776:Int)]:List Int))) [],_,_,_,[(aA 1099511627776),(blP b201),(aG x)].length=3,_,FC Tp 134 [(.rp (aI dl sk dc) 0),(.p (.agg [(aA y100),(aA y101)])),(.agg (kVL 9 10 5 7 11 6))] [(9,(.box 207 [(.mp 8)])),(10,(vB5 dl sk dc)),(5,(vB0 dl sk dc)),(7,(.box 139 (kVL 9 10 5 7 11 6))),(11,(.box 209 [(.fn 153 [] [(.ptr 5 0),(.ptr 7 0)])])),(6,(.box 33 [(.p (aG x))])),(8,(.mp (aF ([]:Lqb)) 0))] 13 (.tup [(pI n200),(pB b201)]) [(5,(vB0 dl sk dc)),(6,(.box 33 [(.p (aG x))])),(7,(.box 139 (kVL 9 10 5 7 11 6))),(8,(.mp (aF T202) T202.length)),(9,(.box 207 [(.mp 8)])),(10,(vB5 dl sk dc)),(11,(.box 209 [(.fn 153 [] [(.ptr 5 0),(.ptr 7 0)])]))],FC Tp 87 [(.rp (aI dl sk dc) 0),(.p (aG x))] [] 5 (.agg (kVL 9 10 5 7 11 6)) [(5,(vB0 dl sk dc)),(6,(.box 33 [(.p (aG x))])),(7,(.box 139 (kVL 9 10 5 7 11 6))),(8,(.mp (aF ([]:Lqb)) 0)),(9,(.box 207 [(.mp 8)])),(10,(vB5 dl sk dc)),(11,(.box 209 [(.fn 153 [] [(.ptr 5 0),(.ptr 7 0)])]))],[(PV.rp (aI dl sk dc) 0)][0]? = some (PV.rp (aI dl sk dc) 0),some (.agg (([(aA y100),(aA y101)].drop 0).take 2):PV)=some (.agg [(aA y100),(aA y101)]),0+2≤[(aA y100),(aA y101)].length,[(PV.rp (aI dl sk dc) 0)][0]? = some (PV.rp (aI dl sk dc) 0)]) (by kernel_rfl) (gc aIo (gc aIp (gc (fv (aQg mx ([(1099511627776:Int)]:List Int) h3)) (gc aIo (gc aIp (gc h2 (gc (by first | decide | simp) (gc h1 (gc (FMM.fc (ids:=[5,6,7,8,9,10,11]) h0 (by kernel_rfl)) (gc (FMM.fcN (k:=7) rfl (ids:=[]) (qA (dl:=dl) (sk:=sk) (dc:=dc) (on:=x.length) (ol:=(x.map aA))) (by kernel_rfl)) (gc rfl (gc rfl (gc (by first | decide | simp) (gc rfl gn))))))))))))))
theorem bDm{aln:Nat}{alc:List PV}{i:Nat}{y100 y101:Int}{o102:List Int}{chn:Nat}{chc:List PV}{mn mx:Int}{x:List Int}{n200:Int}{b201:Bool}{T202:Lqb}{ch'n:Nat}{ch'c:List PV}{mn' mx':Int}(h0:aDq dl sk dc (aG x) [y100,y101] n200 b201 ([]:Lqb) T202)(h1:b201=false)(h2:[(aA n200),(blP b201),(aG x)].length=1*3∧chn+1≤1000000)(h3:([n200]:List Int).length≤1000)(ech'n:ch'n=(chn+1))(ech'c:ch'c=(chc++[(aA n200),(blP b201),(aG x)]))(emn':mn'=(if n200<mn then n200 else mn))(emx':mx'=(zB mx ([n200]:List Int))):aC Tp 5 (sub (cd Tryz.f161) [1,1,1,1,0,1,0,0,1,1,0,0,1,1,1,0,1,0,1]) (rfO (xK dl sk dc aln alc i y100 y101 o102 chn chc mn mx) 36 10 x) .normal (aRe dl sk dc aln alc i y100 y101 o102 ch'n ch'c mn' mx'):=by
 subst ech'n ech'c emn' emx'
 exact aC.fin (g:=⟨(rng [(0,1),(6,1),(10,12),(36,35)]),[13],[],[]⟩) (o:=[.g 2 ⟨[29],[],[4],[]⟩,.x (PV.rp (aI dl sk dc) 0),.x (.agg [(aA y100),(aA y101)]),.x (PV.rp (aI dl sk dc) 0),.c (.agg (kVL 9 10 5 7 11 6)) [(5,(vB0 dl sk dc)),(6,(.box 33 [(.p (aG x))])),(7,(.box 139 (kVL 9 10 5 7 11 6))),(8,(.mp (aF ([]:Lqb)) 0)),(9,(.box 207 [(.mp 8)])),(10,(vB5 dl sk dc)),(11,(.box 209 [(.fn 153 [] [(.ptr 5 0),(.ptr 7 0)])]))],.c (.tup [(pI n200),(pB b201)]) [(5,(vB0 dl sk dc)),(6,(.box 33 [(.p (aG x))])),(7,(.box 139 (kVL 9 10 5 7 11 6))),(8,(.mp (aF T202) T202.length)),(9,(.box 207 [(.mp 8)])),(10,(vB5 dl sk dc)),(11,(.box 209 [(.fn 153 [] [(.ptr 5 0),(.ptr 7 0)])]))],bF,.c (pI (zB mx ([n200]:List Int))) []]) (l:=[_,_,FC Tp 184 [(pI mx),(.own 15)] [(15,(.row 3 1 [(aA n200)]))] 16 (pI (zB mx ([n200]:List Int))) [],_,_,_,[(aA n200),(blP b201),(aG x)].length=3,_,FC Tp 134 [(.rp (aI dl sk dc) 0),(.p (.agg [(aA y100),(aA y101)])),(.agg (kVL 9 10 5 7 11 6))] [(9,(.box 207 [(.mp 8)])),(10,(vB5 dl sk dc)),(5,(vB0 dl sk dc)),(7,(.box 139 (kVL 9 10 5 7 11 6))),(11,(.box 209 [(.fn 153 [] [(.ptr 5 0),(.ptr 7 0)])])),(6,(.box 33 [(.p (aG x))])),(8,(.mp (aF ([]:Lqb)) 0))] 13 (.tup [(pI n200),(pB b201)]) [(5,(vB0 dl sk dc)),(6,(.box 33 [(.p (aG x))])),(7,(.box 139 (kVL 9 10 5 7 11 6))),(8,(.mp (aF T202) T202.length)),(9,(.box 207 [(.mp 8)])),(10,(vB5 dl sk dc)),(11,(.box 209 [(.fn 153 [] [(.ptr 5 0),(.ptr 7 0)])]))],FC Tp 87 [(.rp (aI dl sk dc) 0),(.p (aG x))] [] 5 (.agg (kVL 9 10 5 7 11 6)) [(5,(vB0 dl sk dc)),(6,(.box 33 [(.p (aG x))])),(7,(.box 139 (kVL 9 10 5 7 11 6))),(8,(.mp (aF ([]:Lqb)) 0)),(9,(.box 207 [(.mp 8)])),(10,(vB5 dl sk dc)),(11,(.box 209 [(.fn 153 [] [(.ptr 5 0),(.ptr 7 0)])]))],[(PV.rp (aI dl sk dc) 0)][0]? = some (PV.rp (aI dl sk dc) 0),some (.agg (([(aA y100),(aA y101)].drop 0).take 2):PV)=some (.agg [(aA y100),(aA y101)]),0+2≤[(aA y100),(aA y101)].length,[(PV.rp (aI dl sk dc) 0)][0]? = some (PV.rp (aI dl sk dc) 0)]) (by kernel_rfl) (gc aIo (gc aIp (gc (fv (aQg mx ([n200]:List Int) h3)) (gc aIo (gc aIp (gc h2 (gc (by first | decide | simp) (gc h1 (gc (FMM.fc (ids:=[5,6,7,8,9,10,11]) h0 (by kernel_rfl)) (gc (FMM.fcN (k:=7) rfl (ids:=[]) (qA (dl:=dl) (sk:=sk) (dc:=dc) (on:=x.length) (ol:=(x.map aA))) (by kernel_rfl)) (gc rfl (gc rfl (gc (by first | decide | simp) (gc rfl gn))))))))))))))
end
section
abbrev cV:=Int × Bool × List Int
abbrev fR:=List cV × Int × Int
def hpE(h:fR):List PV:=[.sl h.1.length (h.1.map chE).flatten,aA h.2.1,aA h.2.2]
abbrev far:Int:=1099511627776
def chM(dl:Int)(dc:Lqq)(s0 s1:Int)(q:List Int):cV:=(if (lL dl q dc s0 s1).2 then far else (lL dl q dc s0 s1).1,(lL dl q dc s0 s1).2,q)
def mnM(l:List cV):Int:=l.foldl (fun m x=>if x.1<m then x.1 else m) far
def mxM(l:List cV):Int:=l.foldl (fun m x=>if x.1 > m then x.1 else m) 0
def oY(dl:Int)(dc:Lqq)(s0 s1:Int)(o:List Int):fR:=((jX o).map (chM dl dc s0 s1),mnM ((jX o).map (chM dl dc s0 s1)),mxM ((jX o).map (chM dl dc s0 s1)))
def nE(dc:Lqq)(n:Int):Int:=match ofN dc n with
 | some x=>gV dc x
 | none=>0
def uK(dl:Int)(dc:Lqq)(bib:Int):List Int:=(aP dl dc).filter fun n => !(nE dc n != bib)
def bQ(dl:Int)(sk dc:Lqq):List fR:=sk.map fun s=>oY dl dc (s.getD 0 0) (s.getD 1 0) (uK dl dc (s.getD 0 0))
theorem aUe(x:cV):kI (chE x)=true:=by
 obtain ⟨a,b,l⟩:=x;show (nmP (aA a) && (nmP (blP b) && (nmP (aG l) && true)))=true;have h:nmP (aG l)=true:=by
  show kI (l.map aA)=true;exact aCc aA (fun _=>rfl) l
 rw [h];rfl
theorem yS:∀ (a b:List PV),kI (a++b)=(kI a && kI b)
 | [],b=>rfl
 | x::a,b=>by
  show (nmP x && kI (a++b))=((nmP x && kI a) && kI b);rw [yS a b,Bool.and_assoc]
theorem sP{α:Type}{E:α→List PV}(h:∀ a,kI (E a)=true):∀ l:List α,kI (l.map E).flatten=true
 | []=>rfl
 | a::l=>by rw [iM,tY,yS,h a,sP h l];rfl
theorem bNu(x:fR):kI (hpE x)=true:=by
 obtain ⟨l,a,b⟩:=x;show (kI (l.map chE).flatten && (nmP (aA a) && (nmP (aA b) && true)))=true;rw [sP aUe];rfl
def bXv(dl:Int)(sk dc:Lqq)(al:List fR)(i:Nat)(y0 y1:Int)(o:List Int)(l:List cV):St:=xK dl sk dc al.length (al.map hpE).flatten i y0 y1 o l.length (l.map chE).flatten (mnM l) (mxM l)
def bZx(dl:Int)(sk dc:Lqq)(al:List fR)(i:Nat)(y0 y1:Int)(o:List Int)(l:List cV):St:=aRe dl sk dc al.length (al.map hpE).flatten i y0 y1 o l.length (l.map chE).flatten (mnM l) (mxM l)
theorem bNv(l:List cV)(c:cV):(l++[c]).length=l.length+1∧((l++[c]).map chE).flatten=(l.map chE).flatten++chE c∧mnM (l++[c])=(if c.1<mnM l then c.1 else mnM l)∧mxM (l++[c])=zB (mxM l) [c.1]:=by
 refine ⟨by simp,by simp,?_,?_⟩
 ·unfold mnM;rw [aHg];rfl
 ·unfold mxM;rw [aHg];rfl
theorem bDh{dl:Int}{sk dc:Lqq}(hd:cE dc){al:List fR}{i:Nat}{y0 y1:Int}(hs : -1≤y1∧y1≤360000){o:List Int}{l:List cV}(hl:l.length+1≤1000000){x:List Int}(hx:x.length≤1000) :
  aC Tp 5 (sub (cd Tryz.f161) [1,1,1,1,0,1,0,0,1,1,0,0,1,1,1,0,1,0,1]) (rfO (bXv dl sk dc al i y0 y1 o l) 36 10 x) .normal (bZx dl sk dc al i y0 y1 o (l++[chM dl dc y0 y1 x])):=by
 obtain ⟨T',_,hT⟩:=bHl (sk:=sk) hd (fun n=>aCl hx n) y0 y1 hs (T:=[]) cF.nil
 obtain ⟨e1,e2,e3,e4⟩:=bNv l (chM dl dc y0 y1 x);cases hb:(lL dl x dc y0 y1).2 with
 | true =>
  have ec:chM dl dc y0 y1 x=(far,true,x):=by unfold chM;rw [hb];rfl
  rw [hb] at hT
  rw [ec] at e1 e2 e3 e4 ⊢
  exact bDl hT rfl ⟨rfl,hl⟩ (by simp) e1 e2 e3 e4
 | false =>
  have ec:chM dl dc y0 y1 x=((lL dl x dc y0 y1).1,false,x):=by unfold chM;rw [hb];rfl
  rw [hb] at hT
  rw [ec] at e1 e2 e3 e4 ⊢
  exact bDm hT rfl ⟨rfl,hl⟩ (by simp) e1 e2 e3 e4
theorem bDi{dl:Int}{sk dc:Lqq}(hd:cE dc){al:List fR}{i:Nat}{y0 y1:Int}(hs : -1≤y1∧y1≤360000){o:List Int}(ho:o.length≤8) :
  aC Tp 0 (sub (cd Tryz.f161) [1,1,1,1,0,1,0,0,1,1,0,0,1,1,1,0,1,0]) (aIq dl sk dc al.length (al.map hpE).flatten i y0 y1 o) .normal (bXv dl sk dc al i y0 y1 o ((jX o).map (chM dl dc y0 y1))):=by
 have hp:(2:Nat) ^ o.length≤256:=gO (Nat.pow_le_pow_right (by omega) ho) (by decide)
 refine (aFw (P:=Tp) (k:=0) (kb:=5) (kk:=3) (g0:=⟨[],[3],[],[(102000,197)]⟩) (g1:=⟨[],[5],[],[]⟩) (aIq dl sk dc al.length (al.map hpE).flatten i y0 y1 o)
  (fun pre=>bXv dl sk dc al i y0 y1 o (pre.map (chM dl dc y0 y1))) (fun pre l=>bZx dl sk dc al i y0 y1 o ((pre++[l]).map (chM dl dc y0 y1))) (fun _ _=>⟨[],[]⟩) _ [] (fun _ _=>false)
  (cc := sub (cd Tryz.f161) [1, 1, 1, 1, 0, 1, 0, 0, 1, 1, 0, 0, 1, 1, 1, 0, 1, 0]) (gi := 35) (p1 := 36) (d := 10) (id := 11) (ty := 33) (pos := "outcome.go:71") (body := sub (cd Tryz.f161) [1, 1, 1, 1, 0, 1, 0, 0, 1, 1, 0, 0, 1, 1, 1, 0, 1, 0, 1]) (by kernel_rfl)
  rfl (fun _=>rfl) (g := .fn 182 [] [.rp [aG o] 0]) (by rfl) (aFu o (by omega)) (fun args w=>rfl) (fun _=>rfl) (fun pre => ?_) (fun _ _=>rfl) (fun _ _=>rfl) rfl rfl (fun _=>by show 4<5;omega) (by kernel_rfl) (fun x=>rfl) (by show 3≤3;omega) rfl (by kernel_rfl) (fun pre l=>by kernel_rfl) (fun _ _ h=>by cases h) (gR:=⟨[],[],[],[]⟩) (fun pre l hpl hx=>⟨fun _ => ?_,fun h=>by cases h⟩)).1 (fun _ _ _=>rfl)
 ·show (kI (al.map hpE).flatten && (kI [] && (kI ((pre.map (chM dl dc y0 y1)).map chE).flatten && true)))=true
  rw [sP bNu,sP aUe];rfl
 ·have:=bDh (dl:=dl) (y0:=y0) (sk:=sk) hd (al:=al) (i:=i) hs (o:=o) (l:=pre.map (chM dl dc y0 y1)) (by rw [fL];omega) hx
  rw [iY];exact this
end
section
theorem bXt{dl:Int}{sk dc:Lqq}(hd:cE dc){bib tm n:Int}(hn:n∈aP dl dc):aRg dl sk dc bib tm n (nE dc n != bib):=fun base=>by
 unfold aP at hn
 obtain ⟨x,hx,rfl⟩:=fF.1 hn;have hx:=(aOm.1 hx).1;have hr:=eN hd hx;have hs:nE dc (dN x)=gV dc x:=by unfold nE;rw [aTr hd hx]
 rw [hs];obtain ⟨h1,h2⟩:=aHu hd hx;have hk:=pX hd (n:=dN x) (by unfold inR;omega)
 have hab:=kV hd x hx;obtain ⟨a,b,c,d,e,f,rfl⟩:=len6 (hd.ud x hx);have hf:inR f:=by
  have:=(gU.1 (hd.rng _ hx));unfold inR;simp [dAb] at this hab ⊢;omega
 exact bYa hk h1 h2 (fun base=>aQf hd hf (.inl hx) hr.2) rfl
theorem bIv(dl:Int)(dc:Lqq)(b:Int):(uK dl dc b).length≤(aP dl dc).length:=rF _ _
theorem bNt{dl:Int}{sk dc:Lqq}(hd:cE dc)(hu:uni 2 sk)(hl:sk.length≤1000)(hs:∀ s∈sk,-1≤s.getD 1 0∧s.getD 1 0≤360000)(ho:(aP dl dc).length≤8) :
  aE Tp 0 (sub (cd Tryz.f161) [1,1,1,1,0,1,0,0]) (nA dl sk dc 0 [] 0) (.exit 0) (nA dl sk dc (bQ dl sk dc).length ((bQ dl sk dc).map hpE).flatten sk.length):=by
 obtain ⟨acc,hI,hL⟩:=aE.ex (P:=Tp) (k:=0) (b:=sub (cd Tryz.f161) [1,1,1,1,0,1,0,0]) (e := .exit 0) (fun i (al:List fR)=>nA dl sk dc al.length (al.map hpE).flatten i) (fun al=>nA dl sk dc al.length (al.map hpE).flatten sk.length) (fun i al=>al=bQ dl (sk.take i) dc) (by simp) sk.length
  (fun i al hi hal=>by
   obtain ⟨x,hx⟩:∃ x,sk[i]? = some x:=⟨_,kQ0 hi⟩;have hm:=kQ4 hx;have hsx:=hs x hm;obtain ⟨y0,y1,rfl⟩:=len2 (hu x hm);have hlen:al.length=i:=by rw [hal];unfold bQ;rw [fL,nC];omega
   refine ⟨al++[oY dl dc y0 y1 (uK dl dc y0)],?_,bDj (o102:=uK dl dc y0) (by omega) hx hu (by omega) (bXz (by omega) fun n hn=>bXt hd hn) (bDi hd hsx (gO (bIv dl dc y0) ho)) ⟨rfl,by omega⟩ (aO (by omega)) (by simp) (by simp only [iY,iM,List.map_nil,aOk,tY,List.flatten_nil,List.append_nil];rfl) rfl⟩
   rw [hal];unfold bQ;rw [List.take_add_one,hx];simp)
  (fun al _=>bDk (by omega)) (acc:=[]) (by simp [bQ])
 rw [List.take_length] at hI
 rw [← hI];exact hL
theorem bXu{dl:Int}{sk dc:Lqq}(hd:cE dc)(hu:uni 2 sk)(hl:sk.length≤1000)(hs:∀ s∈sk,-1≤s.getD 1 0∧s.getD 1 0≤360000)(ho:(aP dl dc).length≤8){base:Nat} :
  FV Tp 161 [oU dl sk dc] base (.tup [.own base,.p (aA 0)]) [(base,.row 195 (bQ dl sk dc).length ((bQ dl sk dc).map hpE).flatten)]:=bXw hd (by omega) (bNt hd hu hl hs ho)
end
end KV
end Go.Proofs
section
namespace Go.Proofs
open Go.Shelf
def Tryz.lays189_ren:Go.Shelf.Ren:=⟨fun | 189=>57 | 125=>131 | 257=>130 | 128=>180 | 129=>181 | 294=>171 | 295=>172 | 296=>173 | 297=>174 | 298=>175 | 299=>176 | 216=>177 | 300=>178 | 301=>179 | 328=>207 | 329=>208 | 330=>209 | 331=>210 | 332=>211 | 215=>168 | 343=>224 | n=>n,fun | 28=>33 | 3=>3 | 46=>172 | 0=>0 | 51=>127 | 53=>225 | 4=>4 | 183=>218 | 182=>217 | 131=>106 | 5=>5 | 9=>9 | 218=>245 | 222=>249 | 228=>257 | 229=>198 | n=>n,fun | n=>n⟩
theorem Tryz.lays189:Go.Proofs.Lays.n189 Tryz.prog Tryz.lays189_ren:={
 mixed:=by kernel_rfl
 f125:=Tryz.func131.trans (congrArg some (by kernel_rfl))
 f128:=Tryz.func180.trans (congrArg some (by kernel_rfl))
 f129:=Tryz.func181.trans (congrArg some (by kernel_rfl))
 f189:=Tryz.func57.trans (congrArg some (by kernel_rfl))
 f215:=Tryz.func168.trans (congrArg some (by kernel_rfl))
 f216:=Tryz.func177.trans (congrArg some (by kernel_rfl))
 f257:=Tryz.func130.trans (congrArg some (by kernel_rfl))
 f294:=Tryz.func171.trans (congrArg some (by kernel_rfl))
 f295:=Tryz.func172.trans (congrArg some (by kernel_rfl))
 f296:=Tryz.func173.trans (congrArg some (by kernel_rfl))
 f297:=Tryz.func174.trans (congrArg some (by kernel_rfl))
 f298:=Tryz.func175.trans (congrArg some (by kernel_rfl))
 f299:=Tryz.func176.trans (congrArg some (by kernel_rfl))
 f300:=Tryz.func178.trans (congrArg some (by kernel_rfl))
 f301:=Tryz.func179.trans (congrArg some (by kernel_rfl))
 f328:=Tryz.func207.trans (congrArg some (by kernel_rfl))
 f329:=Tryz.func208.trans (congrArg some (by kernel_rfl))
 f330:=Tryz.func209.trans (congrArg some (by kernel_rfl))
 f331:=Tryz.func210.trans (congrArg some (by kernel_rfl))
 f332:=Tryz.func211.trans (congrArg some (by kernel_rfl))
 f343:=Tryz.func224.trans (congrArg some (by kernel_rfl))
 t0:=Tryz.underlying0
 a0:=Tryz.isAgg0
 z0:=Tryz.sizeOf0
 v0:=Tryz.zeroValue0
 t3:=Tryz.underlying3
 a3:=Tryz.isAgg3
 z3:=Tryz.sizeOf3
 v3:=Tryz.zeroValue3
 t4:=Tryz.underlying4
 a4:=Tryz.isAgg4
 z4:=Tryz.sizeOf4
 v4:=Tryz.zeroValue4
 t5:=Tryz.underlying5
 a5:=Tryz.isAgg5
 z5:=Tryz.sizeOf5
 v5:=Tryz.zeroValue5
 t9:=Tryz.underlying9
 a9:=Tryz.isAgg9
 z9:=Tryz.sizeOf9
 v9:=Tryz.zeroValue9
 t28:=Tryz.underlying33
 a28:=Tryz.isAgg33
 z28:=Tryz.sizeOf33
 v28:=Tryz.zeroValue33
 t46:=Tryz.underlying172
 a46:=Tryz.isAgg172
 z46:=Tryz.sizeOf172
 v46:=Tryz.zeroValue172
 t51:=Tryz.underlying127
 a51:=Tryz.isAgg127
 z51:=Tryz.sizeOf127
 v51:=Tryz.zeroValue127
 t53:=Tryz.underlying225
 a53:=Tryz.isAgg225
 z53:=Tryz.sizeOf225
 v53:=Tryz.zeroValue225
 t131:=Tryz.underlying106
 a131:=Tryz.isAgg106
 z131:=Tryz.sizeOf106
 v131:=Tryz.zeroValue106
 t182:=Tryz.underlying217
 a182:=Tryz.isAgg217
 z182:=Tryz.sizeOf217
 v182:=Tryz.zeroValue217
 t183:=Tryz.underlying218
 a183:=Tryz.isAgg218
 z183:=Tryz.sizeOf218
 v183:=Tryz.zeroValue218
 t218:=Tryz.underlying245
 a218:=Tryz.isAgg245
 z218:=Tryz.sizeOf245
 v218:=Tryz.zeroValue245
 t222:=Tryz.underlying249
 a222:=Tryz.isAgg249
 z222:=Tryz.sizeOf249
 v222:=Tryz.zeroValue249
 t228:=Tryz.underlying257
 a228:=Tryz.isAgg257
 z228:=Tryz.sizeOf257
 v228:=Tryz.zeroValue257
 t229:=Tryz.underlying198
 a229:=Tryz.isAgg198
 z229:=Tryz.sizeOf198
 v229:=Tryz.zeroValue198 }
open Go.Sort Go.RowKit in
theorem Tryz.slices_Sort_int(blk off cap:Nat)(zs:List Int)(w:World)(hH:Holds (Value.int .i64) w blk off zs.toArray)(hblk:blk<w.heap.size)(hsz:zs.length<4611686018427387904) :
  Calls Tryz.prog 57 #[.slice (some ⟨blk,off,none⟩) zs.length cap] w fun e w' =>
   e = .returned (.tuple #[])∧∃ n os,w'=grow (putRow (Value.int .i64) (Sort.ahead w n) blk off (zs.mergeSort fun x y=>decide (x≤y)).toArray) os:=Any.slices_Sort_int Tryz.lays189 blk off cap zs w hH hblk hsz
def Tryz.laysNm220_ren:Go.Shelf.Ren:=⟨fun | 20=>186 | n=>n,fun | 22=>33 | 3=>3 | 4=>4 | 0=>0 | n=>n,fun | n=>n⟩
theorem Tryz.laysNm220:Go.Proofs.Lays2.n20 Tryz.prog Tryz.laysNm220_ren:={
 mixed:=by kernel_rfl
 f20:=Tryz.func186.trans (congrArg some (by kernel_rfl))
 t0:=Tryz.underlying0
 a0:=Tryz.isAgg0
 z0:=Tryz.sizeOf0
 v0:=Tryz.zeroValue0
 t3:=Tryz.underlying3
 a3:=Tryz.isAgg3
 z3:=Tryz.sizeOf3
 v3:=Tryz.zeroValue3
 t4:=Tryz.underlying4
 a4:=Tryz.isAgg4
 z4:=Tryz.sizeOf4
 v4:=Tryz.zeroValue4
 t22:=Tryz.underlying33
 a22:=Tryz.isAgg33
 z22:=Tryz.sizeOf33
 v22:=Tryz.zeroValue33
 i3:=by kernel_rfl }
open Go.RowKit Go.Lib Go.Sort in
theorem Tryz.slices_Compact_int(blk off cap:Nat)(zs:List Int)(w:World)(hH:Holds (Value.int .i64) w blk off zs.toArray)(hsz:zs.length≤9223372036854775807)(hcap:zs.length≤cap) :
  Calls Tryz.prog 186 #[.slice (some ⟨blk,off,none⟩) zs.length cap] w fun e w'=>e = .returned (.slice (some ⟨blk,off,none⟩) (Lib.compact zs).length cap)∧∃ q,w'=putRow (Value.int .i64) (Sort.ahead w q) blk off (Lib.compact zs++List.replicate (zs.length-(Lib.compact zs).length) 0).toArray:=Any.slices_Compact_int Tryz.laysNm220 blk off cap zs w hH hsz hcap
open Go.RowKit Go.Lib Go.Sort in
theorem Tryz.slices_Compact_int_empty(a:Option Addr)(cap:Nat)(w:World) :
  Calls Tryz.prog 186 #[.slice a 0 cap] w fun e w'=>e = .returned (.slice a 0 cap)∧w'=w:=Any.slices_Compact_int_empty Tryz.laysNm220 a cap w
theorem Tryz.slices_Sort_int_none(p:Option Addr)(cap:Nat)(w:World) :
  Calls Tryz.prog 57 #[.slice p 0 cap] w fun e w'=>e = .returned (.tuple #[])∧w'=w:=Any.slices_Sort_int_none Tryz.lays189 p cap w
end Go.Proofs
end
section
namespace Go.Proofs
open Go.RowKit Go.Lib Go.Sort
namespace KL
def OwnI(w:World)(base:Nat)(v:Value)(l:List Int):Prop:=w.ownsRow base 3 1 v l.length (l.map (Value.int .i64))

def leB:Int→Int→Bool:=fun x y=>decide (x≤y)

theorem bJi(base:Nat)(v:Value)(l:List Int)(w:World)(hv:OwnI w base v l)(hlen:l.length≤1000000) :
  Calls Tryz.prog 57 #[v] w fun e w'=>e = .returned (.tuple #[])∧OwnI w' base v (l.mergeSort leB)∧w.grownBy w' v.ownBlock:=by
 have hown:=hv
 rcases hv.2 with ⟨rfl,h0⟩ | ⟨g,cap,cur,rfl,hb,hg,hn,hm,hs,ht⟩
 ·have:l=[]:=List.eq_nil_of_length_eq_zero h0
  subst this;refine (Tryz.slices_Sort_int_none none 0 w).mono ?_;rintro e w' ⟨rfl,rfl⟩;exact ⟨rfl,by simpa using hown,World.grownBy.refl _ _⟩
 ·have hlt:=lt_of_block hg
  refine (Tryz.slices_Sort_int g 0 cap l w (holds_of_blockI hg (by simpa using ht)) hlt (by omega)).mono ?_
  rintro e w' ⟨rfl,n,os,rfl⟩;refine ⟨rfl,?_,grownBy_sortedI _⟩;have hl:(l.mergeSort leB).length=l.length:=List.length_mergeSort l;unfold OwnI;rw [hl];exact ownsRow_sortedI hl hb hg hn hm hs

end KL
open KL
namespace KV
open Go.Shelf
variable {P:Program} {C:Cx} {M:Mem} {w w':World}
abbrev qD(l:List Int):AO := .row 3 l.length (l.map aA)
theorem bJj{F:Nat→Prop}{cur:Array Value}{l:List Int}(hle:l.length≤cur.size)(h:∀ j (hj:j<(l.map aA).length),cX F w (l.map aA)[j] (cur.getD j undef)):cur.toList.take l.length=l.map (Value.int .i64):=by
 apply List.ext_getElem
 ·simp;omega
 ·intro i h1 h2
  have hi:i<l.length:=by simpa using h2
  have:=h i (by simpa using hi)
  rw [List.getElem_map] at this
  rw [List.getElem_map,List.getElem_take];cases hx:cur.getD i undef with
  | int k z =>
   rw [hx] at this
   cases this;rw [Array.getD_eq_getD_getElem?,Array.getElem?_eq_getElem (by omega)] at hx
   simpa using hx
  | _=>rw [hx] at this;cases this
theorem aMm(F:Nat→Prop){cur:Array Value}{l:List Int}(h:cur.toList.take l.length=l.map (Value.int .i64)):(∀ j (hj:j<(l.map aA).length),cX F w (l.map aA)[j] (cur.getD j undef))∧∀ j,j<(l.map aA).length→(cur.getD j undef).oneCell'=true:=by
 have key:∀ j (hj:j<l.length),cur.getD j undef = .int .i64 l[j]:=fun j hj=>by
  have h1:=congrArg (fun x=>x[j]?) h
  simp only [List.getElem?_take,hj,if_true,List.getElem?_map,List.getElem?_eq_getElem hj,Option.map_some,Array.getElem?_toList] at h1
  rw [Array.getD_eq_getD_getElem?,h1];rfl
 refine ⟨fun j hj => ?_,fun j hj => ?_⟩
 ·have hj':j<l.length:=by simpa using hj
  rw [List.getElem_map,key j hj'];exact .v _
 ·rw [key j (by simpa using hj)];rfl

theorem size3:∃ i,Tryz.prog.info? 3=some i∧i.size=1:=sL (show (Tryz.prog.info? 3).map (fun i=>i.size)=some 1 by kernel_rfl)
theorem bJk{id:Nat}{l:List Int}{u:Value}(hM:aU Tryz.prog C M w)(ho:M[id]? = some (some (qD l)))(h:Rep C M w (.own id) u):OwnI w 0 u l:=by
 refine ⟨by simp,?_⟩
 cases h with
 | own _ _ h0 ha hr =>
  rcases hr _ _ _ ho with ⟨rfl,_,hn⟩ | ⟨b,rfl,hb⟩
  ·exact .inl ⟨rfl,hn⟩
  ·rcases hM.row _ _ _ _ ho with ⟨hn',_⟩ | ⟨b',arr,inf,hb',q1,q2,q3,q4,q5,q6,q7,q8⟩
   ·rw [hb] at hn';cases hn'
   ·rw [hb] at hb';cases hb'
    obtain ⟨i,hi,hs⟩:=size3;rw [hi] at q2;cases q2
    exact .inr ⟨b,_,arr,rfl,Nat.zero_le _,q1,q5,q6,by rw [q3,hs],by rw [Nat.mul_one];exact bJj (by rw [q3,hs];omega) q7⟩

theorem aGc{l l':List Int}{u u':Value}{d:Bool}(hM:aU Tryz.prog C [some (qD l)] w)(h:Rep C [some (qD l)] w (.own 0) u)(hown:OwnI w' 0 u' l')(hg:w.grownBy w' u.ownBlock)
  (hb:u'.ownBlock=u.ownBlock) (hd:d=false→u'=u∧l'.length=l.length) :
  ∃ C',Fr C [some (qD l)] w C' (if d then [some .dead,some (qD l')] else [some (qD l')]) w'∧aU Tryz.prog C' (if d then [some .dead,some (qD l')] else [some (qD l')]) w'∧Rep C' (if d then [some .dead,some (qD l')] else [some (qD l')]) w' (.own (if d then 1 else 0)) u':=by
 have at0:∀ (id:Nat) (o:AO),([some (qD l)]:Mem)[id]? = some (some o)→id=0∧o=qD l:=fun id o h=>by
  cases id with
  | zero=>simp at h;exact ⟨rfl,h.symm⟩
  | succ i=>simp at h
 have hblk:∀ b,C.ι 0=some b→u.ownBlock=some b∧∃ cap,u = .slice (some ⟨b,0,none⟩) l.length cap∧cap=C.κ 0:=fun b hb0=>by
  cases h with
  | own _ _ h0 ha hr =>
   rcases hr _ _ _ rfl with ⟨_,hn,_⟩ | ⟨b',rfl,hb'⟩
   ·rw [hb0] at hn;cases hn
   ·rw [hb0] at hb';cases hb';exact ⟨rfl,_,rfl,rfl⟩
 have hnb:C.ι 0=none→u = .slice none 0 0:=fun hn=>by
  cases h with
  | own _ _ h0 ha hr =>
   rcases hr _ _ _ rfl with ⟨hu,_,_⟩ | ⟨b',rfl,hb'⟩
   ·exact hu
   ·rw [hn] at hb';cases hb'
 have hkeep:∀ b,b<w.heap.size→(∀ (id:Nat) (o:AO),([some (qD l)]:Mem)[id]? = some (some o)→o.live=true→C.ι id≠some b)→w'.heap[b]? = w.heap[b]? := fun b hb1 hn=>by
  refine hg.block b hb1 fun he => ?_
  cases hι:C.ι 0 with
  | none=>rw [hnb hι] at he;cases he
  | some b' =>
   rw [(hblk b' hι).1] at he;cases he
   exact hn 0 _ rfl rfl hι
 have hFz:∀ b,C.F b→w'.heap[b]? = w.heap[b]? := fun b hf=>hkeep b (hM.Fs b hf) fun id o hm hl he=>hM.nF id o b hm hl he hf
 cases d with
 | false =>
  obtain ⟨rfl,hlen⟩:=hd rfl;simp only [Bool.false_eq_true,if_false];have at1:∀ (id:Nat) (o:AO),([some (qD l')]:Mem)[id]? = some (some o)→id=0∧o=qD l':=fun id o h=>by
   cases id with
   | zero=>simp at h;exact ⟨rfl,h.symm⟩
   | succ i=>simp at h
  have hblk':∀ b,C.ι 0=some b→∃ cur,w'.heap[b]? = some (.cells cur 3 (0,0))∧l'.length≤C.κ 0∧C.κ 0≤maxLen∧cur.size=C.κ 0∧cur.toList.take l'.length=l'.map (Value.int .i64):=fun b hι=>by
   obtain ⟨_,cap,hu,hc⟩:=hblk b hι
   rcases hown.2 with ⟨he,_⟩ | ⟨g,cap',cur,hv,_,hh,r1,r2,r3,r4⟩
   ·rw [hu] at he;cases he
   ·rw [hu] at hv
    obtain ⟨e1,_,e3⟩:=Value.slice.inj hv;cases e1;subst e3;subst hc;exact ⟨cur,hh,r1,r2,by omega,by simpa using r4⟩
  refine ⟨C,⟨hg.os,hg.tape,hg.output,hg.size,hkeep,fun id o hm => ?_,fun id o hm ty n cs hx => ?_,fun id o hm o' hx hl => ?_,fun id o b hm hl hb => ?_,fun _ h=>h,fun _ h => .inl h⟩,
   ⟨fun id ty n cs hm => ?_,fun id ty cs hm => ?_,fun id es cl hm => ?_,fun id id' o o' b h1 _ h2 _ _ _ => ?_,fun id o b hm hl hb => ?_,fun b hb=>Nat.lt_of_lt_of_le (hM.Fs b hb) hg.size,fun id o b hm hl hb => ?_⟩,?_⟩
  ·obtain ⟨rfl,rfl⟩:=at0 id o hm
   exact ⟨⟨_,rfl⟩,rfl,rfl⟩
  ·obtain ⟨rfl,rfl⟩:=at0 id o hm
   obtain ⟨_,he⟩:=at1 _ _ hx;cases he;exact ⟨l.map aA,by rw [hlen];rfl⟩
  ·obtain ⟨rfl,rfl⟩:=at0 id o hm
   rfl
  ·obtain ⟨rfl,rfl⟩:=at1 id o hm
   exact .inr ⟨0,_,rfl,rfl,hb⟩
  ·obtain ⟨rfl,he⟩:=at1 id _ hm
   cases he;cases hι:C.ι 0 with
   | none =>
    have:=hnb hι
    rcases hown.2 with ⟨_,h0⟩ | ⟨g,cap',cur,hv,_⟩
    ·have:l'=[]:=List.eq_nil_of_length_eq_zero h0
     subst this;exact .inl ⟨rfl,rfl,rfl⟩
    ·rw [this] at hv;cases hv
   | some b =>
    obtain ⟨cur,q1,q2,q3,q4,q5⟩:=hblk' b hι;obtain ⟨i,hi,hs⟩:=size3;obtain ⟨r1,r2⟩:=aMm (w:=w') C.F q5;exact .inr ⟨b,cur,i,rfl,q1,hi,by rw [hs,q4,Nat.mul_one],by simp [hs],q2,q3,r1,r2⟩
  ·obtain ⟨_,he⟩:=at1 id _ hm;cases he
  ·obtain ⟨_,he⟩:=at1 id _ hm;cases he
  ·obtain ⟨rfl,_⟩:=at1 id _ h1
   obtain ⟨rfl,_⟩:=at1 id' _ h2;rfl
  ·obtain ⟨rfl,_⟩:=at1 id _ hm
   exact hM.nF 0 _ b rfl rfl hb
  ·obtain ⟨rfl,_⟩:=at1 id _ hm
   exact Nat.lt_of_lt_of_le (hM.lt 0 _ b rfl rfl hb) hg.size
  ·cases h with
   | own _ _ h0 ha hr =>
    refine .own 0 _ h0 ⟨_,rfl⟩ fun ty n cs hx => ?_
    obtain ⟨_,he⟩:=at1 0 _ hx;cases he
    rcases hr _ _ _ rfl with ⟨q1,q2,q3⟩ | ⟨b,q1,q2⟩
    ·exact .inl ⟨q1,q2,by omega⟩
    ·exact .inr ⟨b,by rw [q1,hlen],q2⟩
 | true =>
  simp only [if_true]
  let cap':Nat:=match u' with | .slice _ _ c=>c | _=>0
  have at1:∀ (id:Nat) (o:AO),([some .dead,some (qD l')]:Mem)[id]? = some (some o)→(id=0∧o = .dead)∨(id=1∧o=qD l'):=fun id o h=>by
   match id,h with
   | 0,h=>simp at h;exact .inl ⟨rfl,h.symm⟩
   | 1,h=>simp at h;exact .inr ⟨rfl,h.symm⟩
   | i+2,h=>simp at h
  refine ⟨{ ι:=fun i=>if i=1 then u'.ownBlock else C.ι i,κ:=fun i=>if i=1 then cap' else C.κ i,F:=C.F },⟨hg.os,hg.tape,hg.output,hg.size,hkeep,fun id o hm => ?_,fun id o hm ty n cs hx => ?_,fun id o hm o' hx hl => ?_,fun id o b hm hl hbb => ?_,fun _ h=>h,fun _ h => .inl h⟩,
   ⟨fun id ty n cs hm => ?_,fun id ty cs hm => ?_,fun id es cl hm => ?_,fun id id' o o' b h1 l1 h2 l2 _ _ => ?_,fun id o b hm hl hbb => ?_,fun b hb=>Nat.lt_of_lt_of_le (hM.Fs b hb) hg.size,fun id o b hm hl hbb => ?_⟩,?_⟩
  ·obtain ⟨rfl,rfl⟩:=at0 id o hm
   exact ⟨⟨_,rfl⟩,rfl,rfl⟩
  ·obtain ⟨rfl,rfl⟩:=at0 id o hm
   rcases at1 _ _ hx with ⟨_,he⟩ | ⟨he,_⟩
   ·cases he
   ·cases he
  ·obtain ⟨rfl,rfl⟩:=at0 id o hm
   rfl
  ·rcases at1 id o hm with ⟨rfl,rfl⟩ | ⟨rfl,rfl⟩
   ·cases hl
   ·simp only [if_true] at hbb
    rw [hb] at hbb
    cases hι:C.ι 0 with
    | none=>rw [hnb hι] at hbb;cases hbb
    | some b' =>
     rw [(hblk b' hι).1] at hbb;cases hbb
     exact .inr ⟨0,_,rfl,rfl,hι⟩
  ·rcases at1 id _ hm with ⟨_,he⟩ | ⟨rfl,he⟩
   ·cases he
   ·cases he
    simp only [if_true]
    rcases hown.2 with ⟨rfl,h0⟩ | ⟨g,cp,cur,rfl,_,hh,r1,r2,r3,r4⟩
    ·have:l'=[]:=List.eq_nil_of_length_eq_zero h0
     subst this;exact .inl ⟨rfl,rfl,rfl⟩
    ·obtain ⟨i,hi,hs⟩:=size3
     obtain ⟨q1,q2⟩:=aMm (w:=w') C.F (by simpa using r4)
     exact .inr ⟨g,cur,i,rfl,hh,hi,by rw [hs];exact r3,by simp [hs],r1,r2,q1,q2⟩
  ·rcases at1 id _ hm with ⟨_,he⟩ | ⟨_,he⟩ <;> cases he
  ·rcases at1 id _ hm with ⟨_,he⟩ | ⟨_,he⟩ <;> cases he
  ·rcases at1 id _ h1 with ⟨_,rfl⟩ | ⟨rfl,_⟩
   ·cases l1
   ·rcases at1 id' _ h2 with ⟨_,rfl⟩ | ⟨rfl,_⟩
    ·cases l2
    ·rfl
  ·rcases at1 id _ hm with ⟨_,rfl⟩ | ⟨rfl,_⟩
   ·cases hl
   ·simp only [if_true] at hbb
    rw [hb] at hbb
    cases hι:C.ι 0 with
    | none=>rw [hnb hι] at hbb;cases hbb
    | some b' =>
     rw [(hblk b' hι).1] at hbb;cases hbb
     exact hM.nF 0 _ _ rfl rfl hι
  ·rcases at1 id _ hm with ⟨_,rfl⟩ | ⟨rfl,_⟩
   ·cases hl
   ·simp only [if_true] at hbb
    rw [hb] at hbb
    cases hι:C.ι 0 with
    | none=>rw [hnb hι] at hbb;cases hbb
    | some b' =>
     rw [(hblk b' hι).1] at hbb;cases hbb
     exact Nat.lt_of_lt_of_le (hM.lt 0 _ _ rfl rfl hι) hg.size
  ·have h0:u'.oneCell'=true:=by
    rcases hown.2 with ⟨rfl,_⟩ | ⟨g,cp,cur,rfl,_⟩ <;> rfl
   refine .own 1 _ h0 ⟨_,rfl⟩ fun ty n cs hx => ?_
   rcases at1 _ _ hx with ⟨he,_⟩ | ⟨_,he⟩
   ·cases he
   ·cases he
    simp only [if_true]
    rcases hown.2 with ⟨rfl,h9⟩ | ⟨g,cp,cur,rfl,_⟩
    ·exact .inl ⟨rfl,rfl,h9⟩
    ·exact .inr ⟨g,rfl,rfl⟩

theorem bJl(l:List Int)(hl:l.length≤1000000):FMM Tryz.prog 57 [.own 0] [some (qD l)] (.tup []) [some (qD (l.mergeSort leB))]:=fun C w us hus hM n=>by
 obtain ⟨u,rfl,hu⟩:=vM hus;refine (callsIn_wide.2 (bJi 0 u l w (bJk hM rfl hu) hl)).mono ?_;rintro e w' ⟨rfl,h1,h2⟩;obtain ⟨C',f,m,_⟩:=aGc (d:=false) hM hu h1 h2 rfl (fun _=>⟨rfl,List.length_mergeSort l⟩)
 exact ⟨_,rfl,C',f,m,.tup [] #[] rfl (fun i h=>by simp at h)⟩
theorem aCy(l:List Int):(Lib.compact l).length≤l.length:=by
 unfold Lib.compact Lib.compactUpTo;rw [List.length_map];exact Nat.le_trans (List.length_filter_le _ _) (by simp)
theorem aMn(base:Nat)(v:Value)(l:List Int)(w:World)(hv:KL.OwnI w base v l)(hlen:l.length≤1000000) :
  Calls Tryz.prog 186 #[v] w fun e w'=>∃ p' n' cap',e = .returned (.slice p' n' cap')∧n'=(Lib.compact l).length∧KL.OwnI w' base (.slice p' n' cap') (Lib.compact l)∧w.grownBy w' v.ownBlock∧((Value.slice p' n' cap').ownBlock=v.ownBlock):=by
 have hown:=hv
 rcases hv.2 with ⟨rfl,h0⟩ | ⟨b,cap,cur,rfl,hb,hg,hn,hm,hs,ht⟩
 ·have:l=[]:=List.eq_nil_of_length_eq_zero h0
  subst this;refine (Tryz.slices_Compact_int_empty none 0 w).mono ?_;rintro e w' ⟨rfl,rfl⟩;exact ⟨_,_,_,rfl,rfl,hown,World.grownBy.refl _ _,rfl⟩
 ·refine (Tryz.slices_Compact_int b 0 cap l w (holds_of_blockI hg (by simpa using ht)) (by omega) (by simpa using hn)).mono ?_
  rintro e w' ⟨rfl,q,rfl⟩;have hfl:=aCy l;refine ⟨_,_,_,rfl,rfl,?_,?_,rfl⟩
  ·have:=ownsRow_putRow (enc:=Value.int .i64) (q:=q) (k:=(Lib.compact l).length) (ys:=Lib.compact l++List.replicate (l.length-(Lib.compact l).length) 0) hown (by simp;omega) hfl
   unfold KL.OwnI;simpa using this
  ·exact grownBy_sortedI (os := #[]) (n:=q) (g:=b) (w:=w) ((Lib.compact l++List.replicate (l.length-(Lib.compact l).length) 0).toArray)
theorem aMo(l:List Int)(hl:l.length≤1000000):FMM Tryz.prog 186 [.own 0] [some (.row 3 l.length (l.map aA))] (.own 1) [some .dead,some (.row 3 (Lib.compact l).length ((Lib.compact l).map aA))]:=fun C w us hus hM n=>by
 obtain ⟨u,rfl,hu⟩:=vM hus;refine (callsIn_wide.2 (aMn 0 u l w (bJk hM rfl hu) hl)).mono ?_;rintro e w' ⟨p',n',cap',rfl,h0,h1,h2,h3⟩;obtain ⟨C',f,m,r⟩:=aGc (d:=true) hM hu h1 h2 h3 (fun h=>by cases h)
 exact ⟨_,rfl,C',f,m,r⟩
end KV
end Go.Proofs
end
namespace Go.Proofs
namespace KV
section

noncomputable abbrev rS:Code:=sub (cd Tryz.f142) [1,1,0,1,0,0]
noncomputable abbrev xI:Code:=sub (cd Tryz.f141) [1,0,1,0,0]
noncomputable abbrev xJ:Code:=sub (cd Tryz.f141) [1,0,1,0,0,1,1,0,0,1,1,1,1,1,0,0]
theorem aIl:0≤(0:Int)∧(0:Int)<2:=by first | decide | simp
theorem aIm:0≤(1:Int)∧(1:Int)<2:=by first | decide | simp
def iI(al:List fR)(s:Nat)(t:Int)(few:Nat)(many:Nat)(i:Nat):St:=⟨fr 39 [(1,(pI (s:Int))),(2,(pI t)),(6,(pI 0)),(7,(pI 0)),(8,(pI (few:Int))),(9,(pI (many:Int))),(12,(.p (.sl al.length ((al.map hpE).flatten)))),(13,(pI (al.length:Int))),(14,(pI (i:Int)))],[]⟩
theorem bXp{al:List fR}{s:Nat}{t:Int}{few'0 many'1 i'2:Nat}(hl0:aE Tp 0 rS (iI al s t 0 0 0) (.exit 0) (iI al s t few'0 many'1 i'2)){base:Nat}:FV Tp 142 [(.p (.sl al.length ((al.map hpE).flatten))),(pI (s:Int)),(pI t)] base (.tup [(pI (few'0:Int)),(pI (many'1:Int))]) []:=by
 exact FV.fin Tryz.func142 rfl (o:=[.k 8 ⟨(rng [(0,1),(3,3),(10,2),(15,22)]),[],[],[]⟩ (.exit 0) (iI al s t few'0 many'1 i'2)]) (l:=[_]) (by kernel_rfl) (gc hl0.code gn)
theorem bCw{al:List fR}{s:Nat}{t:Int}{few many i:Nat}{c100:List cV}{mn101 mx102:Int}{i':Nat}(h0:(i:Int)<(al.length:Int))(h1:al[i]? = some (c100,mn101,mx102))(h2:(i:Int)=(s:Int))(h3:inR (((i+1):Nat):Int))(ei':i'=(i+1)):aC Tp 0 rS (iI al s t few many i) .normal (iI al s t few many i'):=by
 subst ei';exact aC.fin (g:=⟨(rng [(0,1),(3,3),(10,2),(15,22)]),[],[],[]⟩) (o:=[bT,.x (.agg [(.sl c100.length ((c100.map chE).flatten)),(aA mn101),(aA mx102)]),bT]) (l:=[_,_,some (.agg ((((al.map hpE).flatten).drop (i*3)).take 3):PV)=some (.agg [(.sl c100.length ((c100.map chE).flatten)),(aA mn101),(aA mx102)]),(i*3)+3≤((al.map hpE).flatten).length,0≤(i:Int)∧(i:Int)<(al.length:Int)∧(i*3)<((al.map hpE).flatten).length,_]) (by kernel_rfl) (gc h3 (gc (cC h2) (gc (mW (E:=hpE) (i:=i) (k:=3) (fun _=>rfl) h1 rfl) (gc (uF (E:=hpE) (i:=i) (k:=3) (fun _=>rfl) h1) (gc (rJ (E:=hpE) (k:=3) (i:=(i:Int)) (fun _=>rfl) (by decide) (kQ1 _) h1) (gc (aQ h0) gn))))))
theorem bCx{al:List fR}{s:Nat}{t:Int}{few many i:Nat}{c100:List cV}{mn101 mx102:Int}{few' many' i':Nat}(h0:(i:Int)<(al.length:Int))(h1:al[i]? = some (c100,mn101,mx102))(h2:(i:Int)≠(s:Int))(h3:mx102<t)(h4:inR (((few+1):Nat):Int))(h5:mn101<t)(h6:inR (((many+1):Nat):Int))(h7:inR (((i+1):Nat):Int))(efew':few'=(few+1))(emany':many'=(many+1))(ei':i'=(i+1)):aC Tp 0 rS (iI al s t few many i) .normal (iI al s t few' many' i'):=by
 subst efew' emany' ei';exact aC.fin (g:=⟨(rng [(0,1),(3,3),(10,2),(15,22)]),[],[],[]⟩) (o:=[bT,.x (.agg [(.sl c100.length ((c100.map chE).flatten)),(aA mn101),(aA mx102)]),bF,bT,bT]) (l:=[_,_,_,_,_,_,_,_,some (.agg ((((al.map hpE).flatten).drop (i*3)).take 3):PV)=some (.agg [(.sl c100.length ((c100.map chE).flatten)),(aA mn101),(aA mx102)]),(i*3)+3≤((al.map hpE).flatten).length,0≤(i:Int)∧(i:Int)<(al.length:Int)∧(i*3)<((al.map hpE).flatten).length,_]) (by kernel_rfl) (gc h7 (gc h6 (gc (aQ h5) (gc aIl (gc h4 (gc (aQ h3) (gc aIm (gc (bE h2) (gc (mW (E:=hpE) (i:=i) (k:=3) (fun _=>rfl) h1 rfl) (gc (uF (E:=hpE) (i:=i) (k:=3) (fun _=>rfl) h1) (gc (rJ (E:=hpE) (k:=3) (i:=(i:Int)) (fun _=>rfl) (by decide) (kQ1 _) h1) (gc (aQ h0) gn))))))))))))
theorem bCy{al:List fR}{s:Nat}{t:Int}{few many i:Nat}{c100:List cV}{mn101 mx102:Int}{few' i':Nat}(h0:(i:Int)<(al.length:Int))(h1:al[i]? = some (c100,mn101,mx102))(h2:(i:Int)≠(s:Int))(h3:mx102<t)(h4:inR (((few+1):Nat):Int))(h5:t≤mn101)(h6:inR (((i+1):Nat):Int))(efew':few'=(few+1))(ei':i'=(i+1)):aC Tp 0 rS (iI al s t few many i) .normal (iI al s t few' many i'):=by
 subst efew' ei';exact aC.fin (g:=⟨(rng [(0,1),(3,3),(10,2),(15,22)]),[],[],[]⟩) (o:=[bT,.x (.agg [(.sl c100.length ((c100.map chE).flatten)),(aA mn101),(aA mx102)]),bF,bT,bF]) (l:=[_,_,_,_,_,_,_,some (.agg ((((al.map hpE).flatten).drop (i*3)).take 3):PV)=some (.agg [(.sl c100.length ((c100.map chE).flatten)),(aA mn101),(aA mx102)]),(i*3)+3≤((al.map hpE).flatten).length,0≤(i:Int)∧(i:Int)<(al.length:Int)∧(i*3)<((al.map hpE).flatten).length,_]) (by kernel_rfl) (gc h6 (gc (aR h5) (gc aIl (gc h4 (gc (aQ h3) (gc aIm (gc (bE h2) (gc (mW (E:=hpE) (i:=i) (k:=3) (fun _=>rfl) h1 rfl) (gc (uF (E:=hpE) (i:=i) (k:=3) (fun _=>rfl) h1) (gc (rJ (E:=hpE) (k:=3) (i:=(i:Int)) (fun _=>rfl) (by decide) (kQ1 _) h1) (gc (aQ h0) gn)))))))))))
theorem bCz{al:List fR}{s:Nat}{t:Int}{few many i:Nat}{c100:List cV}{mn101 mx102:Int}{many' i':Nat}(h0:(i:Int)<(al.length:Int))(h1:al[i]? = some (c100,mn101,mx102))(h2:(i:Int)≠(s:Int))(h3:t≤mx102)(h4:mn101<t)(h5:inR (((many+1):Nat):Int))(h6:inR (((i+1):Nat):Int))(emany':many'=(many+1))(ei':i'=(i+1)):aC Tp 0 rS (iI al s t few many i) .normal (iI al s t few many' i'):=by
 subst emany' ei';exact aC.fin (g:=⟨(rng [(0,1),(3,3),(10,2),(15,22)]),[],[],[]⟩) (o:=[bT,.x (.agg [(.sl c100.length ((c100.map chE).flatten)),(aA mn101),(aA mx102)]),bF,bF,bT]) (l:=[_,_,_,_,_,_,_,some (.agg ((((al.map hpE).flatten).drop (i*3)).take 3):PV)=some (.agg [(.sl c100.length ((c100.map chE).flatten)),(aA mn101),(aA mx102)]),(i*3)+3≤((al.map hpE).flatten).length,0≤(i:Int)∧(i:Int)<(al.length:Int)∧(i*3)<((al.map hpE).flatten).length,_]) (by kernel_rfl) (gc h6 (gc h5 (gc (aQ h4) (gc aIl (gc (aR h3) (gc aIm (gc (bE h2) (gc (mW (E:=hpE) (i:=i) (k:=3) (fun _=>rfl) h1 rfl) (gc (uF (E:=hpE) (i:=i) (k:=3) (fun _=>rfl) h1) (gc (rJ (E:=hpE) (k:=3) (i:=(i:Int)) (fun _=>rfl) (by decide) (kQ1 _) h1) (gc (aQ h0) gn)))))))))))
theorem bDa{al:List fR}{s:Nat}{t:Int}{few many i:Nat}{c100:List cV}{mn101 mx102:Int}{i':Nat}(h0:(i:Int)<(al.length:Int))(h1:al[i]? = some (c100,mn101,mx102))(h2:(i:Int)≠(s:Int))(h3:t≤mx102)(h4:t≤mn101)(h5:inR (((i+1):Nat):Int))(ei':i'=(i+1)):aC Tp 0 rS (iI al s t few many i) .normal (iI al s t few many i'):=by
 subst ei';exact aC.fin (g:=⟨(rng [(0,1),(3,3),(10,2),(15,22)]),[],[],[]⟩) (o:=[bT,.x (.agg [(.sl c100.length ((c100.map chE).flatten)),(aA mn101),(aA mx102)]),bF,bF,bF]) (l:=[_,_,_,_,_,_,some (.agg ((((al.map hpE).flatten).drop (i*3)).take 3):PV)=some (.agg [(.sl c100.length ((c100.map chE).flatten)),(aA mn101),(aA mx102)]),(i*3)+3≤((al.map hpE).flatten).length,0≤(i:Int)∧(i:Int)<(al.length:Int)∧(i*3)<((al.map hpE).flatten).length,_]) (by kernel_rfl) (gc h5 (gc (aR h4) (gc aIl (gc (aR h3) (gc aIm (gc (bE h2) (gc (mW (E:=hpE) (i:=i) (k:=3) (fun _=>rfl) h1 rfl) (gc (uF (E:=hpE) (i:=i) (k:=3) (fun _=>rfl) h1) (gc (rJ (E:=hpE) (k:=3) (i:=(i:Int)) (fun _=>rfl) (by decide) (kQ1 _) h1) (gc (aQ h0) gn))))))))))
theorem bDb{al:List fR}{s:Nat}{t:Int}{few many i:Nat}(h0:(al.length:Int)≤(i:Int)):aC Tp 0 rS (iI al s t few many i) (.exit 0) (iI al s t few many i):=by
 exact aC.fin (g:=⟨(rng [(0,1),(3,3),(10,2),(15,22)]),[],[],[]⟩) (o:=[bF]) (l:=[_]) (by kernel_rfl) (gc (aR h0) gn)
def jA(al:List fR)(s:Nat)(t:Int):Nat→Nat × Nat
 | 0=>(0,0)
 | i+1=>match al[i]? with
  | some h=>if i=s then jA al s t i else ((if h.2.2<t then (jA al s t i).1+1 else (jA al s t i).1),(if h.2.1<t then (jA al s t i).2+1 else (jA al s t i).2))
  | none=>jA al s t i
abbrev dH(al:List fR)(s:Nat)(t:Int):Nat × Nat:=jA al s t al.length
theorem oX(al:List fR)(s:Nat)(t:Int):∀ i,(jA al s t i).1≤i∧(jA al s t i).2≤i
 | 0=>⟨eG _,eG _⟩
 | i+1=>by
  have:=oX al s t i;unfold jA
  split
  ·split
   ·omega
   ·dsimp only
    split <;> split <;> omega
  ·omega
theorem bXq(al:List fR)(s:Nat)(t:Int)(hl:al.length≤1000){base:Nat}:FV Tp 142 [.p (.sl al.length (al.map hpE).flatten),.p (aA s),.p (aA t)] base (.tup [.p (aA ((dH al s t).1:Nat)),.p (aA ((dH al s t).2:Nat))]) []:=by
 obtain ⟨a,hI,hL⟩:=aE.ex (P:=Tp) (k:=0) (b:=rS) (e := .exit 0) (fun i (a:Nat × Nat)=>iI al s t a.1 a.2 i) (fun a=>iI al s t a.1 a.2 al.length) (fun i a=>a=jA al s t i) (by simp) al.length
  (fun i a hi ha=>by
   obtain ⟨⟨c,mn,mx⟩,hx⟩:∃ x,al[i]? = some x:=⟨_,kQ0 hi⟩;have hle:=oX al s t i;refine ⟨_,rfl,?_⟩;subst ha;have e:jA al s t (i+1)=if i=s then jA al s t i else ((if mx<t then (jA al s t i).1+1 else (jA al s t i).1),(if mn<t then (jA al s t i).2+1 else (jA al s t i).2)):=by
    conv=>lhs;unfold jA
    rw [hx]
   rw [e]
   by_cases his:i=s
   ·rw [if_pos his];exact bCw (by omega) hx (by omega) (aO (by omega)) rfl
   ·rw [if_neg his]
    by_cases h1:mx<t <;> by_cases h2:mn<t
    ·rw [if_pos h1,if_pos h2];exact bCx (by omega) hx (by omega) h1 (aO (by omega)) h2 (aO (by omega)) (aO (by omega)) rfl rfl rfl
    ·rw [if_pos h1,if_neg h2];exact bCy (by omega) hx (by omega) h1 (aO (by omega)) (by omega) (aO (by omega)) rfl rfl
    ·rw [if_neg h1,if_pos h2];exact bCz (by omega) hx (by omega) (by omega) h2 (aO (by omega)) (aO (by omega)) rfl rfl
    ·rw [if_neg h1,if_neg h2];exact bDa (by omega) hx (by omega) (by omega) (by omega) (aO (by omega)) rfl)
  (fun a _=>bDb (by omega)) (acc:=(0,0)) rfl
 subst hI;exact bXp hL
def kY(al:List fR)(s:Nat)(c0:List cV)(on:Nat)(oc:List PV)(ou:Bool)(inn:Bool)(i:Nat):St:=⟨fr 51 [(0,(.p (.sl al.length ((al.map hpE).flatten)))),(1,(pI (s:Int))),(4,(.own 0)),(5,(pB ou)),(6,(pB inn)),(16,(.p (.sl c0.length ((c0.map chE).flatten)))),(17,(pI (c0.length:Int))),(18,(pI (i:Int)))],[some (.row 3 on oc)]⟩
theorem bXr{al:List fR}{s:Nat}{c0:List cV}{mn1 mx2:Int}{o'3:List Int}{ou'4 inn'5:Bool}{i'6:Nat}(h0:al[s]? = some (c0,mn1,mx2))(hl1:aE Tp 0 xI (kY al s c0 0 [] false false 0) (.exit 0) (kY al s c0 o'3.length (o'3.map aA) ou'4 inn'5 i'6))(h2:o'3.length≤1000000)(h3:(o'3.mergeSort KL.leB).length≤1000000){base:Nat}:FV Tp 141 [(.p (.sl al.length ((al.map hpE).flatten))),(pI (s:Int))] base (.tup [(.p (aG (Lib.compact (o'3.mergeSort KL.leB)))),(pB ou'4),(pB inn'5)]) []:=by
 exact FV.frz (FMM.fin (k:=0) (g:=⟨[],[],[1],[]⟩) rfl Tryz.func141 rfl (o:=[.x (.sl c0.length ((c0.map chE).flatten)),.k 1 ⟨(rng [(2,2),(7,9),(19,26),(46,1)]),[0],[],[(4,3),(5,0),(6,0)]⟩ (.exit 0) (kY al s c0 o'3.length (o'3.map aA) ou'4 inn'5 i'6),.c (.tup []) [(0,(.row 3 ((o'3.mergeSort KL.leB).length) ((o'3.mergeSort KL.leB).map aA)))],.c (.own 1) [(0,.dead),(1,(.row 3 ((Lib.compact (o'3.mergeSort KL.leB)).length) ((Lib.compact (o'3.mergeSort KL.leB)).map aA)))]]) (l:=[FC Tp 186 [(.own 0)] [(0,(.row 3 ((o'3.mergeSort KL.leB).length) ((o'3.mergeSort KL.leB).map aA)))] 1 (.own 1) [(0,.dead),(1,(.row 3 ((Lib.compact (o'3.mergeSort KL.leB)).length) ((Lib.compact (o'3.mergeSort KL.leB)).map aA)))],FC Tp 57 [(.own 0)] [(0,(.row 3 o'3.length (o'3.map aA)))] 1 (.tup []) [(0,(.row 3 ((o'3.mergeSort KL.leB).length) ((o'3.mergeSort KL.leB).map aA)))],_,((al.map hpE).flatten)[(s*3)]? = some (.sl c0.length ((c0.map chE).flatten)),0≤(s:Int)∧(s:Int)<(al.length:Int)∧(s*3)<((al.map hpE).flatten).length]) (by kernel_rfl) (gc (FMM.fc (ids:=[0]) (aMo (o'3.mergeSort KL.leB) h3) (by kernel_rfl)) (gc (FMM.fc (ids:=[0]) (bJl o'3 h2) (by kernel_rfl)) (gc hl1.code (gc (bM (E:=hpE) (i:=s) (f:=0) (k:=3) (fun _=>rfl) h0 rfl) (gc (rJ (E:=hpE) (k:=3) (i:=(s:Int)) (fun _=>rfl) (by decide) (kQ1 _) h0) gn)))))) (by kernel_rfl)
def kZ(al:List fR)(s:Nat)(c0:List cV)(ou:Bool)(i:Nat)(t100:Int)(b101:Bool)(q102:List Int)(on:Nat)(oc:List PV)(n:Nat):St:=⟨fr 51 [(0,(.p (.sl al.length ((al.map hpE).flatten)))),(1,(pI (s:Int))),(4,(.own 0)),(5,(pB ou)),(6,(.kb true)),(8,(.ptr 1 0)),(9,(pI (((dH al s t100).1:Nat):Int))),(10,(pI (((dH al s t100).2:Nat):Int))),(11,(pI (n:Int))),(16,(.p (.sl c0.length ((c0.map chE).flatten)))),(17,(pI (c0.length:Int))),(18,(pI (i:Int))),(19,(pB (decide ((i:Int)<(c0.length:Int))))),(20,(.rp ((c0.map chE).flatten) (i*3))),(21,(.p (.agg [(aA t100),(blP b101),(aG q102)]))),(22,(.ptr 1 1)),(23,(pB b101)),(24,(.tup [(pI (((dH al s t100).1:Nat):Int)),(pI (((dH al s t100).2:Nat):Int))])),(25,(.p (.sl al.length ((al.map hpE).flatten)))),(26,(pI (s:Int))),(27,(.ptr 1 0)),(28,(pI t100)),(29,(.tup [(pI (((dH al s t100).1:Nat):Int)),(pI (((dH al s t100).2:Nat):Int))])),(30,(pI (((dH al s t100).1:Nat):Int))),(31,(pI (((dH al s t100).2:Nat):Int))),(32,(pI (((dH al s t100).1:Nat):Int))),(33,(pI ((((dH al s t100).1+1):Nat):Int)))],[some (.row 3 on oc),some (.box 197 [(pI t100),(pB b101),(.p (aG q102))])]⟩
theorem bDc{al:List fR}{s:Nat}{c0:List cV}{o:List Int}{ou inn:Bool}{i:Nat}{t100:Int}{b101:Bool}{q102:List Int}{i':Nat}(h0:(i:Int)<(c0.length:Int))(h1:c0[i]? = some (t100,b101,q102))(h2:b101=true)(h3:inR (((i+1):Nat):Int))(ei':i'=(i+1)):aC Tp 0 xI (kY al s c0 o.length (o.map aA) ou inn i) .normal (kY al s c0 o.length (o.map aA) true inn i'):=by
 subst ei';exact aC.fin (g:=⟨(rng [(2,2),(7,9),(19,26),(46,1)]),[0],[],[(5,0)]⟩) (o:=[bT,.x (.agg [(aA t100),(blP b101),(aG q102)]),bT]) (l:=[_,_,some (.agg ((((c0.map chE).flatten).drop (i*3)).take 3):PV)=some (.agg [(aA t100),(blP b101),(aG q102)]),(i*3)+3≤((c0.map chE).flatten).length,0≤(i:Int)∧(i:Int)<(c0.length:Int)∧(i*3)<((c0.map chE).flatten).length,_]) (by kernel_rfl) (gc h3 (gc h2 (gc (mW (E:=chE) (i:=i) (k:=3) (fun _=>rfl) h1 rfl) (gc (uF (E:=chE) (i:=i) (k:=3) (fun _=>rfl) h1) (gc (rJ (E:=chE) (k:=3) (i:=(i:Int)) (fun _=>rfl) (by decide) (kQ1 _) h1) (gc (aQ h0) gn))))))
theorem bDd{al:List fR}{s:Nat}{c0:List cV}{o:List Int}{ou inn:Bool}{i:Nat}{t100:Int}{b101:Bool}{q102 o'103:List Int}{n'104:Nat}{o':List Int}{i':Nat}(h0:(i:Int)<(c0.length:Int))(h1:c0[i]? = some (t100,b101,q102))(h2:b101=false)(h3:al.length≤1000)(h4:inR ((((dH al s t100).1+1):Nat):Int))(hl5:aE Tp 0 xJ (kZ al s c0 ou i t100 b101 q102 o.length (o.map aA) ((dH al s t100).1+1)) (.exit 2) (kZ al s c0 ou i t100 b101 q102 o'103.length (o'103.map aA) n'104))(h6:inR (((i+1):Nat):Int))(eo'n:o'.length=o'103.length)(eo'c:o'.map aA=(o'103.map aA))(ei':i'=(i+1)):aC Tp 0 xI (kY al s c0 o.length (o.map aA) ou inn i) .normal (kY al s c0 o'.length (o'.map aA) ou true i'):=by
 subst ei';have raw:aC Tp 0 xI (kY al s c0 o.length (o.map aA) ou inn i) .normal (kY al s c0 o'103.length (o'103.map aA) ou true (i+1)):=aC.fin (g:=⟨(rng [(2,2),(7,9),(19,26),(46,1)]),[0],[],[(6,0)]⟩) (o:=[bT,.x (.agg [(aA t100),(blP b101),(aG q102)]),bF,.c (.tup [(pI (((dH al s t100).1:Nat):Int)),(pI (((dH al s t100).2:Nat):Int))]) [],.k 3 ⟨(rng [(2,2),(7,1),(12,4),(34,10),(46,1)]),[0,1],[],[]⟩ (.exit 2) (kZ al s c0 ou i t100 b101 q102 o'103.length (o'103.map aA) n'104)]) (l:=[_,_,_,_,_,some (.agg ((((c0.map chE).flatten).drop (i*3)).take 3):PV)=some (.agg [(aA t100),(blP b101),(aG q102)]),(i*3)+3≤((c0.map chE).flatten).length,0≤(i:Int)∧(i:Int)<(c0.length:Int)∧(i*3)<((c0.map chE).flatten).length,_]) (by kernel_rfl) (gc h6 (gc hl5.code (gc h4 (gc (fk 2 (bXq al s t100 h3) rfl) (gc h2 (gc (mW (E:=chE) (i:=i) (k:=3) (fun _=>rfl) h1 rfl) (gc (uF (E:=chE) (i:=i) (k:=3) (fun _=>rfl) h1) (gc (rJ (E:=chE) (k:=3) (i:=(i:Int)) (fun _=>rfl) (by decide) (kQ1 _) h1) (gc (aQ h0) gn)))))))))
 exact raw.cast (by rw [eo'n,eo'c])
theorem bDe{al:List fR}{s:Nat}{c0:List cV}{o:List Int}{ou inn:Bool}{i:Nat}(h0:(c0.length:Int)≤(i:Int)):aC Tp 0 xI (kY al s c0 o.length (o.map aA) ou inn i) (.exit 0) (kY al s c0 o.length (o.map aA) ou inn i):=by
 exact aC.fin (g:=⟨(rng [(2,2),(7,9),(19,26),(46,1)]),[0],[],[]⟩) (o:=[bF]) (l:=[_]) (by kernel_rfl) (gc (aR h0) gn)
theorem bDf{al:List fR}{s:Nat}{c0:List cV}{ou:Bool}{i:Nat}{t100:Int}{b101:Bool}{q102 o:List Int}{n:Nat}{o':List Int}{n':Nat}(h0:inR ((((dH al s t100).2+1):Nat):Int))(h1:(n:Int)≤((((dH al s t100).2+1):Nat):Int))(h2:[(aA (n:Int))].length=1*1∧o.length+1≤1000000)(h3:inR (((n+1):Nat):Int))(eo'n:o'.length=(o.length+1))(eo'c:o'.map aA=((o.map aA)++[(aA (n:Int))]))(en':n'=(n+1)):aC Tp 0 xJ (kZ al s c0 ou i t100 b101 q102 o.length (o.map aA) n) .normal (kZ al s c0 ou i t100 b101 q102 o'.length (o'.map aA) n'):=by
 subst en';have raw:aC Tp 0 xJ (kZ al s c0 ou i t100 b101 q102 o.length (o.map aA) n) .normal (kZ al s c0 ou i t100 b101 q102 (o.length+1) ((o.map aA)++[(aA (n:Int))]) (n+1)):=aC.fin (g:=⟨(rng [(2,2),(7,1),(12,4),(34,10),(46,1)]),[3,1],[],[]⟩) (o:=[bT]) (l:=[_,_,_,_]) (by kernel_rfl) (gc h3 (gc h2 (gc (mD h1) (gc h0 gn))))
 exact raw.cast (by rw [eo'n,eo'c])
theorem bDg{al:List fR}{s:Nat}{c0:List cV}{ou:Bool}{i:Nat}{t100:Int}{b101:Bool}{q102 o:List Int}{n:Nat}(h0:inR ((((dH al s t100).2+1):Nat):Int))(h1:((((dH al s t100).2+1):Nat):Int)<(n:Int)):aC Tp 0 xJ (kZ al s c0 ou i t100 b101 q102 o.length (o.map aA) n) (.exit 2) (kZ al s c0 ou i t100 b101 q102 o.length (o.map aA) n):=by
 exact aC.fin (g:=⟨(rng [(2,2),(7,1),(12,4),(34,10),(46,1)]),[0,1],[],[]⟩) (o:=[bF]) (l:=[_,_]) (by kernel_rfl) (gc (lT h1) (gc h0 gn))
def aMe(few many:Nat):List Int:=(List.range (many+1-few)).map fun j=>((few+1+j:Nat):Int)
def chL(al:List fR)(s:Nat)(c:cV):List Int:=if c.2.1 then [] else aMe (dH al s c.1).1 (dH al s c.1).2
def mH(al:List fR)(s:Nat)(c:List cV):List Int:=Lib.compact ((c.flatMap (chL al s)).mergeSort KL.leB)
theorem bIu{a b:Nat}(h:b≤1000):(aMe a b).length≤1001:=by unfold aMe;simp;omega
theorem bNs(al:List fR)(hal:al.length≤1000)(s:Nat)(c:cV):(chL al s c).length≤1001:=by
 unfold chL
 split
 ·simp
 ·exact bIu (by have:(dH al s c.1).2≤al.length:=(oX al s c.1 al.length).2;omega)
theorem aIn{al:List fR}(hal:al.length≤1000)(s:Nat):∀ c:List cV,(c.flatMap (chL al s)).length≤c.length*1001
 | []=>by simp
 | x::c=>by
  rw [List.flatMap_cons,oS,vK];have:=bNs al hal s x;have:=aIn hal s c;omega
theorem bXs{al:List fR}(hal:al.length≤1000)(s:Nat)(c0:List cV)(ou:Bool)(i:Nat)(t:Int)(b:Bool)(q o:List Int)(ho:o.length≤900000) :
  ∃ n',aE Tp 0 xJ (kZ al s c0 ou i t b q o.length (o.map aA) ((dH al s t).1+1)) (.exit 2) (kZ al s c0 ou i t b q (o++aMe (dH al s t).1 (dH al s t).2).length ((o++aMe (dH al s t).1 (dH al s t).2).map aA) n'):=by
 have h1:(dH al s t).1≤al.length:=(oX al s t al.length).1;have h2:(dH al s t).2≤al.length:=(oX al s t al.length).2;obtain ⟨x,hI,hL⟩:=aE.ex (P:=Tp) (k:=0) (b:=xJ) (e := .exit 2) (fun j (x:List Int)=>kZ al s c0 ou i t b q x.length (x.map aA) ((dH al s t).1+1+j)) (fun x=>kZ al s c0 ou i t b q x.length (x.map aA) ((dH al s t).1+1+((dH al s t).2+1-(dH al s t).1)))
  (fun j x=>x=o++(List.range j).map fun j=>(((dH al s t).1+1+j:Nat):Int)) (by simp) ((dH al s t).2+1-(dH al s t).1)
  (fun j x hj hx=>by
   have hlen:x.length=o.length+j:=by rw [hx];simp
   refine ⟨x++[(((dH al s t).1+1+j:Nat):Int)],?_,bDf (aO (by omega)) (by omega) ⟨rfl,by omega⟩ (aO (by omega)) (by simp) (by simp) rfl⟩
   rw [hx,List.range_succ];simp)
  (fun x _=>bDg (aO (by omega)) (by omega)) (acc:=o) (by simp)
 rw [show o++aMe (dH al s t).1 (dH al s t).2=x from hI.symm]
 exact ⟨_,hL⟩
theorem aRd{al:List fR}(hal:al.length≤1000){s:Nat}{c:List cV}{mn mx:Int}(hx:al[s]? = some (c,mn,mx))(hc:c.length≤256){base:Nat} :
  FV Tp 141 [.p (.sl al.length (al.map hpE).flatten),.p (aA s)] base (.tup [.p (aG (mH al s c)),.p (blP (c.any fun x=>x.2.1)),.p (blP (c.any fun x => !x.2.1))]) []:=by
 obtain ⟨a,⟨hI,hJ,hK⟩,hL⟩:=aE.ex (P:=Tp) (k:=0) (b:=xI) (e := .exit 0) (fun i (a:List Int × Bool × Bool)=>kY al s c a.1.length (a.1.map aA) a.2.1 a.2.2 i) (fun a=>kY al s c a.1.length (a.1.map aA) a.2.1 a.2.2 c.length)
  (fun i a=>a.1=(c.take i).flatMap (chL al s)∧a.2.1=((c.take i).any fun x=>x.2.1)∧a.2.2=((c.take i).any fun x => !x.2.1)) (by simp) c.length
  (fun i a hi ha=>by
   obtain ⟨ha1,ha2,ha3⟩:=ha;obtain ⟨⟨t,b,q⟩,hx⟩:∃ x,c[i]? = some x:=⟨_,kQ0 hi⟩;have hlen:a.1.length≤256*1001:=by
    rw [ha1];have:=aIn hal s (c.take i);rw [nC] at this
    have:min i c.length≤256:=by omega
    omega
   have e1:c.take (i+1)=c.take i++[(t,b,q)]:=by rw [List.take_add_one,hx];rfl
   cases b with
   | true=>exact ⟨(a.1,true,a.2.2),⟨by rw [ha1,e1];simp [chL],by rw [e1];simp,by rw [ha3,e1];simp⟩,bDc (by omega) hx rfl (aO (by omega)) rfl⟩
   | false =>
    have h1:(dH al s t).1≤al.length:=(oX al s t al.length).1;obtain ⟨n',hl⟩:=bXs hal s c a.2.1 i t false q a.1 (by omega)
    exact ⟨(a.1++aMe (dH al s t).1 (dH al s t).2,a.2.1,true),⟨by rw [ha1,e1];simp [chL],by rw [ha2,e1];simp,by rw [e1];simp⟩,bDd (by omega) hx rfl hal (aO (by omega)) hl (aO (by omega)) rfl rfl rfl⟩)
  (fun a _=>bDe (by omega)) (acc:=([],false,false)) (by simp)
 rw [List.take_length] at hI hJ hK
 have hb:=aIn hal s c;have:=bXr (s:=s) hx hL (by rw [hI];omega) (by rw [List.length_mergeSort,hI];omega) (base:=base)
 rw [hI,hJ,hK] at this
 exact this
end
section
variable {dl:Int}{sk dc:Lqq}

theorem bIt:((0:Int) != (0:Int))=false:=by first | decide | simp
def rR(l:Lqq)(x0:Int)(x1:Int)(i:Nat):St:=⟨fr 19 [(0,(.p (fS l))),(3,(.ptr 0 0)),(7,(pI (l.length:Int))),(8,(pI (i:Int)))],[some (.box 31 [(pI x0),(pI x1)])]⟩
theorem bXl{l:Lqq}{x0 x1:Int}{i'0:Nat}(hl0:aE Tp 0 (sub (cd Tryz.f185) [1,0,1,0,0]) (rR l x0 x1 0) .ret (bG (rR l x0 x1 i'0) [(4,(pI (i'0:Int)))])){base:Nat}:FV Tp 185 [(.p (fS l)),(.p (.agg [(aA x0),(aA x1)]))] base (pI (i'0:Int)) []:=by
 exact FV.fin Tryz.func185 rfl (o:=[.k 6 ⟨(rng [(1,2),(4,3),(9,10)]),[0],[],[]⟩ .ret (bG (rR l x0 x1 i'0) [(4,(pI (i'0:Int)))])]) (l:=[_]) (by kernel_rfl) (gc hl0.code gn)
theorem bCu{l:Lqq}{x0 x1:Int}{i:Nat}{y100 y101:Int}(h0:(i:Int)<(l.length:Int))(h1:l[i]? = some [y100,y101])(h2:uni 2 l)(h3:dI [(aA x0),(aA x1)] [(0,3,true),(1,3,true)]=true∧dI [(aA y100),(aA y101)] [(0,3,true),(1,3,true)]=true)(h4:(kD [(aA x0),(aA x1)] [(aA y100),(aA y101)] [(0,3,true),(1,3,true)])=true):aC Tp 0 (sub (cd Tryz.f185) [1,0,1,0,0]) (rR l x0 x1 i) .ret (bG (rR l x0 x1 i) [(4,(pI (i:Int)))]):=by
 exact aC.fin (g:=⟨(rng [(1,2),(5,2),(9,10)]),[0],[],[]⟩) (o:=[bT,.x (.agg [(aA y100),(aA y101)]),bT]) (l:=[_,_,_,_,0≤(i:Int)∧(i:Int)<(l.length:Int)∧(i*2)<(l.flatten.map aA).length,_]) (by kernel_rfl) (gc h4 (gc h3 (gc (aL (i:=i) h2 h1) (gc (aW (i:=i) h2 h1) (gc (aV (k:=2) (i:=(i:Int)) (by decide) h2 (kQ1 _) h1) (gc (aQ h0) gn))))))
theorem bCv{l:Lqq}{x0 x1:Int}{i:Nat}{y100 y101:Int}{i':Nat}(h0:(i:Int)<(l.length:Int))(h1:l[i]? = some [y100,y101])(h2:uni 2 l)(h3:dI [(aA x0),(aA x1)] [(0,3,true),(1,3,true)]=true∧dI [(aA y100),(aA y101)] [(0,3,true),(1,3,true)]=true)(h4:(kD [(aA x0),(aA x1)] [(aA y100),(aA y101)] [(0,3,true),(1,3,true)])=false)(h5:inR (((i+1):Nat):Int))(ei':i'=(i+1)):aC Tp 0 (sub (cd Tryz.f185) [1,0,1,0,0]) (rR l x0 x1 i) .normal (rR l x0 x1 i'):=by
 subst ei';exact aC.fin (g:=⟨(rng [(1,2),(4,3),(9,10)]),[0],[],[]⟩) (o:=[bT,.x (.agg [(aA y100),(aA y101)]),bF]) (l:=[_,_,_,_,_,0≤(i:Int)∧(i:Int)<(l.length:Int)∧(i*2)<(l.flatten.map aA).length,_]) (by kernel_rfl) (gc h5 (gc h4 (gc h3 (gc (aL (i:=i) h2 h1) (gc (aW (i:=i) h2 h1) (gc (aV (k:=2) (i:=(i:Int)) (by decide) h2 (kQ1 _) h1) (gc (aQ h0) gn)))))))
theorem bXm{l:Lqq}(hu:uni 2 l)(hn:(aK l 0).Nodup)(hl:l.length≤1000){i:Nat}{x0 x1:Int}(hi:l[i]? = some [x0,x1]){base:Nat}:FV Tp 185 [.p (fS l),.p (.agg [aA x0,aA x1])] base (pI (i:Int)) []:=by
 have hlt:=aT hi;refine bXl (i'0:=i) ?_;have hne:∀ j,j<i→∃ y0 y1,l[j]? = some [y0,y1]∧y0≠x0:=fun j hj=>by
  obtain ⟨y0,y1,hy⟩:=at2 hu (i:=j) (by omega)
  refine ⟨y0,y1,hy,fun e => ?_⟩
  have e1:(aK l 0)[j]? = some y0:=by unfold aK;rw [gM,hy];rfl
  have e2:(aK l 0)[i]? = some x0:=by unfold aK;rw [gM,hi];rfl
  obtain ⟨hj1,hj2⟩:=kQ3.1 e1;obtain ⟨hi1,hi2⟩:=kQ3.1 e2;have:=List.pairwise_iff_getElem.1 hn j i hj1 hi1 hj;rw [hj2,hi2] at this
  exact this e
 exact aE.until (P:=Tp) i (fun j=>rR l x0 x1 j) i (eG _)
  (fun j hj=>by
   obtain ⟨y0,y1,hy,hn⟩:=hne j hj;exact bCv (by omega) hy hu ⟨rfl,rfl⟩ (by simp [kD,vB];exact fun h=>absurd h.symm hn) (aO (by omega)) rfl)
  (bCu (by omega) hi hu ⟨rfl,rfl⟩ (by simp [kD,vB])) (by simp)
theorem vY(h:cM dl sk dc):uni 2 (aB sk)∧(aB sk).length≤30∧(∀ s∈aB sk,-1≤s.getD 1 0∧s.getD 1 0≤360000)∧(aK (aB sk) 0).Nodup:=by
 have hp:=dY sk;refine ⟨mM h.us,by rw [fM];exact h.len.2,fun s hs=>(zL.1 (h.hsk s (hp.mem_iff.1 hs))).2,?_⟩
 unfold aK;exact (hp.map _).nodup_iff.2 h.ns
theorem aUd(h:cM dl sk dc)(ho:(aP dl (aB dc)).length≤8){base:Nat}:FV Tp 161 [oU dl (aB sk) (aB dc)] base (.tup [.own base,.p (aA 0)]) [(base,.row 195 (bQ dl (aB sk) (aB dc)).length ((bQ dl (aB sk) (aB dc)).map hpE).flatten)]:=by
 obtain ⟨h1,h2,h3,_⟩:=vY h;exact bXu (dQ h) h1 (by omega) h3 ho
theorem bNr(h:cM dl sk dc){i:Nat}{x0 x1:Int}(hi:(aB sk)[i]? = some [x0,x1]){base:Nat}:FV Tp 185 [.p (fS (aB sk)),.p (.agg [aA x0,aA x1])] base (pI (i:Int)) []:=by
 obtain ⟨h1,h2,_,h4⟩:=vY h;exact bXm h1 h4 (by omega) hi
theorem bXn{bib:Int}{i0:Nat}{s1 s2:Int}(h0:cM dl sk dc)(h1:bHf (aB sk) bib=(i0:Int))(h2:(aB sk)[i0]? = some [s1,s2])(h3:(aP dl (aB dc)).length≤8){base:Nat}:FV Tp 140 [(.p (.agg (bB dl sk dc))),(pI bib)] base (.tup [(.p (.sl ((bQ dl (aB sk) (aB dc)).length) (((bQ dl (aB sk) (aB dc)).map hpE).flatten))),(pI (i0:Int)),(pI 0)]) []:=by
 exact FV.frz (FMM.fin (k:=0) (g:=⟨[],[],[2],[]⟩) rfl Tryz.func140 rfl (o:=[.c (.tup [(.rp (aI dl (aB sk) (aB dc)) 0),(.p (.agg [(aA s1),(aA s2)])),(pI 0)]) [],bF,.c (.tup [(.own 2),(pI 0)]) [(2,(.row 195 ((bQ dl (aB sk) (aB dc)).length) (((bQ dl (aB sk) (aB dc)).map hpE).flatten)))],.x (.sl ((aB sk).length) ((aB sk).flatten.map aA)),.c (pI (i0:Int)) []]) (l:=[_,(aI dl (aB sk) (aB dc))[1]? = some (.sl ((aB sk).length) ((aB sk).flatten.map aA)),_,_,_]) (by kernel_rfl) (gc (fk 3 (bNr h0 h2) rfl) (gc rfl (gc (fk 2 (aUd h0 h3) rfl) (gc bIt (gc (fk 1 (bHg h0 h1 h2) rfl) gn)))))) (by kernel_rfl)
theorem bXo{bib:Int}{i0:Nat}{s1 s2:Int}{c3:List cV}{mn4 mx5:Int}{r0:Bool}(h0:cM dl sk dc)(h1:bHf (aB sk) bib=(i0:Int))(h2:(aB sk)[i0]? = some [s1,s2])(h3:(aP dl (aB dc)).length≤8)(h4:(bQ dl (aB sk) (aB dc))[i0]? = some (c3,mn4,mx5))(h5:(bQ dl (aB sk) (aB dc)).length≤1000)(h6:c3.length≤256)(er0:r0=(c3.any fun x=>x.2.1)){base:Nat}:FV Tp 71 [(.p (.agg (bB dl sk dc))),(pI bib)] base (.tup [(.p (aG (mH (bQ dl (aB sk) (aB dc)) i0 c3))),(pB r0),(pI 0)]) []:=by
 subst er0;exact FV.fin Tryz.func71 rfl (o:=[.c (.tup [(.p (.sl ((bQ dl (aB sk) (aB dc)).length) (((bQ dl (aB sk) (aB dc)).map hpE).flatten))),(pI (i0:Int)),(pI 0)]) [],bF,.c (.tup [(.p (aG (mH (bQ dl (aB sk) (aB dc)) i0 c3))),(pB (c3.any fun x=>x.2.1)),(pB (c3.any fun x => !x.2.1))]) []]) (l:=[_,_,FC Tp 140 [(.p (.agg (bB dl sk dc))),(pI bib)] [] 1 (.tup [(.p (.sl ((bQ dl (aB sk) (aB dc)).length) (((bQ dl (aB sk) (aB dc)).map hpE).flatten))),(pI (i0:Int)),(pI 0)]) []]) (by kernel_rfl) (gc (fk 1 (aRd h5 h4 h6) rfl) (gc bIt (gc (FV.fc (bXn h0 h1 h2 h3) rfl) gn)))
end
section
variable {dl:Int}{sk dc:Lqq}

noncomputable abbrev aCv:Code:=sub (cd Tryz.f93) [1,1,1,1,1,1,1,0,1,0,0]
theorem bIr:((0:Int) != (0:Int))=false:=by first | decide | simp
theorem bXg{l:List Int}{a b:Bool}{f x0:Int}{r0:Bool}(h0:b=true)(h1:a=false)(h2:inR ((l.length:Int)-1))(h3:l[((l.length:Int)-1).toNat]? = some x0)(h4:0≤((l.length:Int)-1))(er0:r0=(decide (x0≤f))){base:Nat}:FV Tp 95 [(.p (aG l)),(pB a),(pB b),(.rp [(aA f)] 0)] base (pB r0) []:=by
 subst er0;exact FV.fin Tryz.func95 rfl (o:=[bT,bT,bT,bT,bT,bT,bT,bT,bT,.x (aA x0),bT,.x (aA f),bT,bT]) (l:=[_,_,[(aA f)][0]? = some (aA f),_,(l.map aA)[(((l.length:Int)-1).toNat*1)]? = some (aA x0),_,_,_,_,_,_,_,_,_,_,_]) (by kernel_rfl) (g2c (cP h1) (gc rfl (gc (cP h1) (gc (wT (i:=((l.length:Int)-1).toNat) h3) (gc (cP h1) (gc (wU (g:=aA) h4 h3) (gc (cP h1) (gc h2 (g4c (cP h1) (g3c h0 gn))))))))))
theorem bXh{l:List Int}{a b:Bool}{f:Int}(h0:b=true)(h1:a=true){base:Nat}:FV Tp 95 [(.p (aG l)),(pB a),(pB b),(.rp [(aA f)] 0)] base (pB false) []:=by
 exact FV.fin Tryz.func95 rfl (o:=[bT,bT,bT,bF,bF,bF,bF,bF,bF,bF,bF,bF]) (l:=[_,_,_,_,_,_,_,_,_,_,_,_]) (by kernel_rfl) (g8c (bA h1) (gc (bA h1) (g3c h0 gn)))
theorem bXi{l:List Int}{a b:Bool}{f:Int}(h0:b=false){base:Nat}:FV Tp 95 [(.p (aG l)),(pB a),(pB b),(.rp [(aA f)] 0)] base (pB false) []:=by
 exact FV.fin Tryz.func95 rfl (o:=[bF,bF,bF]) (l:=[_,_,_]) (by kernel_rfl) (g3c h0 gn)
def aIk(l:List Int)(a b:Bool)(f:Int):Bool:=b && (!a && decide (l.getD (l.length-1) 0≤f))
theorem bIs(l:List Int)(a b:Bool)(f:Int)(hl:l.length≤1000000)(hb:b=true→l≠[]){base:Nat}:FV Tp 95 [.p (aG l),.p (blP a),.p (blP b),.rp [aA f] 0] base (pB (aIk l a b f)) []:=by
 cases b with
 | false=>exact bXi rfl
 | true =>
  cases a with
  | true=>exact bXh rfl rfl
  | false =>
   have h0:=hb rfl;have h1:0<l.length:=List.length_pos_iff.2 h0;have h2:l[l.length-1]? = some (l.getD (l.length-1) 0):=by rw [kQ5,kQ0 (by omega)];rfl
   have e:((l.length:Int)-1).toNat=l.length-1:=by omega
   exact bXg (x0:=l.getD (l.length-1) 0) rfl rfl (by unfold inR;omega) (by rw [e];exact h2) (by omega) (by unfold aIk;simp)
def kX(dl:Int)(sk:Lqq)(dc:Lqq)(fi:Int)(on:Nat)(oc:List PV)(i:Nat):St:=⟨fr 58 [(2,(.fn 95 [] [(.rp [(aA fi)] 0)])),(6,(.p bI)),(7,(pI 0)),(10,(.p (.sl ((bQ dl (aB sk) (aB dc)).length) (((bQ dl (aB sk) (aB dc)).map hpE).flatten)))),(11,(.own 0)),(36,(.p (.sl ((aB sk).length) ((aB sk).flatten.map aA)))),(37,(pI (((aB sk).length:Nat):Int))),(38,(pI (i:Int)))],[some (.row 3 on oc)]⟩
theorem bXj{fi:Int}{o'0:List Int}{i'1:Nat}(h0:cM dl sk dc)(h1:(1:Int)≤fi)(h2:(aP dl (aB dc)).length≤8)(hl3:aE Tp 0 aCv (kX dl sk dc fi 0 [] 0) (.exit 0) (kX dl sk dc fi o'0.length (o'0.map aA) i'1)){base:Nat}:FV Tp 93 [(.p (.agg (bB dl sk dc))),(pI fi),(.fn 95 [] [(.rp [(aA fi)] 0)])] base (.tup [(.p (aG o'0)),(pI 0)]) []:=by
 exact FV.frz (FMM.fin (k:=0) (g:=⟨[],[],[0],[]⟩) rfl Tryz.func93 rfl (o:=[.c (.tup [(.rp (aI dl (aB sk) (aB dc)) 0),(pI 0)]) [],bF,bF,.c (.tup [(.own 1),(pI 0)]) [(1,(.row 195 ((bQ dl (aB sk) (aB dc)).length) (((bQ dl (aB sk) (aB dc)).map hpE).flatten)))],bF,.g 1 ⟨[],[0],[1],[]⟩,.x (.sl ((aB sk).length) ((aB sk).flatten.map aA)),.k 1 ⟨(rng [(0,2),(3,3),(8,2),(12,24),(39,18)]),[1],[],[(11,3)]⟩ (.exit 0) (kX dl sk dc fi o'0.length (o'0.map aA) i'1)]) (l:=[_,(aI dl (aB sk) (aB dc))[1]? = some (.sl ((aB sk).length) ((aB sk).flatten.map aA)),_,_,_,_,_]) (by kernel_rfl) (gc hl3.code (gc rfl (gc bIr (gc (fk 1 (aUd h0 h2) rfl) (gc (aR h1) (gc bIr (gc (fk 1 (gW dl sk dc h0) rfl) gn)))))))) (by kernel_rfl)
theorem bCr{fi:Int}{o:List Int}{i:Nat}{y100 y101:Int}{c102:List cV}{mn103 mx104:Int}{o':List Int}{i':Nat}(h0:(i:Int)<(((aB sk).length:Nat):Int))(h1:(aB sk)[i]? = some [y100,y101])(h2:uni 2 (aB sk))(h3:(bQ dl (aB sk) (aB dc))[i]? = some (c102,mn103,mx104))(h4:(bQ dl (aB sk) (aB dc)).length≤1000)(h5:c102.length≤256)(h6:(mH (bQ dl (aB sk) (aB dc)) i c102).length≤1000000)(h7:(c102.any fun x => !x.2.1)=true→(mH (bQ dl (aB sk) (aB dc)) i c102)≠[])(h8:(aIk (mH (bQ dl (aB sk) (aB dc)) i c102) (c102.any fun x=>x.2.1) (c102.any fun x => !x.2.1) fi)=true)(h9:[(aA y100)].length=1*1∧o.length+1≤1000000)(h10:inR (((i+1):Nat):Int))(eo'n:o'.length=(o.length+1))(eo'c:o'.map aA=((o.map aA)++[(aA y100)]))(ei':i'=(i+1)):aC Tp 0 aCv (kX dl sk dc fi o.length (o.map aA) i) .normal (kX dl sk dc fi o'.length (o'.map aA) i'):=by
 subst ei';have raw:aC Tp 0 aCv (kX dl sk dc fi o.length (o.map aA) i) .normal (kX dl sk dc fi (o.length+1) ((o.map aA)++[(aA y100)]) (i+1)):=aC.fin (g:=⟨(rng [(0,2),(3,3),(8,2),(12,24),(39,18)]),[3],[],[]⟩) (o:=[bT,.x (.agg [(aA y100),(aA y101)]),.c (.tup [(.p (aG (mH (bQ dl (aB sk) (aB dc)) i c102))),(pB (c102.any fun x=>x.2.1)),(pB (c102.any fun x => !x.2.1))]) [],.c (pB (aIk (mH (bQ dl (aB sk) (aB dc)) i c102) (c102.any fun x=>x.2.1) (c102.any fun x => !x.2.1) fi)) [],bT]) (l:=[_,_,_,_,_,_,_,0≤(i:Int)∧(i:Int)<(((aB sk).length:Nat):Int)∧(i*2)<((aB sk).flatten.map aA).length,_]) (by kernel_rfl) (gc h10 (gc h9 (gc h8 (gc (fk 2 (bIs (mH (bQ dl (aB sk) (aB dc)) i c102) (c102.any fun x=>x.2.1) (c102.any fun x => !x.2.1) fi h6 h7) rfl) (gc (fk 2 (aRd h4 h3 h5) rfl) (gc (aL (i:=i) h2 h1) (gc (aW (i:=i) h2 h1) (gc (aV (k:=2) (i:=(i:Int)) (by decide) h2 (kQ1 _) h1) (gc (aQ h0) gn)))))))))
 exact raw.cast (by rw [eo'n,eo'c])
theorem bCs{fi:Int}{o:List Int}{i:Nat}{y100 y101:Int}{c102:List cV}{mn103 mx104:Int}{i':Nat}(h0:(i:Int)<(((aB sk).length:Nat):Int))(h1:(aB sk)[i]? = some [y100,y101])(h2:uni 2 (aB sk))(h3:(bQ dl (aB sk) (aB dc))[i]? = some (c102,mn103,mx104))(h4:(bQ dl (aB sk) (aB dc)).length≤1000)(h5:c102.length≤256)(h6:(mH (bQ dl (aB sk) (aB dc)) i c102).length≤1000000)(h7:(c102.any fun x => !x.2.1)=true→(mH (bQ dl (aB sk) (aB dc)) i c102)≠[])(h8:(aIk (mH (bQ dl (aB sk) (aB dc)) i c102) (c102.any fun x=>x.2.1) (c102.any fun x => !x.2.1) fi)=false)(h9:inR (((i+1):Nat):Int))(ei':i'=(i+1)):aC Tp 0 aCv (kX dl sk dc fi o.length (o.map aA) i) .normal (kX dl sk dc fi o.length (o.map aA) i'):=by
 subst ei';exact aC.fin (g:=⟨(rng [(0,2),(3,3),(8,2),(12,24),(39,18)]),[0],[],[]⟩) (o:=[bT,.x (.agg [(aA y100),(aA y101)]),.c (.tup [(.p (aG (mH (bQ dl (aB sk) (aB dc)) i c102))),(pB (c102.any fun x=>x.2.1)),(pB (c102.any fun x => !x.2.1))]) [],.c (pB (aIk (mH (bQ dl (aB sk) (aB dc)) i c102) (c102.any fun x=>x.2.1) (c102.any fun x => !x.2.1) fi)) [],bF]) (l:=[_,_,_,_,_,_,0≤(i:Int)∧(i:Int)<(((aB sk).length:Nat):Int)∧(i*2)<((aB sk).flatten.map aA).length,_]) (by kernel_rfl) (gc h9 (gc h8 (gc (fk 2 (bIs (mH (bQ dl (aB sk) (aB dc)) i c102) (c102.any fun x=>x.2.1) (c102.any fun x => !x.2.1) fi h6 h7) rfl) (gc (fk 2 (aRd h4 h3 h5) rfl) (gc (aL (i:=i) h2 h1) (gc (aW (i:=i) h2 h1) (gc (aV (k:=2) (i:=(i:Int)) (by decide) h2 (kQ1 _) h1) (gc (aQ h0) gn))))))))
theorem bCt{fi:Int}{o:List Int}{i:Nat}(h0:(((aB sk).length:Nat):Int)≤(i:Int)):aC Tp 0 aCv (kX dl sk dc fi o.length (o.map aA) i) (.exit 0) (kX dl sk dc fi o.length (o.map aA) i):=by
 exact aC.fin (g:=⟨(rng [(0,2),(3,3),(8,2),(12,24),(39,18)]),[0],[],[]⟩) (o:=[bF]) (l:=[_]) (by kernel_rfl) (gc (aR h0) gn)
abbrev bZw(dl:Int)(sk dc:Lqq)(fi:Int)(o:List Int)(e:Int):Prop:=∀ base:Nat,FV Tp 93 [.p (.agg (bB dl sk dc)),.p (aA fi),.fn 95 [] [.rp [aA fi] 0]] base (.tup [.p (aG o),.p (aA e)]) []
theorem bXk{fi e0:Int}{o1:List Int}(h0:bZw dl sk dc fi o1 e0){base:Nat}:FV Tp 33 [(.p (.agg (bB dl sk dc))),(pI fi)] base (.tup [(.p (aG o1)),(pI e0)]) []:=by
 exact FV.fin Tryz.func33 rfl (o:=[.g 3 ⟨[],[0],[1],[]⟩,.x (aA fi),.c (.tup [(.p (aG o1)),(pI e0)]) []]) (l:=[FC Tp 93 [(.p (.agg (bB dl sk dc))),(pI fi),(.fn 95 [] [(.rp [(aA fi)] 0)])] [] 1 (.tup [(.p (aG o1)),(pI e0)]) [],[(aA fi)][0]? = some (aA fi)]) (by kernel_rfl) (gc (FV.fc (h0 _) rfl) (gc rfl gn))
end
end KV
end Go.Proofs
section
namespace Go.Proofs
open Go.RowKit Go.Lib
namespace KV
theorem bNo(o:List Int):jX o≠[]:=fun h=>by
 have:=vZ o;rw [h] at this
 have:=Nat.two_pow_pos o.length;simp at *
 omega
theorem bIo(l:List cV):∀ m,l.foldl (fun m x=>if x.1<m then x.1 else m) m≤m∧∀ x∈l,l.foldl (fun m x=>if x.1<m then x.1 else m) m≤x.1:=by
 induction l with
 | nil=>intro m;exact ⟨aWm _,fun x h=>by cases h⟩
 | cons a l ih =>
  intro m;rw [yZ];obtain ⟨h1,h2⟩:=ih (if a.1<m then a.1 else m)
  have ha:(if a.1<m then a.1 else m)≤m∧(if a.1<m then a.1 else m)≤a.1:=by split <;> omega
  exact ⟨by omega,fun x hx=>by
   rcases kM.1 hx with rfl | hx
   ·omega
   ·exact h2 x hx⟩
theorem bIp(l:List cV):∀ m,m≤l.foldl (fun m x=>if x.1 > m then x.1 else m) m∧∀ x∈l,x.1≤l.foldl (fun m x=>if x.1 > m then x.1 else m) m:=by
 induction l with
 | nil=>intro m;exact ⟨aWm _,fun x h=>by cases h⟩
 | cons a l ih =>
  intro m;rw [yZ];obtain ⟨h1,h2⟩:=ih (if a.1 > m then a.1 else m)
  have ha:m≤(if a.1 > m then a.1 else m)∧a.1≤(if a.1 > m then a.1 else m):=by split <;> omega
  exact ⟨by omega,fun x hx=>by
   rcases kM.1 hx with rfl | hx
   ·omega
   ·exact h2 x hx⟩
theorem bNp{l:List cV}(h:l≠[]):mnM l≤mxM l:=by
 obtain ⟨x,hx⟩:=List.exists_mem_of_ne_nil l h;exact Int.le_trans ((bIo l far).2 x hx) ((bIp l 0).2 x hx)
theorem bNq(dl:Int)(dc:Lqq)(s0 s1:Int)(o:List Int):(oY dl dc s0 s1 o).2.1≤(oY dl dc s0 s1 o).2.2:=bNp fun h=>bNo o (List.map_eq_nil_iff.1 h)
theorem aFt(dl:Int)(sk dc:Lqq):(bQ dl sk dc).length=sk.length:=by unfold bQ;simp
theorem aMb{dl:Int}{sk dc:Lqq}{i:Nat}{s:List Int}(h:sk[i]? = some s):(bQ dl sk dc)[i]? = some (oY dl dc (s.getD 0 0) (s.getD 1 0) (uK dl dc (s.getD 0 0))):=by
 unfold bQ;rw [gM,h];rfl
theorem aMc{dl:Int}{dc:Lqq}{s0 s1:Int}(b:Int)(ho:(aP dl dc).length≤8):(oY dl dc s0 s1 (uK dl dc b)).1.length≤256:=by
 show ((jX (uK dl dc b)).map _).length≤256;rw [fL,vZ];have:=bIv dl dc b;exact gO (Nat.pow_le_pow_right (by omega) (show (uK dl dc b).length≤8 by omega)) (by decide)
theorem aUb{al:List fR}(h:∀ x∈al,x.2.1≤x.2.2)(s:Nat)(t:Int):∀ i,(jA al s t i).1≤(jA al s t i).2
 | 0=>eG _
 | i+1=>by
  have ih:=aUb h s t i;unfold jA
  split
  ·rename_i x hx
   have:=h x (kQ4 hx)
   split
   ·exact ih
   ·dsimp only
    split <;> split <;> omega
  ·exact ih
theorem aRc{l:List Int}(h:l≠[]):Lib.compact l≠[]:=fun e=>by
 have:(Lib.compact l).length=0:=by rw [e];rfl
 unfold Lib.compact Lib.compactUpTo at this
 rw [fL] at this
 have h0:0∈(List.range l.length).filter (Lib.keeps l.toArray):=aOm.2 ⟨sR.2 (List.length_pos_iff.2 h),Lib.keeps_lt_one _ 0 (by omega)⟩
 rw [aDo this] at h0
 cases h0
theorem bIq{al:List fR}(h:∀ x∈al,x.2.1≤x.2.2)(s:Nat){c:List cV}(hc:(c.any fun x => !x.2.1)=true):mH al s c≠[]:=by
 unfold mH;refine aRc fun e => ?_
 have e2:c.flatMap (chL al s)=[]:=by
  have:=List.length_mergeSort (le:=KL.leB) (c.flatMap (chL al s));rw [e] at this
  exact aDo this.symm
 obtain ⟨x,hx,hn⟩:=List.any_eq_true.1 hc;have h1:chL al s x=[]:=List.flatMap_eq_nil_iff.1 e2 x hx;have hf:x.2.1=false:=by simpa using hn
 unfold chL aMe at h1
 rw [hf] at h1
 have:=congrArg List.length h1;have hl:=aUb h s x.1 al.length;simp at this
 have h3:(dH al s x.1).1≤(dH al s x.1).2:=hl;omega
theorem aUc{al:List fR}(hal:al.length≤1000)(s:Nat){c:List cV}(hc:c.length≤256):(mH al s c).length≤1000000:=by
 unfold mH;refine gO (aCy _) ?_;rw [List.length_mergeSort];have:=aIn hal s c;omega
theorem aMd(dl:Int)(sk dc:Lqq):∀ x∈bQ dl sk dc,x.2.1≤x.2.2:=fun x hx=>by
 obtain ⟨s,_,rfl⟩:=fF.1 hx;exact bNq ..
end KV
end Go.Proofs
end
namespace Go.Proofs
namespace KV
section
def yR(dl:Int)(sk dc:Lqq)(f:Int)(i:Nat):Bool:=match (bQ dl sk dc)[i]? with
 | some h=>aIk (mH (bQ dl sk dc) i h.1) (h.1.any fun x=>x.2.1) (h.1.any fun x => !x.2.1) f
 | none=>false
def aMa(dl:Int)(sk dc:Lqq)(f:Int):List Int:=((List.range sk.length).filter (yR dl sk dc f)).map fun i=>(sk.getD i []).getD 0 0
theorem bXd{dl:Int}{sk dc:Lqq}(h:cM dl sk dc){bib:Int}{i:Nat}{s0 s1:Int}(hp:bHf (aB sk) bib=(i:Int))(hs:(aB sk)[i]? = some [s0,s1])(ho:(aP dl (aB dc)).length≤8){base:Nat} :
  FV Tp 71 [.p (.agg (bB dl sk dc)),.p (aA bib)] base (.tup [.p (aG (mH (bQ dl (aB sk) (aB dc)) i (oY dl (aB dc) s0 s1 (uK dl (aB dc) s0)).1)),.p (blP ((oY dl (aB dc) s0 s1 (uK dl (aB dc) s0)).1.any fun x=>x.2.1)),.p (aA 0)]) []:=by
 obtain ⟨_,h2,_,_⟩:=vY h;exact bXo h hp hs ho (aMb hs) (by rw [aFt];omega) (aMc s0 ho) rfl
theorem bXe{dl:Int}{sk dc:Lqq}(h:cM dl sk dc){f:Int}(hf:1≤f)(ho:(aP dl (aB dc)).length≤8):bZw dl sk dc f (aMa dl (aB sk) (aB dc) f) 0:=fun base=>by
 obtain ⟨h1,h2,_,_⟩:=vY h;obtain ⟨o,hI,hL⟩:=aE.ex (P:=Tp) (k:=0) (b:=sub (cd Tryz.f93) [1,1,1,1,1,1,1,0,1,0,0]) (e := .exit 0) (fun i (o:List Int)=>kX dl sk dc f o.length (o.map aA) i) (fun o=>kX dl sk dc f o.length (o.map aA) (aB sk).length)
  (fun i o=>o=((List.range i).filter (yR dl (aB sk) (aB dc) f)).map fun i=>((aB sk).getD i []).getD 0 0) (by simp) (aB sk).length
  (fun i o hi hoE=>by
   obtain ⟨y0,y1,hy⟩:=at2 h1 hi;have hat:=aMb (dl:=dl) (dc:=aB dc) hy;have hlen:o.length≤i:=by
    rw [hoE,fL];have:=rF (yR dl (aB sk) (aB dc) f) (List.range i);simpa using this
   have hmb:yR dl (aB sk) (aB dc) f i=aIk (mH (bQ dl (aB sk) (aB dc)) i (oY dl (aB dc) y0 y1 (uK dl (aB dc) y0)).1) ((oY dl (aB dc) y0 y1 (uK dl (aB dc) y0)).1.any fun x=>x.2.1) ((oY dl (aB dc) y0 y1 (uK dl (aB dc) y0)).1.any fun x => !x.2.1) f:=by
    unfold yR;rw [hat];rfl
   have hal:(bQ dl (aB sk) (aB dc)).length≤1000:=by rw [aFt];omega
   have hc:=aMc (s0:=y0) (s1:=y1) y0 ho;have hg:((aB sk).getD i []).getD 0 0=y0:=by simp [kQ5,hy]
   cases hb:yR dl (aB sk) (aB dc) f i with
   | true =>
    refine ⟨o++[y0],?_,bCr (by omega) hy h1 hat hal hc (aUc hal i hc) (fun hn=>bIq (aMd _ _ _) i hn) (by rw [← hb,hmb];rfl) ⟨rfl,by omega⟩ (aO (by omega)) (by simp) (by simp) rfl⟩
    rw [hoE,List.range_succ,sQ,iY];simp only [List.filter_cons,hb,if_true,List.filter_nil,iM,List.map_nil,hg]
   | false =>
    refine ⟨o,?_,bCs (by omega) hy h1 hat hal hc (aUc hal i hc) (fun hn=>bIq (aMd _ _ _) i hn) (by rw [← hb,hmb];rfl) (aO (by omega)) rfl⟩
    rw [hoE,List.range_succ,sQ,iY];simp [List.filter_cons,hb])
  (fun o _=>bCt (by omega)) (acc:=[]) (by simp)
 have e:o=aMa dl (aB sk) (aB dc) f:=hI;rw [← e];exact bXj h hf ho hL
theorem bXf{dl:Int}{sk dc:Lqq}(h:cM dl sk dc){f:Int}(hf:1≤f)(ho:(aP dl (aB dc)).length≤8){base:Nat}:FV Tp 33 [.p (.agg (bB dl sk dc)),.p (aA f)] base (.tup [.p (aG (aMa dl (aB sk) (aB dc) f)),.p (aA 0)]) []:=bXk (bXe h hf ho)
end
section

noncomputable abbrev xG:Code:=sub (cd Tryz.f51) [1,1,0,1,0,0]
noncomputable abbrev xH:Code:=sub (cd Tryz.f41) [1,1,0,1,0,0]
theorem bWv{dl:Int}{sk dc:Lqq}{bib:Int}{i0:Nat}{s1 s2 n3:Int}{b4:Bool}{T5:Lqb}(h0:cM dl sk dc)(h1:bHf (aB sk) bib=(i0:Int))(h2:(aB sk)[i0]? = some [s1,s2])(h3:aDq dl (aB sk) (aB dc) bI [s1,s2] n3 b4 ([]:Lqb) T5){base:Nat}:FV Tp 61 [(.p (.agg (bB dl sk dc))),(pI bib)] base (.tup [(pI n3),(pB b4),(pI 0)]) []:=by
 exact FV.fin Tryz.func61 rfl (o:=[.c (.tup [(.rp (aI dl (aB sk) (aB dc)) 0),(.p (.agg [(aA s1),(aA s2)])),(pI 0)]) [],bF,.c (.agg (kVL 6 7 2 4 8 3)) [(2,(vB0 dl (aB sk) (aB dc))),(3,(.box 33 [(.p bI)])),(4,(.box 139 (kVL 6 7 2 4 8 3))),(5,(.mp (aF ([]:Lqb)) 0)),(6,(.box 207 [(.mp 5)])),(7,(vB5 dl (aB sk) (aB dc))),(8,(.box 209 [(.fn 153 [] [(.ptr 2 0),(.ptr 4 0)])]))],.c (.tup [(pI n3),(pB b4)]) [(2,(vB0 dl (aB sk) (aB dc))),(3,(.box 33 [(.p bI)])),(4,(.box 139 (kVL 6 7 2 4 8 3))),(5,(.mp (aF T5) T5.length)),(6,(.box 207 [(.mp 5)])),(7,(vB5 dl (aB sk) (aB dc))),(8,(.box 209 [(.fn 153 [] [(.ptr 2 0),(.ptr 4 0)])]))]]) (l:=[FC Tp 134 [(.rp (aI dl (aB sk) (aB dc)) 0),(.p (.agg [(aA s1),(aA s2)])),(.agg (kVL 6 7 2 4 8 3))] [(6,(.box 207 [(.mp 5)])),(7,(vB5 dl (aB sk) (aB dc))),(2,(vB0 dl (aB sk) (aB dc))),(4,(.box 139 (kVL 6 7 2 4 8 3))),(8,(.box 209 [(.fn 153 [] [(.ptr 2 0),(.ptr 4 0)])])),(3,(.box 33 [(.p bI)])),(5,(.mp (aF ([]:Lqb)) 0))] 10 (.tup [(pI n3),(pB b4)]) [(2,(vB0 dl (aB sk) (aB dc))),(3,(.box 33 [(.p bI)])),(4,(.box 139 (kVL 6 7 2 4 8 3))),(5,(.mp (aF T5) T5.length)),(6,(.box 207 [(.mp 5)])),(7,(vB5 dl (aB sk) (aB dc))),(8,(.box 209 [(.fn 153 [] [(.ptr 2 0),(.ptr 4 0)])]))],FC Tp 87 [(.rp (aI dl (aB sk) (aB dc)) 0),(.p bI)] [] 2 (.agg (kVL 6 7 2 4 8 3)) [(2,(vB0 dl (aB sk) (aB dc))),(3,(.box 33 [(.p bI)])),(4,(.box 139 (kVL 6 7 2 4 8 3))),(5,(.mp (aF ([]:Lqb)) 0)),(6,(.box 207 [(.mp 5)])),(7,(vB5 dl (aB sk) (aB dc))),(8,(.box 209 [(.fn 153 [] [(.ptr 2 0),(.ptr 4 0)])]))],((0:Int) != (0:Int))=false,_]) (by kernel_rfl) (gc (FMM.fc (ids:=[2,3,4,5,6,7,8]) h3 (by kernel_rfl)) (gc (FMM.fcN (k:=7) rfl (ids:=[]) (sM (dl:=dl) (sk:=(aB sk)) (dc:=(aB dc))) (by kernel_rfl)) (gc (by first | decide | simp) (gc (fk 1 (bHg h0 h1 h2) rfl) gn))))
def jN(a:Lqq)(b:Lqq)(i:Nat):St:=⟨fr 26 [(0,(.p (fS a))),(1,(.p (fS b))),(12,(pI (a.length:Int))),(13,(pI (i:Int)))],[]⟩
theorem bWw{a b:Lqq}(h0:(a.length:Int)≠(b.length:Int)){base:Nat}:FV Tp 51 [(.p (fS a)),(.p (fS b))] base (pB false) []:=by
 exact FV.fin Tryz.func51 rfl (o:=[bT]) (l:=[_]) (by kernel_rfl) (gc (iD h0) gn)
theorem bWx{a b:Lqq}{i'0:Nat}(h0:(a.length:Int)=(b.length:Int))(hl1:aE Tp 0 xG (jN a b 0) (.exit 0) (jN a b i'0)){base:Nat}:FV Tp 51 [(.p (fS a)),(.p (fS b))] base (pB true) []:=by
 exact FV.fin Tryz.func51 rfl (o:=[bF,.k 4 ⟨(rng [(2,10),(14,12)]),[],[],[]⟩ (.exit 0) (jN a b i'0)]) (l:=[_,_]) (by kernel_rfl) (gc hl1.code (gc (cT h0) gn))
theorem bWy{a b:Lqq}{i'0:Nat}(h0:(a.length:Int)=(b.length:Int))(hl1:aE Tp 0 xG (jN a b 0) .ret (bG (jN a b i'0) [(4,(.kb false))])){base:Nat}:FV Tp 51 [(.p (fS a)),(.p (fS b))] base (pB false) []:=by
 exact FV.fin Tryz.func51 rfl (o:=[bF,.k 4 ⟨(rng [(2,10),(14,12)]),[],[],[]⟩ .ret (bG (jN a b i'0) [(4,(.kb false))])]) (l:=[_,_]) (by kernel_rfl) (gc hl1.code (gc (cT h0) gn))
theorem bCl{a b:Lqq}{i:Nat}{y100 y101 y102 y103 y104 y105:Int}(h0:(i:Int)<(a.length:Int))(h1:a[i]? = some [y100,y101,y102])(h2:uni 3 a)(h3:b[i]? = some [y103,y104,y105])(h4:uni 3 b)(h5:dI [(aA y100),(aA y101),(aA y102)] [(0,3,true),(1,3,true),(2,3,true)]=true∧dI [(aA y103),(aA y104),(aA y105)] [(0,3,true),(1,3,true),(2,3,true)]=true)(h6:(kD [(aA y100),(aA y101),(aA y102)] [(aA y103),(aA y104),(aA y105)] [(0,3,true),(1,3,true),(2,3,true)])=false):aC Tp 0 xG (jN a b i) .ret (bG (jN a b i) [(4,(.kb false))]):=by
 exact aC.fin (g:=⟨(rng [(2,2),(5,7),(14,12)]),[],[],[]⟩) (o:=[bT,.x (.agg [(aA y100),(aA y101),(aA y102)]),.x (.agg [(aA y103),(aA y104),(aA y105)]),bT]) (l:=[_,_,_,_,0≤(i:Int)∧(i:Int)<(b.length:Int)∧(i*3)<(b.flatten.map aA).length,_,_,0≤(i:Int)∧(i:Int)<(a.length:Int)∧(i*3)<(a.flatten.map aA).length,_]) (by kernel_rfl) (gc (cP h6) (gc h5 (gc (aL (i:=i) h4 h3) (gc (aW (i:=i) h4 h3) (gc (aV (k:=3) (i:=(i:Int)) (by decide) h4 (kQ1 _) h3) (gc (aL (i:=i) h2 h1) (gc (aW (i:=i) h2 h1) (gc (aV (k:=3) (i:=(i:Int)) (by decide) h2 (kQ1 _) h1) (gc (aQ h0) gn)))))))))
theorem bCm{a b:Lqq}{i:Nat}{y100 y101 y102 y103 y104 y105:Int}{i':Nat}(h0:(i:Int)<(a.length:Int))(h1:a[i]? = some [y100,y101,y102])(h2:uni 3 a)(h3:b[i]? = some [y103,y104,y105])(h4:uni 3 b)(h5:dI [(aA y100),(aA y101),(aA y102)] [(0,3,true),(1,3,true),(2,3,true)]=true∧dI [(aA y103),(aA y104),(aA y105)] [(0,3,true),(1,3,true),(2,3,true)]=true)(h6:(kD [(aA y100),(aA y101),(aA y102)] [(aA y103),(aA y104),(aA y105)] [(0,3,true),(1,3,true),(2,3,true)])=true)(h7:inR (((i+1):Nat):Int))(ei':i'=(i+1)):aC Tp 0 xG (jN a b i) .normal (jN a b i'):=by
 subst ei';exact aC.fin (g:=⟨(rng [(2,10),(14,12)]),[],[],[]⟩) (o:=[bT,.x (.agg [(aA y100),(aA y101),(aA y102)]),.x (.agg [(aA y103),(aA y104),(aA y105)]),bF]) (l:=[_,_,_,_,_,0≤(i:Int)∧(i:Int)<(b.length:Int)∧(i*3)<(b.flatten.map aA).length,_,_,0≤(i:Int)∧(i:Int)<(a.length:Int)∧(i*3)<(a.flatten.map aA).length,_]) (by kernel_rfl) (gc h7 (gc (bA h6) (gc h5 (gc (aL (i:=i) h4 h3) (gc (aW (i:=i) h4 h3) (gc (aV (k:=3) (i:=(i:Int)) (by decide) h4 (kQ1 _) h3) (gc (aL (i:=i) h2 h1) (gc (aW (i:=i) h2 h1) (gc (aV (k:=3) (i:=(i:Int)) (by decide) h2 (kQ1 _) h1) (gc (aQ h0) gn))))))))))
theorem bCn{a b:Lqq}{i:Nat}(h0:(a.length:Int)≤(i:Int)):aC Tp 0 xG (jN a b i) (.exit 0) (jN a b i):=by
 exact aC.fin (g:=⟨(rng [(2,10),(14,12)]),[],[],[]⟩) (o:=[bF]) (l:=[_]) (by kernel_rfl) (gc (aR h0) gn)
theorem bWz(a b:Lqq)(ha:uni 3 a)(hb:uni 3 b)(hl:a.length≤1000){base:Nat}:FV Tp 51 [.p (fS a),.p (fS b)] base (pB (decide (a=b))) []:=by
 by_cases hlen:a.length=b.length
 ·have eqx:∀ i,i<a.length→∃ x y,a[i]? = some x∧b[i]? = some y∧x.length=3∧y.length=3:=fun i hi =>
   ⟨a[i],b[i],kQ0 hi,kQ0 (by omega),ha _ (fV hi),hb _ (fV (by omega))⟩
  rcases aE.find (P:=Tp) (k:=0) (b:=xG) (fun i=>jN a b i) (fun i _=>bG (jN a b i) [(4,.kb false)]) (jN a b a.length) .ret (.exit 0) (by simp) (by simp) (fun j=>decide (a.getD j []≠b.getD j [])) (List.range a.length)
   (fun i x hx hp=>by
    have hi:i<a.length:=by have:=aT hx;simpa using this
    obtain ⟨y,z,hy,hz,ly,lz⟩:=eqx i hi;obtain ⟨a,b,c,rfl⟩:=len3 ly;obtain ⟨a',b',c',rfl⟩:=len3 lz;have hxi:x=i:=by rw [mQ hi] at hx;exact (Option.some.inj hx).symm
    subst hxi;have he:=of_decide_eq_false hp;simp only [kQ5,hy,hz,Option.getD_some,ne_eq,Classical.not_not] at he
    cases he;exact bCm (by omega) hy ha hz hb ⟨rfl,rfl⟩ (by simp [kD,vB]) (aO (by omega)) rfl)
   (fun i x hx hp=>by
    have hi:i<a.length:=by have:=aT hx;simpa using this
    obtain ⟨y,z,hy,hz,ly,lz⟩:=eqx i hi;obtain ⟨a,b,c,rfl⟩:=len3 ly;obtain ⟨a',b',c',rfl⟩:=len3 lz;have hxi:x=i:=by rw [mQ hi] at hx;exact (Option.some.inj hx).symm
    subst hxi;have he:=of_decide_eq_true hp;simp only [kQ5,hy,hz,Option.getD_some] at he
    exact bCl (by omega) hy ha hz hb ⟨rfl,rfl⟩ (by
     rw [Bool.eq_false_iff];intro h;simp [kD,vB] at h
     exact he (by simp [h])))
   (by rw [aHf];exact bCn (by omega)) with ⟨i,x,h1,h2,h3,h4⟩ | ⟨h1,h2,h3⟩
  ·have hi:i<a.length:=by have:=aT h1;simpa using this
   have hxi:x=i:=by rw [mQ hi] at h1;exact (Option.some.inj h1).symm
   have he:=of_decide_eq_true h3;rw [decide_eq_false (fun e=>he (by rw [e]))]
   exact bWy (by omega) h4
  ·have hall:∀ i,i<a.length→a.getD i []=b.getD i []:=fun i hi=>by
    have:=List.any_eq_false.1 h2 i (sR.2 hi);simpa using this
   have e:a=b:=by
    apply List.ext_getElem hlen;intro i h1 h2;have:=hall i h1;simpa [kQ5,kQ0 h1,kQ0 h2] using this
   rw [decide_eq_true e];exact bWx (by omega) h3
 ·rw [decide_eq_false (fun e=>hlen (by rw [e]))]
  exact bWw (by omega)
def jO(a:List Int)(b:List Int)(i:Nat):St:=⟨fr 26 [(0,(.p (aG a))),(1,(.p (aG b))),(12,(pI (a.length:Int))),(13,(pI (i:Int)))],[]⟩
theorem bXa{a b:List Int}(h0:(a.length:Int)≠(b.length:Int)){base:Nat}:FV Tp 41 [(.p (aG a)),(.p (aG b))] base (pB false) []:=by
 exact FV.fin Tryz.func41 rfl (o:=[bT]) (l:=[_]) (by kernel_rfl) (gc (iD h0) gn)
theorem bXb{a b:List Int}{i'0:Nat}(h0:(a.length:Int)=(b.length:Int))(hl1:aE Tp 0 xH (jO a b 0) (.exit 0) (jO a b i'0)){base:Nat}:FV Tp 41 [(.p (aG a)),(.p (aG b))] base (pB true) []:=by
 exact FV.fin Tryz.func41 rfl (o:=[bF,.k 4 ⟨(rng [(2,10),(14,12)]),[],[],[]⟩ (.exit 0) (jO a b i'0)]) (l:=[_,_]) (by kernel_rfl) (gc hl1.code (gc (cT h0) gn))
theorem bXc{a b:List Int}{i'0:Nat}(h0:(a.length:Int)=(b.length:Int))(hl1:aE Tp 0 xH (jO a b 0) .ret (bG (jO a b i'0) [(4,(.kb false))])){base:Nat}:FV Tp 41 [(.p (aG a)),(.p (aG b))] base (pB false) []:=by
 exact FV.fin Tryz.func41 rfl (o:=[bF,.k 4 ⟨(rng [(2,10),(14,12)]),[],[],[]⟩ .ret (bG (jO a b i'0) [(4,(.kb false))])]) (l:=[_,_]) (by kernel_rfl) (gc hl1.code (gc (cT h0) gn))
theorem bCo{a b:List Int}{i:Nat}{x100 x101:Int}(h0:(i:Int)<(a.length:Int))(h1:a[i]? = some x100)(h2:b[i]? = some x101)(h3:x100≠x101):aC Tp 0 xH (jO a b i) .ret (bG (jO a b i) [(4,(.kb false))]):=by
 exact aC.fin (g:=⟨(rng [(2,2),(5,7),(14,12)]),[],[],[]⟩) (o:=[bT,.x (aA x100),.x (aA x101),bT]) (l:=[_,_,_,_,_,_]) (by kernel_rfl) (gc (iD h3) (gc (atm aA h2) (gc (ixn aA h2) (gc (atm aA h1) (gc (ixn aA h1) (gc (aQ h0) gn))))))
theorem bCp{a b:List Int}{i:Nat}{x100 x101:Int}{i':Nat}(h0:(i:Int)<(a.length:Int))(h1:a[i]? = some x100)(h2:b[i]? = some x101)(h3:x100=x101)(h4:inR (((i+1):Nat):Int))(ei':i'=(i+1)):aC Tp 0 xH (jO a b i) .normal (jO a b i'):=by
 subst ei';exact aC.fin (g:=⟨(rng [(2,10),(14,12)]),[],[],[]⟩) (o:=[bT,.x (aA x100),.x (aA x101),bF]) (l:=[_,_,_,_,_,_,_]) (by kernel_rfl) (gc h4 (gc (cT h3) (gc (atm aA h2) (gc (ixn aA h2) (gc (atm aA h1) (gc (ixn aA h1) (gc (aQ h0) gn)))))))
theorem bCq{a b:List Int}{i:Nat}(h0:(a.length:Int)≤(i:Int)):aC Tp 0 xH (jO a b i) (.exit 0) (jO a b i):=by
 exact aC.fin (g:=⟨(rng [(2,10),(14,12)]),[],[],[]⟩) (o:=[bF]) (l:=[_]) (by kernel_rfl) (gc (aR h0) gn)
theorem mZ(a b:List Int)(hl:a.length≤1000){base:Nat}:FV Tp 41 [.p (aG a),.p (aG b)] base (pB (decide (a=b))) []:=by
 by_cases hlen:a.length=b.length
 ·rcases aE.find (P:=Tp) (k:=0) (b:=xH) (fun i=>jO a b i) (fun i _=>bG (jO a b i) [(4,.kb false)]) (jO a b a.length) .ret (.exit 0) (by simp) (by simp) (fun j=>decide (a.getD j 0≠b.getD j 0)) (List.range a.length)
   (fun i x hx hp=>by
    have hi:i<a.length:=by have:=aT hx;simpa using this
    have hxi:x=i:=by rw [mQ hi] at hx;exact (Option.some.inj hx).symm
    subst hxi;have h1:a[x]? = some (a.getD x 0):=by rw [kQ5,kQ0 hi];rfl
    have h2:b[x]? = some (b.getD x 0):=by rw [kQ5,kQ0 (by omega)];rfl
    have he:=of_decide_eq_false hp;exact bCp (by omega) h1 h2 (Classical.not_not.1 he) (aO (by omega)) rfl)
   (fun i x hx hp=>by
    have hi:i<a.length:=by have:=aT hx;simpa using this
    have hxi:x=i:=by rw [mQ hi] at hx;exact (Option.some.inj hx).symm
    subst hxi;have h1:a[x]? = some (a.getD x 0):=by rw [kQ5,kQ0 hi];rfl
    have h2:b[x]? = some (b.getD x 0):=by rw [kQ5,kQ0 (by omega)];rfl
    exact bCo (by omega) h1 h2 (of_decide_eq_true hp))
   (by rw [aHf];exact bCq (by omega)) with ⟨i,x,h1,h2,h3,h4⟩ | ⟨h1,h2,h3⟩
  ·have he:=of_decide_eq_true h3
   rw [decide_eq_false (fun e=>he (by rw [e]))]
   exact bXc (by omega) h4
  ·have hall:∀ i,i<a.length→a.getD i 0=b.getD i 0:=fun i hi=>by
    have:=List.any_eq_false.1 h2 i (sR.2 hi);simpa using this
   have e:a=b:=by
    apply List.ext_getElem hlen;intro i h1 h2;have:=hall i h1
    rwa [kQ5,kQ5,kQ0 h1,kQ0 h2] at this
   rw [decide_eq_true e];exact bXb (by omega) h3
 ·rw [decide_eq_false (fun e=>hlen (by rw [e]))]
  exact bXa (by omega)
theorem aIj{a b c:Int}{base:Nat}:FV Tp 23 [(pI a),(pI b),(pI c)] base (.p (dcE a 0 0 b c 0)) []:=by
 exact FV.fin Tryz.func23 rfl (o:=[]) (l:=[]) (by kernel_rfl) (gn)
theorem iU{a b c d e:Int}{base:Nat}:FV Tp 49 [(pI a),(pI b),(pI c),(pI d),(pI e)] base (.p (dcE a b d 0 e c)) []:=by
 exact FV.fin Tryz.func49 rfl (o:=[]) (l:=[]) (by kernel_rfl) (gn)
end
section
variable {P:Program}
theorem FC.close1{f base id ty n:Nat}{cs:List PV}{args args':List AV}{y:AV}{L:Upd}(h:FC P f args' [] base y L)(ha:fzL id n cs args=args'):FC P f args [(id,.row ty n cs)] base y ((id,.dead)::L):=fun M hb hf h8=>by
 have hoM:=hb _ (mC ..);subst ha;have fre:∀ j,fK M (base+j)=true→fK (bC M id (some .dead)) (base+j)=true:=fun j hj=>by
  have hne:id≠base+j:=fun e=>by
   have:=dD hj;rw [← e] at this
   exact this _ (bJ.1 hoM)
  unfold fK at hj ⊢
  rw [dJ,if_neg hne];exact hj
 exact FM.close1 hoM (h _ (fun p hp=>by cases hp) (by have:=fre 0 (by simpa using hf);simpa using this) (fun j hj=>fre j (h8 j hj)))
end
section
variable {dl:Int}{sk dc:Lqq}

noncomputable abbrev xF:Code:=sub (cd Tryz.f58) [1,1,1,1,1,1,1,1,1,0,1,0,1,0,0]
noncomputable abbrev aIh:Code:=sub (cd Tryz.f58) [1,1,1,1,1,1,1,1,1,0,1,0]
noncomputable abbrev aRa:Code:=sub (cd Tryz.f58) [1,1,1,1,1,1,1,1,1,0,1,0,1]
theorem aCt:((0:Int) != (0:Int))=false:=by first | decide | simp
def fQ(dl:Int)(sk dc:Lqq)(r:Int)(x:List Int):Int × Bool:=lL dl x (aB dc) (((aB sk).getD (bD (fun x=>decide (r=x)) (aK (aB sk) 0)).toNat []).getD 0 0) (((aB sk).getD (bD (fun x=>decide (r=x)) (aK (aB sk) 0)).toNat []).getD 1 0)
def mY(dl:Int)(sk:Lqq)(dc:Lqq)(num:Int)(r6:Int)  : St:=⟨fr 102 [(3,(.rp [(aA num)] 0)),(4,(.ptr 0 0)),(5,(.ptr 1 0)),(6,(.rp [(PV.rp (aI dl (aB sk) (aB dc)) 0)] 0)),(9,(.rp [(aA r6)] 0)),(10,(.rp [(aA (bD (fun x=>decide (r6=x)) (aK (aB sk) 0)))] 0)),(53,(.fn 182 [] [(.rp [(aG ((aP dl (aB dc)).filter fun n => !(n == num)))] 0)]))],[some (.box 4 [(pB false)]),some (.box 34 [(pI 0)])]⟩
def uJ(dl:Int)(sk:Lqq)(dc:Lqq)(num:Int)(r6:Int):St:=⟨fr 102 [(3,(.rp [(aA num)] 0)),(4,(.ptr 0 0)),(5,(.ptr 1 0)),(6,(.rp [(PV.rp (aI dl (aB sk) (aB dc)) 0)] 0)),(9,(.rp [(aA r6)] 0)),(10,(.rp [(aA (bD (fun x=>decide (r6=x)) (aK (aB sk) 0)))] 0)),(53,(.fn 182 [] [(.rp [(aG ((aP dl (aB dc)).filter fun n => !(n == num)))] 0)]))],[some (.box 4 [(pB false)]),some (.box 34 [(pI 0)])]⟩
def aCu(dl:Int)(sk:Lqq)(dc:Lqq)(num:Int)(r6:Int):St:=⟨fr 102 [(3,(.rp [(aA num)] 0)),(4,(.ptr 0 0)),(5,(.ptr 1 0)),(6,(.rp [(PV.rp (aI dl (aB sk) (aB dc)) 0)] 0)),(9,(.rp [(aA r6)] 0)),(10,(.rp [(aA (bD (fun x=>decide (r6=x)) (aK (aB sk) 0)))] 0)),(53,(.fn 182 [] [(.rp [(aG ((aP dl (aB dc)).filter fun n => !(n == num)))] 0)]))],[some (.box 4 [(.kb true)]),some (.box 34 [(pI 0)])]⟩
theorem bWq{num:Int}(h0:cM dl sk dc)(h1:cE (aB dc))(h2:(aP dl (aB dc)).length≤1000)(h3:((aP dl (aB dc)).contains num)=false){base:Nat}:FV Tp 58 [(.p (.agg (bB dl sk dc))),(pI num)] base (.tup [(pB false),(pI 1)]) []:=by
 exact FV.fin Tryz.func58 rfl (o:=[.c (.tup [(.rp (aI dl (aB sk) (aB dc)) 0),(pI 0)]) [],bF,.g 1 ⟨[],[0,2,3],[4,1],[]⟩,.x (PV.rp (aI dl (aB sk) (aB dc)) 0),.c (.own 3) [(3,(.row 3 ((aP dl (aB dc)).length) ((aP dl (aB dc)).map aA)))],.x (aA num),.c (pB ((aP dl (aB dc)).contains num)) [],bT]) (l:=[_,FC Tp 52 [(.own 3),(pI num)] [(3,(.row 3 ((aP dl (aB dc)).length) ((aP dl (aB dc)).map aA)))] 4 (pB ((aP dl (aB dc)).contains num)) [],[(aA num)][0]? = some (aA num),_,[(PV.rp (aI dl (aB sk) (aB dc)) 0)][0]? = some (PV.rp (aI dl (aB sk) (aB dc)) 0),_,_]) (by kernel_rfl) (gc (cP h3) (gc (fv (pV (aP dl (aB dc)) num h2)) (gc rfl (gc (fk 3 (rL (dl:=dl) (sk:=(aB sk)) (dc:=(aB dc)) h1) rfl) (gc rfl (gc aCt (gc (fk 4 (gW dl sk dc h0) rfl) gn)))))))
theorem bWr{num:Int}(h0:cM dl sk dc)(h1:cE (aB dc))(h2:(aP dl (aB dc)).length≤1000)(h3:((aP dl (aB dc)).contains num)=true)(h4:(8:Int)<(((aP dl (aB dc)).length:Nat):Int)){base:Nat}:FV Tp 58 [(.p (.agg (bB dl sk dc))),(pI num)] base (.tup [(pB false),(pI 10)]) []:=by
 exact FV.fin Tryz.func58 rfl (o:=[.c (.tup [(.rp (aI dl (aB sk) (aB dc)) 0),(pI 0)]) [],bF,.g 1 ⟨[],[0,2,3],[4,1],[]⟩,.x (PV.rp (aI dl (aB sk) (aB dc)) 0),.c (.own 3) [(3,(.row 3 ((aP dl (aB dc)).length) ((aP dl (aB dc)).map aA)))],.x (aA num),.c (pB ((aP dl (aB dc)).contains num)) [],bF,bT]) (l:=[_,_,FC Tp 52 [(.own 3),(pI num)] [(3,(.row 3 ((aP dl (aB dc)).length) ((aP dl (aB dc)).map aA)))] 4 (pB ((aP dl (aB dc)).contains num)) [],[(aA num)][0]? = some (aA num),_,[(PV.rp (aI dl (aB sk) (aB dc)) 0)][0]? = some (PV.rp (aI dl (aB sk) (aB dc)) 0),_,_]) (by kernel_rfl) (gc (aQ h4) (gc (bA h3) (gc (fv (pV (aP dl (aB dc)) num h2)) (gc rfl (gc (fk 3 (rL (dl:=dl) (sk:=(aB sk)) (dc:=(aB dc)) h1) rfl) (gc rfl (gc aCt (gc (fk 4 (gW dl sk dc h0) rfl) gn))))))))
theorem bWs{num y0 y1 y2 y3 y4 y5 r6:Int}(h0:cM dl sk dc)(h1:cE (aB dc))(h2:(aP dl (aB dc)).length≤1000)(h3:((aP dl (aB dc)).contains num)=true)(h4:(((aP dl (aB dc)).length:Nat):Int)≤8)(h5:cS .i64 (atF (aB dc).reverse) (.int .i64 num))(h6:(dV (atF (aB dc).reverse) (.int .i64 num))=true)(h7:fJ (atF (aB dc).reverse) (.int .i64 num)=some (dcE y0 y1 y2 y3 y4 y5))(h8:aMf dl (aB sk) (aB dc) [y0,y1,y2,y3,y4,y5] r6)(h9:uni 2 (aB sk)∧(aB sk).length≤1000)(h10:(aK (aB sk) 0).length≤1000)(h11:(bD (fun x=>decide (r6=x)) (aK (aB sk) 0))<0){base:Nat}:FV Tp 58 [(.p (.agg (bB dl sk dc))),(pI num)] base (.tup [(pB false),(pI 0)]) []:=by
 exact FV.fin Tryz.func58 rfl (o:=[.c (.tup [(.rp (aI dl (aB sk) (aB dc)) 0),(pI 0)]) [],bF,.g 1 ⟨[],[0,2,3],[4,1],[]⟩,.x (PV.rp (aI dl (aB sk) (aB dc)) 0),.c (.own 3) [(3,(.row 3 ((aP dl (aB dc)).length) ((aP dl (aB dc)).map aA)))],.x (aA num),.c (pB ((aP dl (aB dc)).contains num)) [],bF,bF,.x (PV.rp (aI dl (aB sk) (aB dc)) 0),.x (PV.rp (aI dl (aB sk) (aB dc)) 0),.x (.mp (atF (aB dc).reverse)),.x (aA num),bT,.x (dcE y0 y1 y2 y3 y4 y5),.c (pI r6) [],.x (PV.rp (aI dl (aB sk) (aB dc)) 0),.x (.agg (bB dl (aB sk) (aB dc))),.c (.own 13) [(13,(.row 3 ((aK (aB sk) 0).length) ((aK (aB sk) 0).map aA)))],.c (pI (bD (fun x=>decide (r6=x)) (aK (aB sk) 0))) [],.g 2 ⟨[],[0,1,2,3,13],[12,29],[]⟩,.x (aA (bD (fun x=>decide (r6=x)) (aK (aB sk) 0))),bT]) (l:=[_,[(aA (bD (fun x=>decide (r6=x)) (aK (aB sk) 0)))][0]? = some (aA (bD (fun x=>decide (r6=x)) (aK (aB sk) 0))),FC Tp 126 [(.own 13),(pI r6)] [(13,(.row 3 ((aK (aB sk) 0).length) ((aK (aB sk) 0).map aA)))] 21 (pI (bD (fun x=>decide (r6=x)) (aK (aB sk) 0))) [],_,some (.agg (((aI dl (aB sk) (aB dc)).drop 0).take 3):PV)=some (.agg (bB dl (aB sk) (aB dc))),0+3≤(aI dl (aB sk) (aB dc)).length,[(PV.rp (aI dl (aB sk) (aB dc)) 0)][0]? = some (PV.rp (aI dl (aB sk) (aB dc)) 0),FC Tp 128 [(.rp (aI dl (aB sk) (aB dc)) 0),(.p (dcE y0 y1 y2 y3 y4 y5))] [] 4 (pI r6) [],_,_,_,[(aA num)][0]? = some (aA num),(aI dl (aB sk) (aB dc))[3]? = some (.mp (atF (aB dc).reverse)),[(PV.rp (aI dl (aB sk) (aB dc)) 0)][0]? = some (PV.rp (aI dl (aB sk) (aB dc)) 0),[(PV.rp (aI dl (aB sk) (aB dc)) 0)][0]? = some (PV.rp (aI dl (aB sk) (aB dc)) 0),_,_,FC Tp 52 [(.own 3),(pI num)] [(3,(.row 3 ((aP dl (aB dc)).length) ((aP dl (aB dc)).map aA)))] 4 (pB ((aP dl (aB dc)).contains num)) [],[(aA num)][0]? = some (aA num),_,[(PV.rp (aI dl (aB sk) (aB dc)) 0)][0]? = some (PV.rp (aI dl (aB sk) (aB dc)) 0),_,_]) (by kernel_rfl) (gc (aQ h11) (gc rfl (gc (fv (aCb (aK (aB sk) 0) r6 h10)) (gc (fk 13 (nZ dl (aB sk) (aB dc) h9) rfl) (gc rfl (gc (by first | decide | simp) (gc rfl (gc (FV.fc (h8 _) rfl) (gc h7 (gc h6 (gc h5 (gc rfl (gc rfl (gc rfl (gc rfl (gc (aR h4) (gc (bA h3) (gc (fv (pV (aP dl (aB dc)) num h2)) (gc rfl (gc (fk 3 (rL (dl:=dl) (sk:=(aB sk)) (dc:=(aB dc)) h1) rfl) (gc rfl (gc aCt (gc (fk 4 (gW dl sk dc h0) rfl) gn)))))))))))))))))))))))
theorem bWt{num y0 y1 y2 y3 y4 y5 r6:Int}(h0:cM dl sk dc)(h1:cE (aB dc))(h2:(aP dl (aB dc)).length≤1000)(h3:((aP dl (aB dc)).contains num)=true)(h4:(((aP dl (aB dc)).length:Nat):Int)≤8)(h5:cS .i64 (atF (aB dc).reverse) (.int .i64 num))(h6:(dV (atF (aB dc).reverse) (.int .i64 num))=true)(h7:fJ (atF (aB dc).reverse) (.int .i64 num)=some (dcE y0 y1 y2 y3 y4 y5))(h8:aMf dl (aB sk) (aB dc) [y0,y1,y2,y3,y4,y5] r6)(h9:uni 2 (aB sk)∧(aB sk).length≤1000)(h10:(aK (aB sk) 0).length≤1000)(h11:(0:Int)≤(bD (fun x=>decide (r6=x)) (aK (aB sk) 0)))(hl12:aC Tp 0 aIh (uJ dl sk dc num r6) .normal (mY dl sk dc num r6 )){base:Nat}:FV Tp 58 [(.p (.agg (bB dl sk dc))),(pI num)] base (.tup [(pB false),(pI 0)]) []:=by
 exact FV.fin Tryz.func58 rfl (o:=[.c (.tup [(.rp (aI dl (aB sk) (aB dc)) 0),(pI 0)]) [],bF,.g 1 ⟨[],[0,2,3],[4,1],[]⟩,.x (PV.rp (aI dl (aB sk) (aB dc)) 0),.c (.own 3) [(3,(.row 3 ((aP dl (aB dc)).length) ((aP dl (aB dc)).map aA)))],.x (aA num),.c (pB ((aP dl (aB dc)).contains num)) [],bF,bF,.x (PV.rp (aI dl (aB sk) (aB dc)) 0),.x (PV.rp (aI dl (aB sk) (aB dc)) 0),.x (.mp (atF (aB dc).reverse)),.x (aA num),bT,.x (dcE y0 y1 y2 y3 y4 y5),.c (pI r6) [],.x (PV.rp (aI dl (aB sk) (aB dc)) 0),.x (.agg (bB dl (aB sk) (aB dc))),.c (.own 13) [(13,(.row 3 ((aK (aB sk) 0).length) ((aK (aB sk) 0).map aA)))],.c (pI (bD (fun x=>decide (r6=x)) (aK (aB sk) 0))) [],.g 2 ⟨[],[0,1,2,3,13],[12,29],[]⟩,.x (aA (bD (fun x=>decide (r6=x)) (aK (aB sk) 0))),bF,.c (.p (aG ((aP dl (aB dc)).filter fun n => !(n == num)))) [(3,.dead)],.c (.fn 182 [] [(.rp [(aG ((aP dl (aB dc)).filter fun n => !(n == num)))] 0)]) [],.k 1 ⟨(rng [(0,3),(7,2),(11,42),(54,48)]),[1,2],[],[]⟩ .normal (mY dl sk dc num r6 )]) (l:=[aC Tp 0 aIh (uJ dl sk dc num r6) .normal (mY dl sk dc num r6 ),FC Tp 132 [(.p (aG ((aP dl (aB dc)).filter fun n => !(n == num))))] [] 5 (.fn 182 [] [(.rp [(aG ((aP dl (aB dc)).filter fun n => !(n == num)))] 0)]) [],FC Tp 54 [(.own 3),(.fn 133 [] [(.rp [(aA num)] 0)])] [(3,(.row 3 ((aP dl (aB dc)).length) ((aP dl (aB dc)).map aA)))] 5 (.p (aG ((aP dl (aB dc)).filter fun n => !(n == num)))) [(3,.dead)],_,[(aA (bD (fun x=>decide (r6=x)) (aK (aB sk) 0)))][0]? = some (aA (bD (fun x=>decide (r6=x)) (aK (aB sk) 0))),FC Tp 126 [(.own 13),(pI r6)] [(13,(.row 3 ((aK (aB sk) 0).length) ((aK (aB sk) 0).map aA)))] 21 (pI (bD (fun x=>decide (r6=x)) (aK (aB sk) 0))) [],_,some (.agg (((aI dl (aB sk) (aB dc)).drop 0).take 3):PV)=some (.agg (bB dl (aB sk) (aB dc))),0+3≤(aI dl (aB sk) (aB dc)).length,[(PV.rp (aI dl (aB sk) (aB dc)) 0)][0]? = some (PV.rp (aI dl (aB sk) (aB dc)) 0),FC Tp 128 [(.rp (aI dl (aB sk) (aB dc)) 0),(.p (dcE y0 y1 y2 y3 y4 y5))] [] 4 (pI r6) [],_,_,_,[(aA num)][0]? = some (aA num),(aI dl (aB sk) (aB dc))[3]? = some (.mp (atF (aB dc).reverse)),[(PV.rp (aI dl (aB sk) (aB dc)) 0)][0]? = some (PV.rp (aI dl (aB sk) (aB dc)) 0),[(PV.rp (aI dl (aB sk) (aB dc)) 0)][0]? = some (PV.rp (aI dl (aB sk) (aB dc)) 0),_,_,FC Tp 52 [(.own 3),(pI num)] [(3,(.row 3 ((aP dl (aB dc)).length) ((aP dl (aB dc)).map aA)))] 4 (pB ((aP dl (aB dc)).contains num)) [],[(aA num)][0]? = some (aA num),_,[(PV.rp (aI dl (aB sk) (aB dc)) 0)][0]? = some (PV.rp (aI dl (aB sk) (aB dc)) 0),_,_]) (by kernel_rfl) (gc hl12 (gc (FV.fc (aRf (q:=((aP dl (aB dc)).filter fun n => !(n == num)))) rfl) (gc (FMM.fc (ids:=[3]) (bIx (l:=(aP dl (aB dc))) (m:=num) h2 (fun _ _=>rfl)) (by kernel_rfl)) (gc (aR h11) (gc rfl (gc (fv (aCb (aK (aB sk) 0) r6 h10)) (gc (fk 13 (nZ dl (aB sk) (aB dc) h9) rfl) (gc rfl (gc (by first | decide | simp) (gc rfl (gc (FV.fc (h8 _) rfl) (gc h7 (gc h6 (gc h5 (gc rfl (gc rfl (gc rfl (gc rfl (gc (aR h4) (gc (bA h3) (gc (fv (pV (aP dl (aB dc)) num h2)) (gc rfl (gc (fk 3 (rL (dl:=dl) (sk:=(aB sk)) (dc:=(aB dc)) h1) rfl) (gc rfl (gc aCt (gc (fk 4 (gW dl sk dc h0) rfl) gn))))))))))))))))))))))))))
theorem bWu{num y0 y1 y2 y3 y4 y5 r6:Int}(h0:cM dl sk dc)(h1:cE (aB dc))(h2:(aP dl (aB dc)).length≤1000)(h3:((aP dl (aB dc)).contains num)=true)(h4:(((aP dl (aB dc)).length:Nat):Int)≤8)(h5:cS .i64 (atF (aB dc).reverse) (.int .i64 num))(h6:(dV (atF (aB dc).reverse) (.int .i64 num))=true)(h7:fJ (atF (aB dc).reverse) (.int .i64 num)=some (dcE y0 y1 y2 y3 y4 y5))(h8:aMf dl (aB sk) (aB dc) [y0,y1,y2,y3,y4,y5] r6)(h9:uni 2 (aB sk)∧(aB sk).length≤1000)(h10:(aK (aB sk) 0).length≤1000)(h11:(0:Int)≤(bD (fun x=>decide (r6=x)) (aK (aB sk) 0)))(hl12:aC Tp 0 aIh (uJ dl sk dc num r6) .ret (aCu dl sk dc num r6)){base:Nat}:FV Tp 58 [(.p (.agg (bB dl sk dc))),(pI num)] base (.tup [(pB true),(pI 0)]) []:=by
 exact FV.fin Tryz.func58 rfl (o:=[.c (.tup [(.rp (aI dl (aB sk) (aB dc)) 0),(pI 0)]) [],bF,.g 1 ⟨[],[0,2,3],[4,1],[]⟩,.x (PV.rp (aI dl (aB sk) (aB dc)) 0),.c (.own 3) [(3,(.row 3 ((aP dl (aB dc)).length) ((aP dl (aB dc)).map aA)))],.x (aA num),.c (pB ((aP dl (aB dc)).contains num)) [],bF,bF,.x (PV.rp (aI dl (aB sk) (aB dc)) 0),.x (PV.rp (aI dl (aB sk) (aB dc)) 0),.x (.mp (atF (aB dc).reverse)),.x (aA num),bT,.x (dcE y0 y1 y2 y3 y4 y5),.c (pI r6) [],.x (PV.rp (aI dl (aB sk) (aB dc)) 0),.x (.agg (bB dl (aB sk) (aB dc))),.c (.own 13) [(13,(.row 3 ((aK (aB sk) 0).length) ((aK (aB sk) 0).map aA)))],.c (pI (bD (fun x=>decide (r6=x)) (aK (aB sk) 0))) [],.g 2 ⟨[],[0,1,2,3,13],[12,29],[]⟩,.x (aA (bD (fun x=>decide (r6=x)) (aK (aB sk) 0))),bF,.c (.p (aG ((aP dl (aB dc)).filter fun n => !(n == num)))) [(3,.dead)],.c (.fn 182 [] [(.rp [(aG ((aP dl (aB dc)).filter fun n => !(n == num)))] 0)]) [],.k 1 ⟨(rng [(0,3),(7,2),(11,42),(54,48)]),[1,2],[],[]⟩ .ret (aCu dl sk dc num r6)]) (l:=[aC Tp 0 aIh (uJ dl sk dc num r6) .ret (aCu dl sk dc num r6),FC Tp 132 [(.p (aG ((aP dl (aB dc)).filter fun n => !(n == num))))] [] 5 (.fn 182 [] [(.rp [(aG ((aP dl (aB dc)).filter fun n => !(n == num)))] 0)]) [],FC Tp 54 [(.own 3),(.fn 133 [] [(.rp [(aA num)] 0)])] [(3,(.row 3 ((aP dl (aB dc)).length) ((aP dl (aB dc)).map aA)))] 5 (.p (aG ((aP dl (aB dc)).filter fun n => !(n == num)))) [(3,.dead)],_,[(aA (bD (fun x=>decide (r6=x)) (aK (aB sk) 0)))][0]? = some (aA (bD (fun x=>decide (r6=x)) (aK (aB sk) 0))),FC Tp 126 [(.own 13),(pI r6)] [(13,(.row 3 ((aK (aB sk) 0).length) ((aK (aB sk) 0).map aA)))] 21 (pI (bD (fun x=>decide (r6=x)) (aK (aB sk) 0))) [],_,some (.agg (((aI dl (aB sk) (aB dc)).drop 0).take 3):PV)=some (.agg (bB dl (aB sk) (aB dc))),0+3≤(aI dl (aB sk) (aB dc)).length,[(PV.rp (aI dl (aB sk) (aB dc)) 0)][0]? = some (PV.rp (aI dl (aB sk) (aB dc)) 0),FC Tp 128 [(.rp (aI dl (aB sk) (aB dc)) 0),(.p (dcE y0 y1 y2 y3 y4 y5))] [] 4 (pI r6) [],_,_,_,[(aA num)][0]? = some (aA num),(aI dl (aB sk) (aB dc))[3]? = some (.mp (atF (aB dc).reverse)),[(PV.rp (aI dl (aB sk) (aB dc)) 0)][0]? = some (PV.rp (aI dl (aB sk) (aB dc)) 0),[(PV.rp (aI dl (aB sk) (aB dc)) 0)][0]? = some (PV.rp (aI dl (aB sk) (aB dc)) 0),_,_,FC Tp 52 [(.own 3),(pI num)] [(3,(.row 3 ((aP dl (aB dc)).length) ((aP dl (aB dc)).map aA)))] 4 (pB ((aP dl (aB dc)).contains num)) [],[(aA num)][0]? = some (aA num),_,[(PV.rp (aI dl (aB sk) (aB dc)) 0)][0]? = some (PV.rp (aI dl (aB sk) (aB dc)) 0),_,_]) (by kernel_rfl) (gc hl12 (gc (FV.fc (aRf (q:=((aP dl (aB dc)).filter fun n => !(n == num)))) rfl) (gc (FMM.fc (ids:=[3]) (bIx (l:=(aP dl (aB dc))) (m:=num) h2 (fun _ _=>rfl)) (by kernel_rfl)) (gc (aR h11) (gc rfl (gc (fv (aCb (aK (aB sk) 0) r6 h10)) (gc (fk 13 (nZ dl (aB sk) (aB dc) h9) rfl) (gc rfl (gc (by first | decide | simp) (gc rfl (gc (FV.fc (h8 _) rfl) (gc h7 (gc h6 (gc h5 (gc rfl (gc rfl (gc rfl (gc rfl (gc (aR h4) (gc (bA h3) (gc (fv (pV (aP dl (aB dc)) num h2)) (gc rfl (gc (fk 3 (rL (dl:=dl) (sk:=(aB sk)) (dc:=(aB dc)) h1) rfl) (gc rfl (gc aCt (gc (fk 4 (gW dl sk dc h0) rfl) gn))))))))))))))))))))))))))
def iH(dl:Int)(sk:Lqq)(dc:Lqq)(num:Int)(r6:Int)(x:List Int)  : St:=⟨fr 102 [(3,(.rp [(aA num)] 0)),(4,(.ptr 0 0)),(5,(.ptr 1 0)),(6,(.rp [(PV.rp (aI dl (aB sk) (aB dc)) 0)] 0)),(9,(.rp [(aA r6)] 0)),(10,(.rp [(aA (bD (fun x=>decide (r6=x)) (aK (aB sk) 0)))] 0)),(11,(.own 2)),(53,(.fn 182 [] [(.rp [(aG ((aP dl (aB dc)).filter fun n => !(n == num)))] 0)])),(54,(.own 2))],[some (.box 4 [(pB false)]),some (.box 34 [(pI 0)]),some (.row 3 x.length (x.map aA))]⟩
def aIi(dl:Int)(sk:Lqq)(dc:Lqq)(num:Int)(r6:Int)  : St:=⟨fr 102 [],[some (.box 4 [(.kb true)]),some (.box 34 [(pI 0)]),some .dead]⟩
theorem bCi{num r6:Int}{x:List Int}{y100 y101 n102:Int}{b103:Bool}{T104:Lqb}(hl0:aC Tp 3 xF (iH dl sk dc num r6 x ) .normal (bG (iH dl sk dc num r6 x ) [(12,(pI ((fQ dl sk dc r6 x).1))),(13,(pB ((fQ dl sk dc r6 x).2)))]))(h1:(aB sk)[(bD (fun x=>decide (r6=x)) (aK (aB sk) 0)).toNat]? = some [y100,y101])(h2:0≤(bD (fun x=>decide (r6=x)) (aK (aB sk) 0)))(h3:uni 2 (aB sk))(h4:[(aA num)].length=1*1∧x.length+1≤1000000)(h5:aDq dl (aB sk) (aB dc) (.sl (x.length+1) ((x.map aA)++[(aA num)])) [y100,y101] n102 b103 ([]:Lqb) T104)(h6:dI [(aA r6),(aA 0),(aA ((fQ dl sk dc r6 x).1))] [(0,3,true),(1,3,true),(2,3,true)]=true∧dI [(aA r6),(aA 0),(aA n102)] [(0,3,true),(1,3,true),(2,3,true)]=true)(h7:(kD [(aA r6),(aA 0),(aA ((fQ dl sk dc r6 x).1))] [(aA r6),(aA 0),(aA n102)] [(0,3,true),(1,3,true),(2,3,true)])=false):aC Tp 3 aRa (rfO (mY dl sk dc num r6 ) 54 11 x) .ret (aIi dl sk dc num r6 ):=by
 exact aC.fin (g:=⟨(rng [(0,102)]),[],[],[]⟩) (o:=[.k 2 ⟨(rng [(0,3),(7,2),(12,2),(16,37),(55,16)]),[],[],[]⟩ .normal (bG (iH dl sk dc num r6 x ) [(12,(pI ((fQ dl sk dc r6 x).1))),(13,(pB ((fQ dl sk dc r6 x).2)))]),.x (PV.rp (aI dl (aB sk) (aB dc)) 0),.x (PV.rp (aI dl (aB sk) (aB dc)) 0),.x (.sl ((aB sk).length) ((aB sk).flatten.map aA)),.x (aA (bD (fun x=>decide (r6=x)) (aK (aB sk) 0))),.x (.agg [(aA y100),(aA y101)]),.x (PV.rp (aI dl (aB sk) (aB dc)) 0),.x (aA num),.c (.agg (kVL 9 10 5 7 11 6)) [(4,.dead),(5,(vB0 dl (aB sk) (aB dc))),(6,(.box 33 [(.p (.sl (x.length+1) ((x.map aA)++[(aA num)])))])),(7,(.box 139 (kVL 9 10 5 7 11 6))),(8,(.mp (aF ([]:Lqb)) 0)),(9,(.box 207 [(.mp 8)])),(10,(vB5 dl (aB sk) (aB dc))),(11,(.box 209 [(.fn 153 [] [(.ptr 5 0),(.ptr 7 0)])]))],.c (.tup [(pI n102),(pB b103)]) [(5,(vB0 dl (aB sk) (aB dc))),(6,(.box 33 [(.p (.sl (x.length+1) ((x.map aA)++[(aA num)])))])),(7,(.box 139 (kVL 9 10 5 7 11 6))),(8,(.mp (aF T104) T104.length)),(9,(.box 207 [(.mp 8)])),(10,(vB5 dl (aB sk) (aB dc))),(11,(.box 209 [(.fn 153 [] [(.ptr 5 0),(.ptr 7 0)])]))],.x (aA r6),.x (aA r6),bT,bT,bT,bT]) (l:=[_,_,_,_,_,[(aA r6)][0]? = some (aA r6),[(aA r6)][0]? = some (aA r6),FC Tp 134 [(.rp (aI dl (aB sk) (aB dc)) 0),(.p (.agg [(aA y100),(aA y101)])),(.agg (kVL 9 10 5 7 11 6))] [(9,(.box 207 [(.mp 8)])),(10,(vB5 dl (aB sk) (aB dc))),(5,(vB0 dl (aB sk) (aB dc))),(7,(.box 139 (kVL 9 10 5 7 11 6))),(11,(.box 209 [(.fn 153 [] [(.ptr 5 0),(.ptr 7 0)])])),(6,(.box 33 [(.p (.sl (x.length+1) ((x.map aA)++[(aA num)])))])),(8,(.mp (aF ([]:Lqb)) 0))] 13 (.tup [(pI n102),(pB b103)]) [(5,(vB0 dl (aB sk) (aB dc))),(6,(.box 33 [(.p (.sl (x.length+1) ((x.map aA)++[(aA num)])))])),(7,(.box 139 (kVL 9 10 5 7 11 6))),(8,(.mp (aF T104) T104.length)),(9,(.box 207 [(.mp 8)])),(10,(vB5 dl (aB sk) (aB dc))),(11,(.box 209 [(.fn 153 [] [(.ptr 5 0),(.ptr 7 0)])]))],FC Tp 87 [(.rp (aI dl (aB sk) (aB dc)) 0),(.own 4)] [(4,(.row 3 (x.length+1) ((x.map aA)++[(aA num)])))] 5 (.agg (kVL 9 10 5 7 11 6)) [(4,.dead),(5,(vB0 dl (aB sk) (aB dc))),(6,(.box 33 [(.p (.sl (x.length+1) ((x.map aA)++[(aA num)])))])),(7,(.box 139 (kVL 9 10 5 7 11 6))),(8,(.mp (aF ([]:Lqb)) 0)),(9,(.box 207 [(.mp 8)])),(10,(vB5 dl (aB sk) (aB dc))),(11,(.box 209 [(.fn 153 [] [(.ptr 5 0),(.ptr 7 0)])]))],_,[(aA num)][0]? = some (aA num),[(PV.rp (aI dl (aB sk) (aB dc)) 0)][0]? = some (PV.rp (aI dl (aB sk) (aB dc)) 0),_,_,0≤(bD (fun x=>decide (r6=x)) (aK (aB sk) 0))∧(bD (fun x=>decide (r6=x)) (aK (aB sk) 0))<(((aB sk).length:Nat):Int)∧((bD (fun x=>decide (r6=x)) (aK (aB sk) 0)).toNat*2)<((aB sk).flatten.map aA).length,[(aA (bD (fun x=>decide (r6=x)) (aK (aB sk) 0)))][0]? = some (aA (bD (fun x=>decide (r6=x)) (aK (aB sk) 0))),(aI dl (aB sk) (aB dc))[1]? = some (.sl ((aB sk).length) ((aB sk).flatten.map aA)),[(PV.rp (aI dl (aB sk) (aB dc)) 0)][0]? = some (PV.rp (aI dl (aB sk) (aB dc)) 0),[(PV.rp (aI dl (aB sk) (aB dc)) 0)][0]? = some (PV.rp (aI dl (aB sk) (aB dc)) 0),aC Tp 3 xF (iH dl sk dc num r6 x ) .normal (bG (iH dl sk dc num r6 x ) [(12,(pI ((fQ dl sk dc r6 x).1))),(13,(pB ((fQ dl sk dc r6 x).2)))])]) (by kernel_rfl) (g4c (cP h7) (gc h6 (gc rfl (gc rfl (gc (FMM.fc (ids:=[5,6,7,8,9,10,11]) h5 (by kernel_rfl)) (gc (FC.close1 (args':=[(.rp (aI dl (aB sk) (aB dc)) 0),(.p (.sl (x.length+1) ((x.map aA)++[(aA num)])))]) (FMM.fcN (k:=7) rfl (ids:=[]) (qA (dl:=dl) (sk:=(aB sk)) (dc:=(aB dc)) (on:=(x.length+1)) (ol:=((x.map aA)++[(aA num)]))) (by kernel_rfl)) (by kernel_rfl)) (gc h4 (gc rfl (gc rfl (gc (aL (i:=(bD (fun x=>decide (r6=x)) (aK (aB sk) 0)).toNat) h3 h1) (gc (aW (i:=(bD (fun x=>decide (r6=x)) (aK (aB sk) 0)).toNat) h3 h1) (gc (aV (k:=2) (i:=(bD (fun x=>decide (r6=x)) (aK (aB sk) 0))) (by decide) h3 h2 h1) (gc rfl (gc rfl (gc rfl (gc rfl (gc hl0 gn)))))))))))))))))
theorem bCj{num r6:Int}{x:List Int}{y100 y101 n102:Int}{b103:Bool}{T104:Lqb}(hl0:aC Tp 3 xF (iH dl sk dc num r6 x ) .normal (bG (iH dl sk dc num r6 x ) [(12,(pI ((fQ dl sk dc r6 x).1))),(13,(pB ((fQ dl sk dc r6 x).2)))]))(h1:(aB sk)[(bD (fun x=>decide (r6=x)) (aK (aB sk) 0)).toNat]? = some [y100,y101])(h2:0≤(bD (fun x=>decide (r6=x)) (aK (aB sk) 0)))(h3:uni 2 (aB sk))(h4:[(aA num)].length=1*1∧x.length+1≤1000000)(h5:aDq dl (aB sk) (aB dc) (.sl (x.length+1) ((x.map aA)++[(aA num)])) [y100,y101] n102 b103 ([]:Lqb) T104)(h6:dI [(aA r6),(aA 0),(aA ((fQ dl sk dc r6 x).1))] [(0,3,true),(1,3,true),(2,3,true)]=true∧dI [(aA r6),(aA 0),(aA n102)] [(0,3,true),(1,3,true),(2,3,true)]=true)(h7:(kD [(aA r6),(aA 0),(aA ((fQ dl sk dc r6 x).1))] [(aA r6),(aA 0),(aA n102)] [(0,3,true),(1,3,true),(2,3,true)])=true)(h8:(((fQ dl sk dc r6 x).2) == b103)=false):aC Tp 3 aRa (rfO (mY dl sk dc num r6 ) 54 11 x) .ret (aIi dl sk dc num r6 ):=by
 exact aC.fin (g:=⟨(rng [(0,102)]),[],[],[]⟩) (o:=[.k 2 ⟨(rng [(0,3),(7,2),(12,2),(16,37),(55,16)]),[],[],[]⟩ .normal (bG (iH dl sk dc num r6 x ) [(12,(pI ((fQ dl sk dc r6 x).1))),(13,(pB ((fQ dl sk dc r6 x).2)))]),.x (PV.rp (aI dl (aB sk) (aB dc)) 0),.x (PV.rp (aI dl (aB sk) (aB dc)) 0),.x (.sl ((aB sk).length) ((aB sk).flatten.map aA)),.x (aA (bD (fun x=>decide (r6=x)) (aK (aB sk) 0))),.x (.agg [(aA y100),(aA y101)]),.x (PV.rp (aI dl (aB sk) (aB dc)) 0),.x (aA num),.c (.agg (kVL 9 10 5 7 11 6)) [(4,.dead),(5,(vB0 dl (aB sk) (aB dc))),(6,(.box 33 [(.p (.sl (x.length+1) ((x.map aA)++[(aA num)])))])),(7,(.box 139 (kVL 9 10 5 7 11 6))),(8,(.mp (aF ([]:Lqb)) 0)),(9,(.box 207 [(.mp 8)])),(10,(vB5 dl (aB sk) (aB dc))),(11,(.box 209 [(.fn 153 [] [(.ptr 5 0),(.ptr 7 0)])]))],.c (.tup [(pI n102),(pB b103)]) [(5,(vB0 dl (aB sk) (aB dc))),(6,(.box 33 [(.p (.sl (x.length+1) ((x.map aA)++[(aA num)])))])),(7,(.box 139 (kVL 9 10 5 7 11 6))),(8,(.mp (aF T104) T104.length)),(9,(.box 207 [(.mp 8)])),(10,(vB5 dl (aB sk) (aB dc))),(11,(.box 209 [(.fn 153 [] [(.ptr 5 0),(.ptr 7 0)])]))],.x (aA r6),.x (aA r6),bF,bF,bF,bF,bT]) (l:=[_,_,_,_,_,_,[(aA r6)][0]? = some (aA r6),[(aA r6)][0]? = some (aA r6),FC Tp 134 [(.rp (aI dl (aB sk) (aB dc)) 0),(.p (.agg [(aA y100),(aA y101)])),(.agg (kVL 9 10 5 7 11 6))] [(9,(.box 207 [(.mp 8)])),(10,(vB5 dl (aB sk) (aB dc))),(5,(vB0 dl (aB sk) (aB dc))),(7,(.box 139 (kVL 9 10 5 7 11 6))),(11,(.box 209 [(.fn 153 [] [(.ptr 5 0),(.ptr 7 0)])])),(6,(.box 33 [(.p (.sl (x.length+1) ((x.map aA)++[(aA num)])))])),(8,(.mp (aF ([]:Lqb)) 0))] 13 (.tup [(pI n102),(pB b103)]) [(5,(vB0 dl (aB sk) (aB dc))),(6,(.box 33 [(.p (.sl (x.length+1) ((x.map aA)++[(aA num)])))])),(7,(.box 139 (kVL 9 10 5 7 11 6))),(8,(.mp (aF T104) T104.length)),(9,(.box 207 [(.mp 8)])),(10,(vB5 dl (aB sk) (aB dc))),(11,(.box 209 [(.fn 153 [] [(.ptr 5 0),(.ptr 7 0)])]))],FC Tp 87 [(.rp (aI dl (aB sk) (aB dc)) 0),(.own 4)] [(4,(.row 3 (x.length+1) ((x.map aA)++[(aA num)])))] 5 (.agg (kVL 9 10 5 7 11 6)) [(4,.dead),(5,(vB0 dl (aB sk) (aB dc))),(6,(.box 33 [(.p (.sl (x.length+1) ((x.map aA)++[(aA num)])))])),(7,(.box 139 (kVL 9 10 5 7 11 6))),(8,(.mp (aF ([]:Lqb)) 0)),(9,(.box 207 [(.mp 8)])),(10,(vB5 dl (aB sk) (aB dc))),(11,(.box 209 [(.fn 153 [] [(.ptr 5 0),(.ptr 7 0)])]))],_,[(aA num)][0]? = some (aA num),[(PV.rp (aI dl (aB sk) (aB dc)) 0)][0]? = some (PV.rp (aI dl (aB sk) (aB dc)) 0),_,_,0≤(bD (fun x=>decide (r6=x)) (aK (aB sk) 0))∧(bD (fun x=>decide (r6=x)) (aK (aB sk) 0))<(((aB sk).length:Nat):Int)∧((bD (fun x=>decide (r6=x)) (aK (aB sk) 0)).toNat*2)<((aB sk).flatten.map aA).length,[(aA (bD (fun x=>decide (r6=x)) (aK (aB sk) 0)))][0]? = some (aA (bD (fun x=>decide (r6=x)) (aK (aB sk) 0))),(aI dl (aB sk) (aB dc))[1]? = some (.sl ((aB sk).length) ((aB sk).flatten.map aA)),[(PV.rp (aI dl (aB sk) (aB dc)) 0)][0]? = some (PV.rp (aI dl (aB sk) (aB dc)) 0),[(PV.rp (aI dl (aB sk) (aB dc)) 0)][0]? = some (PV.rp (aI dl (aB sk) (aB dc)) 0),aC Tp 3 xF (iH dl sk dc num r6 x ) .normal (bG (iH dl sk dc num r6 x ) [(12,(pI ((fQ dl sk dc r6 x).1))),(13,(pB ((fQ dl sk dc r6 x).2)))])]) (by kernel_rfl) (gc (cP h8) (g4c (bA h7) (gc h6 (gc rfl (gc rfl (gc (FMM.fc (ids:=[5,6,7,8,9,10,11]) h5 (by kernel_rfl)) (gc (FC.close1 (args':=[(.rp (aI dl (aB sk) (aB dc)) 0),(.p (.sl (x.length+1) ((x.map aA)++[(aA num)])))]) (FMM.fcN (k:=7) rfl (ids:=[]) (qA (dl:=dl) (sk:=(aB sk)) (dc:=(aB dc)) (on:=(x.length+1)) (ol:=((x.map aA)++[(aA num)]))) (by kernel_rfl)) (by kernel_rfl)) (gc h4 (gc rfl (gc rfl (gc (aL (i:=(bD (fun x=>decide (r6=x)) (aK (aB sk) 0)).toNat) h3 h1) (gc (aW (i:=(bD (fun x=>decide (r6=x)) (aK (aB sk) 0)).toNat) h3 h1) (gc (aV (k:=2) (i:=(bD (fun x=>decide (r6=x)) (aK (aB sk) 0))) (by decide) h3 h2 h1) (gc rfl (gc rfl (gc rfl (gc rfl (gc hl0 gn))))))))))))))))))
def aRb(dl:Int)(sk:Lqq)(dc:Lqq)(num:Int)(r6:Int)  : St:=⟨fr 102 [(3,(.rp [(aA num)] 0)),(4,(.ptr 0 0)),(5,(.ptr 1 0)),(6,(.rp [(PV.rp (aI dl (aB sk) (aB dc)) 0)] 0)),(9,(.rp [(aA r6)] 0)),(10,(.rp [(aA (bD (fun x=>decide (r6=x)) (aK (aB sk) 0)))] 0)),(53,(.fn 182 [] [(.rp [(aG ((aP dl (aB dc)).filter fun n => !(n == num)))] 0)]))],[some (.box 4 [(pB false)]),some (.box 34 [(pI 0)]),some .dead]⟩
theorem bCk{num r6:Int}{x:List Int}{y100 y101 n102:Int}{b103:Bool}{T104:Lqb}(hl0:aC Tp 3 xF (iH dl sk dc num r6 x ) .normal (bG (iH dl sk dc num r6 x ) [(12,(pI ((fQ dl sk dc r6 x).1))),(13,(pB ((fQ dl sk dc r6 x).2)))]))(h1:(aB sk)[(bD (fun x=>decide (r6=x)) (aK (aB sk) 0)).toNat]? = some [y100,y101])(h2:0≤(bD (fun x=>decide (r6=x)) (aK (aB sk) 0)))(h3:uni 2 (aB sk))(h4:[(aA num)].length=1*1∧x.length+1≤1000000)(h5:aDq dl (aB sk) (aB dc) (.sl (x.length+1) ((x.map aA)++[(aA num)])) [y100,y101] n102 b103 ([]:Lqb) T104)(h6:dI [(aA r6),(aA 0),(aA ((fQ dl sk dc r6 x).1))] [(0,3,true),(1,3,true),(2,3,true)]=true∧dI [(aA r6),(aA 0),(aA n102)] [(0,3,true),(1,3,true),(2,3,true)]=true)(h7:(kD [(aA r6),(aA 0),(aA ((fQ dl sk dc r6 x).1))] [(aA r6),(aA 0),(aA n102)] [(0,3,true),(1,3,true),(2,3,true)])=true)(h8:(((fQ dl sk dc r6 x).2) == b103)=true):aC Tp 3 aRa (rfO (mY dl sk dc num r6 ) 54 11 x) .normal (aRb dl sk dc num r6 ):=by
 exact aC.fin (g:=⟨(rng [(0,3),(7,2),(11,42),(54,48)]),[],[],[]⟩) (o:=[.k 2 ⟨(rng [(0,3),(7,2),(12,2),(16,37),(55,16)]),[],[],[]⟩ .normal (bG (iH dl sk dc num r6 x ) [(12,(pI ((fQ dl sk dc r6 x).1))),(13,(pB ((fQ dl sk dc r6 x).2)))]),.x (PV.rp (aI dl (aB sk) (aB dc)) 0),.x (PV.rp (aI dl (aB sk) (aB dc)) 0),.x (.sl ((aB sk).length) ((aB sk).flatten.map aA)),.x (aA (bD (fun x=>decide (r6=x)) (aK (aB sk) 0))),.x (.agg [(aA y100),(aA y101)]),.x (PV.rp (aI dl (aB sk) (aB dc)) 0),.x (aA num),.c (.agg (kVL 9 10 5 7 11 6)) [(4,.dead),(5,(vB0 dl (aB sk) (aB dc))),(6,(.box 33 [(.p (.sl (x.length+1) ((x.map aA)++[(aA num)])))])),(7,(.box 139 (kVL 9 10 5 7 11 6))),(8,(.mp (aF ([]:Lqb)) 0)),(9,(.box 207 [(.mp 8)])),(10,(vB5 dl (aB sk) (aB dc))),(11,(.box 209 [(.fn 153 [] [(.ptr 5 0),(.ptr 7 0)])]))],.c (.tup [(pI n102),(pB b103)]) [(5,(vB0 dl (aB sk) (aB dc))),(6,(.box 33 [(.p (.sl (x.length+1) ((x.map aA)++[(aA num)])))])),(7,(.box 139 (kVL 9 10 5 7 11 6))),(8,(.mp (aF T104) T104.length)),(9,(.box 207 [(.mp 8)])),(10,(vB5 dl (aB sk) (aB dc))),(11,(.box 209 [(.fn 153 [] [(.ptr 5 0),(.ptr 7 0)])]))],.x (aA r6),.x (aA r6),bF,bF,bF,bF,bF]) (l:=[_,_,_,_,_,_,[(aA r6)][0]? = some (aA r6),[(aA r6)][0]? = some (aA r6),FC Tp 134 [(.rp (aI dl (aB sk) (aB dc)) 0),(.p (.agg [(aA y100),(aA y101)])),(.agg (kVL 9 10 5 7 11 6))] [(9,(.box 207 [(.mp 8)])),(10,(vB5 dl (aB sk) (aB dc))),(5,(vB0 dl (aB sk) (aB dc))),(7,(.box 139 (kVL 9 10 5 7 11 6))),(11,(.box 209 [(.fn 153 [] [(.ptr 5 0),(.ptr 7 0)])])),(6,(.box 33 [(.p (.sl (x.length+1) ((x.map aA)++[(aA num)])))])),(8,(.mp (aF ([]:Lqb)) 0))] 13 (.tup [(pI n102),(pB b103)]) [(5,(vB0 dl (aB sk) (aB dc))),(6,(.box 33 [(.p (.sl (x.length+1) ((x.map aA)++[(aA num)])))])),(7,(.box 139 (kVL 9 10 5 7 11 6))),(8,(.mp (aF T104) T104.length)),(9,(.box 207 [(.mp 8)])),(10,(vB5 dl (aB sk) (aB dc))),(11,(.box 209 [(.fn 153 [] [(.ptr 5 0),(.ptr 7 0)])]))],FC Tp 87 [(.rp (aI dl (aB sk) (aB dc)) 0),(.own 4)] [(4,(.row 3 (x.length+1) ((x.map aA)++[(aA num)])))] 5 (.agg (kVL 9 10 5 7 11 6)) [(4,.dead),(5,(vB0 dl (aB sk) (aB dc))),(6,(.box 33 [(.p (.sl (x.length+1) ((x.map aA)++[(aA num)])))])),(7,(.box 139 (kVL 9 10 5 7 11 6))),(8,(.mp (aF ([]:Lqb)) 0)),(9,(.box 207 [(.mp 8)])),(10,(vB5 dl (aB sk) (aB dc))),(11,(.box 209 [(.fn 153 [] [(.ptr 5 0),(.ptr 7 0)])]))],_,[(aA num)][0]? = some (aA num),[(PV.rp (aI dl (aB sk) (aB dc)) 0)][0]? = some (PV.rp (aI dl (aB sk) (aB dc)) 0),_,_,0≤(bD (fun x=>decide (r6=x)) (aK (aB sk) 0))∧(bD (fun x=>decide (r6=x)) (aK (aB sk) 0))<(((aB sk).length:Nat):Int)∧((bD (fun x=>decide (r6=x)) (aK (aB sk) 0)).toNat*2)<((aB sk).flatten.map aA).length,[(aA (bD (fun x=>decide (r6=x)) (aK (aB sk) 0)))][0]? = some (aA (bD (fun x=>decide (r6=x)) (aK (aB sk) 0))),(aI dl (aB sk) (aB dc))[1]? = some (.sl ((aB sk).length) ((aB sk).flatten.map aA)),[(PV.rp (aI dl (aB sk) (aB dc)) 0)][0]? = some (PV.rp (aI dl (aB sk) (aB dc)) 0),[(PV.rp (aI dl (aB sk) (aB dc)) 0)][0]? = some (PV.rp (aI dl (aB sk) (aB dc)) 0),aC Tp 3 xF (iH dl sk dc num r6 x ) .normal (bG (iH dl sk dc num r6 x ) [(12,(pI ((fQ dl sk dc r6 x).1))),(13,(pB ((fQ dl sk dc r6 x).2)))])]) (by kernel_rfl) (gc (bA h8) (g4c (bA h7) (gc h6 (gc rfl (gc rfl (gc (FMM.fc (ids:=[5,6,7,8,9,10,11]) h5 (by kernel_rfl)) (gc (FC.close1 (args':=[(.rp (aI dl (aB sk) (aB dc)) 0),(.p (.sl (x.length+1) ((x.map aA)++[(aA num)])))]) (FMM.fcN (k:=7) rfl (ids:=[]) (qA (dl:=dl) (sk:=(aB sk)) (dc:=(aB dc)) (on:=(x.length+1)) (ol:=((x.map aA)++[(aA num)]))) (by kernel_rfl)) (by kernel_rfl)) (gc h4 (gc rfl (gc rfl (gc (aL (i:=(bD (fun x=>decide (r6=x)) (aK (aB sk) 0)).toNat) h3 h1) (gc (aW (i:=(bD (fun x=>decide (r6=x)) (aK (aB sk) 0)).toNat) h3 h1) (gc (aV (k:=2) (i:=(bD (fun x=>decide (r6=x)) (aK (aB sk) 0))) (by decide) h3 h2 h1) (gc rfl (gc rfl (gc rfl (gc rfl (gc hl0 gn))))))))))))))))))
end
section
variable {dl:Int}{sk dc:Lqq}

theorem aOs:((0:Int) != (0:Int))=false:=by first | decide | simp
theorem bGg:((1:Int) != (0:Int))=true:=by first | decide | simp
theorem bGh(h:cM dl sk dc){base:Nat}:FV Tp 122 [.p (.agg (bB dl sk dc)),.fn 145 [] []] base (.tup [.p (aG (bL (cA dl) (aB dc))),.p (aA 0)]) [] :=
 bUt h _ fun x hx T hT=>⟨T,hT,cAe ((dQ h).ud x hx) T⟩
theorem bGi(h:cM dl sk dc){base:Nat}:FV Tp 122 [.p (.agg (bB dl sk dc)),.fn 123 [] []] base (.tup [.p (aG (bL (cD dl [] (aB dc)) (aB dc))),.p (aA 0)]) [] :=
 bUu h _ fun x hx T hT=>cAf (dQ h) vP hx hT
theorem aOt(h0:cM dl sk dc){base:Nat}:FV Tp 73 [(.p (.agg (bB dl sk dc)))] base (.tup [(.p (aG (bL (cA dl) (aB dc)))),(pI 0)]) []:=by
 exact FV.fin Tryz.func73 rfl (o:=[.c (.tup [(.p (aG (bL (cA dl) (aB dc)))),(pI 0)]) []]) (l:=[_]) (by kernel_rfl) (gc (fk 1 (bGh h0) rfl) gn)
theorem bQw{r0:Int}(h0:uni 2 sk)(h1:uni 6 dc)(h2:(dC dl sk dc)≠0)(er0:r0=(dC dl sk dc)){base:Nat}:FV Tp 73 [(.p (.agg (bB dl sk dc)))] base (.tup [(.p bI),(pI r0)]) []:=by
 subst er0;exact FV.fin Tryz.func73 rfl (o:=[.c (.tup [(.p bI),(pI (dC dl sk dc))]) []]) (l:=[FC Tp 122 [(.p (.agg (bB dl sk dc))),(.fn 145 [] [])] [] 1 (.tup [(.p bI),(pI (dC dl sk dc))]) []]) (by kernel_rfl) (gc (FV.fc (bUz h0 h1 h2 rfl) rfl) gn)
theorem aOu(h0:cM dl sk dc){base:Nat}:FV Tp 48 [(.p (.agg (bB dl sk dc)))] base (.tup [(.p (aG (bL (cD dl [] (aB dc)) (aB dc)))),(pI 0)]) []:=by
 exact FV.fin Tryz.func48 rfl (o:=[.c (.tup [(.p (aG (bL (cD dl [] (aB dc)) (aB dc)))),(pI 0)]) []]) (l:=[_]) (by kernel_rfl) (gc (fk 1 (bGi h0) rfl) gn)
theorem bQx{r0:Int}(h0:uni 2 sk)(h1:uni 6 dc)(h2:(dC dl sk dc)≠0)(er0:r0=(dC dl sk dc)){base:Nat}:FV Tp 48 [(.p (.agg (bB dl sk dc)))] base (.tup [(.p bI),(pI r0)]) []:=by
 subst er0;exact FV.fin Tryz.func48 rfl (o:=[.c (.tup [(.p bI),(pI (dC dl sk dc))]) []]) (l:=[FC Tp 122 [(.p (.agg (bB dl sk dc))),(.fn 123 [] [])] [] 1 (.tup [(.p bI),(pI (dC dl sk dc))]) []]) (by kernel_rfl) (gc (FV.fc (bVb h0 h1 h2 rfl) rfl) gn)
theorem bQy{n z0 z1 z2 z3 z4 z5 m6:Int}{T7:Lqb}(h0:cM dl sk dc)(h1:ofN (aB dc) n=some [z0,z1,z2,z3,z4,z5])(h2:xA dl (aB sk) (aB dc) bI [z0,z1,z2,z3,z4,z5] m6 ([]:Lqb) T7){base:Nat}:FV Tp 74 [(.p (.agg (bB dl sk dc))),(pI n)] base (.tup [(pI m6),(pI 0)]) []:=by
 exact FV.fin Tryz.func74 rfl (o:=[.c (.tup [(.rp (aI dl (aB sk) (aB dc)) 0),(.p (dcE z0 z1 z2 z3 z4 z5)),(pI 0)]) [],bF,.c (.agg (kVL 6 7 2 4 8 3)) [(2,(vB0 dl (aB sk) (aB dc))),(3,(.box 33 [(.p bI)])),(4,(.box 139 (kVL 6 7 2 4 8 3))),(5,(.mp (aF ([]:Lqb)) 0)),(6,(.box 207 [(.mp 5)])),(7,(vB5 dl (aB sk) (aB dc))),(8,(.box 209 [(.fn 153 [] [(.ptr 2 0),(.ptr 4 0)])]))],.c (pI m6) [(2,(vB0 dl (aB sk) (aB dc))),(3,(.box 33 [(.p bI)])),(4,(.box 139 (kVL 6 7 2 4 8 3))),(5,(.mp (aF T7) T7.length)),(6,(.box 207 [(.mp 5)])),(7,(vB5 dl (aB sk) (aB dc))),(8,(.box 209 [(.fn 153 [] [(.ptr 2 0),(.ptr 4 0)])]))]]) (l:=[FC Tp 160 [(.p (dcE z0 z1 z2 z3 z4 z5)),(.ptr 4 0)] [(4,(.box 139 (kVL 6 7 2 4 8 3))),(6,(.box 207 [(.mp 5)])),(7,(vB5 dl (aB sk) (aB dc))),(2,(vB0 dl (aB sk) (aB dc))),(8,(.box 209 [(.fn 153 [] [(.ptr 2 0),(.ptr 4 0)])])),(3,(.box 33 [(.p bI)])),(5,(.mp (aF ([]:Lqb)) 0))] 10 (pI m6) [(2,(vB0 dl (aB sk) (aB dc))),(3,(.box 33 [(.p bI)])),(4,(.box 139 (kVL 6 7 2 4 8 3))),(5,(.mp (aF T7) T7.length)),(6,(.box 207 [(.mp 5)])),(7,(vB5 dl (aB sk) (aB dc))),(8,(.box 209 [(.fn 153 [] [(.ptr 2 0),(.ptr 4 0)])]))],FC Tp 87 [(.rp (aI dl (aB sk) (aB dc)) 0),(.p bI)] [] 2 (.agg (kVL 6 7 2 4 8 3)) [(2,(vB0 dl (aB sk) (aB dc))),(3,(.box 33 [(.p bI)])),(4,(.box 139 (kVL 6 7 2 4 8 3))),(5,(.mp (aF ([]:Lqb)) 0)),(6,(.box 207 [(.mp 5)])),(7,(vB5 dl (aB sk) (aB dc))),(8,(.box 209 [(.fn 153 [] [(.ptr 2 0),(.ptr 4 0)])]))],_,_]) (by kernel_rfl) (gc (FMM.fc (ids:=[2,3,4,5,6,7,8]) h2 (by kernel_rfl)) (gc (FMM.fcN (k:=7) rfl (ids:=[]) (sM (dl:=dl) (sk:=(aB sk)) (dc:=(aB dc))) (by kernel_rfl)) (gc aOs (gc (fk 1 (aQe h0 h1) rfl) gn))))
theorem bQz{n:Int}(h0:cM dl sk dc)(h1:inR n)(h2:ofN (aB dc) n=none){base:Nat}:FV Tp 74 [(.p (.agg (bB dl sk dc))),(pI n)] base (.tup [(pI 0),(pI 1)]) []:=by
 exact FV.fin Tryz.func74 rfl (o:=[.c (.tup [(.p (.v (.pointer none))),(.p (dcE 0 0 0 0 0 0)),(pI 1)]) [],bT]) (l:=[_,_]) (by kernel_rfl) (gc bGg (gc (fk 1 (bHi h0 h1 h2) rfl) gn))
theorem bRa{n r0:Int}(h0:uni 2 sk)(h1:uni 6 dc)(h2:(dC dl sk dc)≠0)(er0:r0=(dC dl sk dc)){base:Nat}:FV Tp 74 [(.p (.agg (bB dl sk dc))),(pI n)] base (.tup [(pI 0),(pI r0)]) []:=by
 subst er0;exact FV.fin Tryz.func74 rfl (o:=[.c (.tup [(.p (.v (.pointer none))),(.p (dcE 0 0 0 0 0 0)),(pI (dC dl sk dc))]) [],bT]) (l:=[_,_]) (by kernel_rfl) (gc (iD h2) (gc (fk 1 (aTs (n:=n) h0 h1 h2) rfl) gn))
theorem bRb{n z0 z1 z2 z3 z4 z5 r6:Int}(h0:cM dl sk dc)(h1:ofN (aB dc) n=some [z0,z1,z2,z3,z4,z5])(h2:aMf dl (aB sk) (aB dc) [z0,z1,z2,z3,z4,z5] r6)(h3:(0:Int)<r6){base:Nat}:FV Tp 53 [(.p (.agg (bB dl sk dc))),(pI n)] base (.tup [(pI r6),(pI 0)]) []:=by
 exact FV.fin Tryz.func53 rfl (o:=[.c (.tup [(.rp (aI dl (aB sk) (aB dc)) 0),(.p (dcE z0 z1 z2 z3 z4 z5)),(pI 0)]) [],bF,.c (pI r6) [],bT]) (l:=[_,FC Tp 128 [(.rp (aI dl (aB sk) (aB dc)) 0),(.p (dcE z0 z1 z2 z3 z4 z5))] [] 2 (pI r6) [],_,_]) (by kernel_rfl) (gc (aQ h3) (gc (FV.fc (h2 _) rfl) (gc aOs (gc (fk 1 (aQe h0 h1) rfl) gn))))
theorem bRc{n z0 z1 z2 z3 z4 z5 r6:Int}(h0:cM dl sk dc)(h1:ofN (aB dc) n=some [z0,z1,z2,z3,z4,z5])(h2:aMf dl (aB sk) (aB dc) [z0,z1,z2,z3,z4,z5] r6)(h3:r6≤0){base:Nat}:FV Tp 53 [(.p (.agg (bB dl sk dc))),(pI n)] base (.tup [(pI 0),(pI 6)]) []:=by
 exact FV.fin Tryz.func53 rfl (o:=[.c (.tup [(.rp (aI dl (aB sk) (aB dc)) 0),(.p (dcE z0 z1 z2 z3 z4 z5)),(pI 0)]) [],bF,.c (pI r6) [],bF]) (l:=[_,FC Tp 128 [(.rp (aI dl (aB sk) (aB dc)) 0),(.p (dcE z0 z1 z2 z3 z4 z5))] [] 2 (pI r6) [],_,_]) (by kernel_rfl) (gc (aR h3) (gc (FV.fc (h2 _) rfl) (gc aOs (gc (fk 1 (aQe h0 h1) rfl) gn))))
theorem bRd{n:Int}(h0:cM dl sk dc)(h1:inR n)(h2:ofN (aB dc) n=none){base:Nat}:FV Tp 53 [(.p (.agg (bB dl sk dc))),(pI n)] base (.tup [(pI 0),(pI 1)]) []:=by
 exact FV.fin Tryz.func53 rfl (o:=[.c (.tup [(.p (.v (.pointer none))),(.p (dcE 0 0 0 0 0 0)),(pI 1)]) [],bT]) (l:=[_,_]) (by kernel_rfl) (gc bGg (gc (fk 1 (bHi h0 h1 h2) rfl) gn))
theorem bRe{n r0:Int}(h0:uni 2 sk)(h1:uni 6 dc)(h2:(dC dl sk dc)≠0)(er0:r0=(dC dl sk dc)){base:Nat}:FV Tp 53 [(.p (.agg (bB dl sk dc))),(pI n)] base (.tup [(pI 0),(pI r0)]) []:=by
 subst er0;exact FV.fin Tryz.func53 rfl (o:=[.c (.tup [(.p (.v (.pointer none))),(.p (dcE 0 0 0 0 0 0)),(pI (dC dl sk dc))]) [],bT]) (l:=[_,_]) (by kernel_rfl) (gc (iD h2) (gc (fk 1 (aTs (n:=n) h0 h1 h2) rfl) gn))
end
section
variable {dl:Int}{sk dc:Lqq}

noncomputable abbrev aBr:Code:=sub (cd Tryz.f37) [1,1,1,0,1,0,0]
noncomputable abbrev aBs:Code:=sub (cd Tryz.f76) [1,1,0,0,0]
theorem zK(hd:cE dc){base:Nat}:FV Tp 75 [.p (.agg (bB dl sk dc)),.p bI] base (.own base) [(base,.row 121 ((bS dl [] dc).map (cZ dl)).length ((((bS dl [] dc).map (cZ dl)).map rsE).flatten))]:=FV.argwk (args':=[.p (.agg (bB dl sk dc)),.p (aG [])]) (bRg (sk:=sk) (q:=[]) hd (by simp)) (by kernel_rfl)
def kU(dl:Int)(sk:Lqq)(dc:Lqq)(on:Nat)(oc:List PV)(i:Nat):St:=⟨fr 29 [(1,(.ptr 0 0)),(2,(.p bI)),(3,(.own 1)),(4,(.own 2)),(5,(pI (i:Int)))],[some (.box 61 [(pI dl),(.p (fS sk)),(.p (fS dc))]),some (.row 121 (((bS dl [] dc).map (cZ dl)).length) ((((bS dl [] dc).map (cZ dl)).map rsE).flatten)),some (.row 3 on oc)]⟩
theorem bQu{o'0:List Int}{i'1:Nat}(h0:cE dc)(hl1:aE Tp 0 aBr (kU dl sk dc 0 [] 0) (.exit 0) (kU dl sk dc o'0.length (o'0.map aA) i'1)){base:Nat}:FV Tp 37 [(.p (.agg (bB dl sk dc)))] base (.p (aG o'0)) []:=by
 exact FV.frz (FMM.fin (k:=0) (g:=⟨[],[],[2],[]⟩) rfl Tryz.func37 rfl (o:=[.c (.own 1) [(1,(.row 121 (((bS dl [] dc).map (cZ dl)).length) ((((bS dl [] dc).map (cZ dl)).map rsE).flatten)))],.k 6 ⟨(rng [(0,1),(6,22)]),[0,1,2],[],[(4,3)]⟩ (.exit 0) (kU dl sk dc o'0.length (o'0.map aA) i'1)]) (l:=[_,_]) (by kernel_rfl) (gc hl1.code (gc (fk 1 (zK (dl:=dl) (sk:=sk) (dc:=dc) h0) rfl) gn))) (by kernel_rfl)
theorem aWw{o:List Int}{i:Nat}{la100 cn101 op102 up103:Bool}{mu104 bt105 fr106 y107 y108 y109 y110 y111 y112:Int}{o':List Int}{i':Nat}(h0:(i:Int)<((((bS dl [] dc).map (cZ dl)).length:Nat):Int))(h1:0≤(i:Int)∧(i:Int)<((((bS dl [] dc).map (cZ dl)).length:Nat):Int))(h2:((bS dl [] dc).map (cZ dl))[i]? = some (la100,cn101,op102,up103,mu104,bt105,fr106))(h3:op102=true)(h4:dc[i]? = some [y107,y108,y109,y110,y111,y112])(h5:uni 6 dc)(h6:[(aA y107)].length=1*1∧o.length+1≤1000000)(h7:inR (((i+1):Nat):Int))(eo'n:o'.length=(o.length+1))(eo'c:o'.map aA=((o.map aA)++[(aA y107)]))(ei':i'=(i+1)):aC Tp 0 aBr (kU dl sk dc o.length (o.map aA) i) .normal (kU dl sk dc o'.length (o'.map aA) i'):=by
 subst ei';have raw:aC Tp 0 aBr (kU dl sk dc o.length (o.map aA) i) .normal (kU dl sk dc (o.length+1) ((o.map aA)++[(aA y107)]) (i+1)):=aC.fin (g:=⟨(rng [(0,1),(6,22)]),[0,1,4],[],[]⟩) (o:=[bT,.x (blP op102),bT,.x (aA y107)]) (l:=[_,_,(dc.flatten.map aA)[(i*6)]? = some (aA y107),0≤(i:Int)∧(i:Int)<(dc.length:Int)∧(i*6)<(dc.flatten.map aA).length,_,((((bS dl [] dc).map (cZ dl)).map rsE).flatten)[((i*7)+2)]? = some (blP op102),_,_]) (by kernel_rfl) (gc h7 (gc h6 (gc (cL (i:=i) (f:=0) h5 h4 rfl) (gc (aV (k:=6) (i:=(i:Int)) (by decide) h5 (kQ1 _) h4) (gc h3 (gc (bM (E:=rsE) (i:=i) (f:=2) (k:=7) (fun _=>rfl) h2 rfl) (gc h1 (gc (aQ h0) gn))))))))
 exact raw.cast (by rw [eo'n,eo'c])
theorem aWx{o:List Int}{i:Nat}{la100 cn101 op102 up103:Bool}{mu104 bt105 fr106:Int}{i':Nat}(h0:(i:Int)<((((bS dl [] dc).map (cZ dl)).length:Nat):Int))(h1:0≤(i:Int)∧(i:Int)<((((bS dl [] dc).map (cZ dl)).length:Nat):Int))(h2:((bS dl [] dc).map (cZ dl))[i]? = some (la100,cn101,op102,up103,mu104,bt105,fr106))(h3:op102=false)(h4:inR (((i+1):Nat):Int))(ei':i'=(i+1)):aC Tp 0 aBr (kU dl sk dc o.length (o.map aA) i) .normal (kU dl sk dc o.length (o.map aA) i'):=by
 subst ei';exact aC.fin (g:=⟨(rng [(0,1),(6,22)]),[0,1,2],[],[]⟩) (o:=[bT,.x (blP op102),bF]) (l:=[_,_,((((bS dl [] dc).map (cZ dl)).map rsE).flatten)[((i*7)+2)]? = some (blP op102),_,_]) (by kernel_rfl) (gc h4 (gc h3 (gc (bM (E:=rsE) (i:=i) (f:=2) (k:=7) (fun _=>rfl) h2 rfl) (gc h1 (gc (aQ h0) gn)))))
theorem aWy{o:List Int}{i:Nat}(h0:((((bS dl [] dc).map (cZ dl)).length:Nat):Int)≤(i:Int)):aC Tp 0 aBr (kU dl sk dc o.length (o.map aA) i) (.exit 0) (kU dl sk dc o.length (o.map aA) i):=by
 exact aC.fin (g:=⟨(rng [(0,1),(6,22)]),[0,1,2],[],[]⟩) (o:=[bF]) (l:=[_]) (by kernel_rfl) (gc (aR h0) gn)
def kH(dl:Int)(sk:Lqq)(dc:Lqq)(i:Int):St:=⟨fr 36 [(2,(.ptr 0 0)),(4,(pI 0)),(5,(pI i))],[some (.box 61 [(pI dl),(.p (fS sk)),(.p (fS dc))])]⟩
theorem bGf{n z0 i'1:Int}(h0:uni 6 dc)(h1:dc.length≤1000)(h2:bD (fun x=>decide (x.getD 0 0=n)) dc=z0)(hl3:aE Tp 0 aBs (kH dl sk dc z0) (.exit 0) (kH dl sk dc i'1))(h4:i'1<(0:Int)){base:Nat}:FV Tp 76 [(.p (.agg (bB dl sk dc))),(pI n)] base (pI 0) []:=by
 exact FV.fin Tryz.func76 rfl (o:=[.c (pI z0) [],.k 2 ⟨(rng [(0,2),(3,1),(6,22)]),[0],[],[]⟩ (.exit 0) (kH dl sk dc i'1),bT]) (l:=[_,_,_]) (by kernel_rfl) (gc (aQ h4) (gc hl3.code (gc (fk 1 (aBw dl sk dc n h0 h1 h2) rfl) gn)))
theorem bQv{n z0 i'1 y2 y3 y4 y5 y6 y7:Int}(h0:uni 6 dc)(h1:dc.length≤1000)(h2:bD (fun x=>decide (x.getD 0 0=n)) dc=z0)(hl3:aE Tp 0 aBs (kH dl sk dc z0) (.exit 0) (kH dl sk dc i'1))(h4:(0:Int)≤i'1)(h5:dc[i'1.toNat]? = some [y2,y3,y4,y5,y6,y7])(h6:0≤i'1){base:Nat}:FV Tp 76 [(.p (.agg (bB dl sk dc))),(pI n)] base (pI y5) []:=by
 exact FV.fin Tryz.func76 rfl (o:=[.c (pI z0) [],.k 2 ⟨(rng [(0,2),(3,1),(6,22)]),[0],[],[]⟩ (.exit 0) (kH dl sk dc i'1),bF,.x (aA y5)]) (l:=[(dc.flatten.map aA)[((i'1.toNat*6)+3)]? = some (aA y5),0≤i'1∧i'1<(dc.length:Int)∧(i'1.toNat*6)<(dc.flatten.map aA).length,_,_,_]) (by kernel_rfl) (gc (cL (i:=i'1.toNat) (f:=3) h0 h5 rfl) (gc (aV (k:=6) (i:=i'1) (by decide) h0 h6 h5) (gc (aR h4) (gc hl3.code (gc (fk 1 (aBw dl sk dc n h0 h1 h2) rfl) gn)))))
theorem aWz{i y100 y101 y102 y103 y104 y105 z106:Int}(h0:(0:Int)≤i)(h1:dc[i.toNat]? = some [y100,y101,y102,y103,y104,y105])(h2:0≤i)(h3:uni 6 dc)(h4:(4:Int)<y101)(h5:dc.length≤1000)(h6:bD (fun x=>decide (x.getD 0 0=y105)) dc=z106):aC Tp 0 aBs (kH dl sk dc i) .normal (kH dl sk dc z106):=by
 exact aC.fin (g:=⟨(rng [(0,2),(3,1),(6,22)]),[0],[],[]⟩) (o:=[bT,bT,bT,bT,bT,bT,.x (aA y101),bT,bT,bT,.x (aA y105),.c (pI z106) []]) (l:=[_,(dc.flatten.map aA)[((i.toNat*6)+5)]? = some (aA y105),0≤i∧i<(dc.length:Int)∧(i.toNat*6)<(dc.flatten.map aA).length,_,_,_,(dc.flatten.map aA)[((i.toNat*6)+1)]? = some (aA y101),_,_,0≤i∧i<(dc.length:Int)∧(i.toNat*6)<(dc.flatten.map aA).length,_,_,_,_]) (by kernel_rfl) (gc (fk 1 (aBw dl sk dc y105 h3 h5 h6) rfl) (gc (cL (i:=i.toNat) (f:=5) h3 h1 rfl) (gc (aV (k:=6) (i:=i) (by decide) h3 h2 h1) (gc (aQ h4) (g2c (mD h0) (gc (cL (i:=i.toNat) (f:=1) h3 h1 rfl) (g2c (mD h0) (gc (aV (k:=6) (i:=i) (by decide) h3 h2 h1) (g4c (mD h0) gn)))))))))
theorem aXa{i y100 y101 y102 y103 y104 y105:Int}(h0:(0:Int)≤i)(h1:dc[i.toNat]? = some [y100,y101,y102,y103,y104,y105])(h2:0≤i)(h3:uni 6 dc)(h4:y101≤4):aC Tp 0 aBs (kH dl sk dc i) (.exit 0) (kH dl sk dc i):=by
 exact aC.fin (g:=⟨(rng [(0,2),(3,1),(6,22)]),[0],[],[]⟩) (o:=[bT,bT,bT,bT,bT,bT,.x (aA y101),bT,bT,bF]) (l:=[_,_,_,(dc.flatten.map aA)[((i.toNat*6)+1)]? = some (aA y101),_,_,0≤i∧i<(dc.length:Int)∧(i.toNat*6)<(dc.flatten.map aA).length,_,_,_,_]) (by kernel_rfl) (gc (aR h4) (g2c (mD h0) (gc (cL (i:=i.toNat) (f:=1) h3 h1 rfl) (g2c (mD h0) (gc (aV (k:=6) (i:=i) (by decide) h3 h2 h1) (g4c (mD h0) gn))))))
theorem aFa{i:Int}(h0:i<0):aC Tp 0 aBs (kH dl sk dc i) (.exit 0) (kH dl sk dc i):=by
 exact aC.fin (g:=⟨(rng [(0,2),(3,1),(6,22)]),[0],[],[]⟩) (o:=[bF,bF,bF,bF,bF,bF,bF,bF]) (l:=[_,_,_,_,_,_,_,_]) (by kernel_rfl) (g8c (lT h0) gn)
end
section
section
variable {dl:Int} {sk dc:Lqq}
theorem bQq{oc:List Int}(hd:cE dc){i:Nat}{x:List Int}(h:dc[i]? = some x):∃ s,(bS dl oc dc)[i]? = some s∧s.x=x∧stF dl oc dc x=s:=by
 have hi:=(kQ3.1 h).1;have hi':i<(bS dl oc dc).length:=by rw [kJ];exact hi
 refine ⟨_,kQ0 hi',?_,?_⟩
 ·have:=congrArg (fun l=>l[i]?) (uG dl oc dc)
  simp only [gM,kQ0 hi',h] at this
  exact Option.some.inj this
 ·have hx:(bS dl oc dc)[i].x=x:=by
   have:=congrArg (fun l=>l[i]?) (uG dl oc dc)
   simp only [gM,kQ0 hi',h] at this
   exact Option.some.inj this
  have:=aFn hd (fV hi')
  rwa [hx] at this
theorem bGd(hd:cE dc){i:Nat}{x:List Int}(h:dc[i]? = some x):∃ up by_ fr,((bS dl [] dc).map (cZ dl))[i]? = some (cA dl x,cD dl [] dc x,jW dl dc x,up,iR dl [] dc x,by_,fr):=by
 obtain ⟨s,h1,h2,h3⟩:=bQq (dl:=dl) (oc:=[]) hd h;refine ⟨s.upd,(s.rul.map dN).getD 0,(s.chg.map dN).getD 0,?_⟩;rw [gM,h1];show some (cZ dl s)=_;have e1:cD dl [] dc x=s.cnt:=by unfold cD;rw [h3]
 have e2:jW dl dc x=(eM (dK x) && (s.cnt && s.rul.isNone)):=by unfold jW cD sS;rw [h3]
 have e3:iR dl [] dc x=s.much:=by unfold iR;rw [h3]
 rw [e1,e2,e3];unfold cZ;rw [h2]
theorem aOq(hd:cE dc){base:Nat}:FV Tp 37 [.p (.agg (bB dl sk dc))] base (.p (aG (aP dl dc))) []:=by
 have hlen:=hd.len;have hll:((bS dl [] dc).map (cZ dl)).length=dc.length:=by rw [fL,kJ]
 have:=aE.range (P:=Tp) (k:=0) (b:=sub (cd Tryz.f37) [1,1,1,0,1,0,0]) (e := .exit 0) (fun i (o:List Int)=>kU dl sk dc o.length (o.map aA) i) (fun o=>kU dl sk dc o.length (o.map aA) dc.length) (fun o x=>if jW dl dc x then o++[dN x] else o) (fun i o=>o.length≤i) (by simp) dc (a0:=[]) (by simp)
  (fun i x o hx ho=>by
   have hi:=aT hx;obtain ⟨up,b,fr,hr⟩:=bGd (dl:=dl) hd hx;obtain ⟨y0,y1,y2,y3,y4,y5,rfl⟩:=len6 (hd.ud x (kQ4 hx));cases hb:jW dl dc [y0,y1,y2,y3,y4,y5] with
   | true =>
    rw [hb] at hr
    refine ⟨by simp;omega,?_⟩
    simp only [if_true];exact aWw (by rw [hll];omega) ⟨by omega,by rw [hll];omega⟩ hr rfl hx hd.ud ⟨rfl,by omega⟩ (aO (by omega)) (by simp) (by simp) rfl
   | false =>
    rw [hb] at hr
    refine ⟨by simp;omega,?_⟩
    simp only [Bool.false_eq_true,if_false];exact aWx (by rw [hll];omega) ⟨by omega,by rw [hll];omega⟩ hr rfl (aO (by omega)) rfl)
  (fun o _=>aWy (by rw [hll];omega))
 have e:∀ (l:Lqq) (o:List Int),l.foldl (fun o x=>if jW dl dc x then o++[dN x] else o) o=o++(l.filter (jW dl dc)).map dN:=by
  intro l
  induction l with
  | nil=>intro o;simp
  | cons a l ih =>
   intro o;rw [yZ,ih];cases h:jW dl dc a with
   | true=>simp [List.filter_cons,h]
   | false=>simp [List.filter_cons,h]
 rw [e,List.nil_append] at this
 exact bQu hd this
theorem bGe(dc:Lqq)(n:Int):(∃ (i:Nat) (x:List Int),bD (fun x:List Int=>decide (x.getD 0 0=n)) dc=(i:Int)∧dc[i]? = some x∧ofN dc n=some x)∨(bD (fun x:List Int=>decide (x.getD 0 0=n)) dc = -1∧ofN dc n=none):=by
 have hp:(fun x:List Int=>decide (x.getD 0 0=n))=fun x=>dN x == n:=by
  funext x
  rw [Bool.eq_iff_iff,decide_eq_true_eq,beq_iff_eq]
 rw [hp];unfold ofN;cases h:dc.findIdx? (fun x=>dN x == n) with
 | none =>
  refine .inr ⟨gL h,?_⟩;rw [aBm];intro x hx;have:=List.findIdx?_eq_none_iff.1 h x hx;simp only [this];simp
 | some i =>
  obtain ⟨h1,h2,h3⟩:=List.findIdx?_eq_some_iff_getElem.1 h;refine .inl ⟨i,dc[i],eL h,kQ0 h1,?_⟩;rw [List.find?_eq_some_iff_getElem];exact ⟨h2,i,h1,rfl,fun j hj=>by simpa using h3 j hj⟩
theorem bQr(hd:cE dc):∀ (k:Nat) (x:List Int) (i:Nat),dc[i]? = some x→dN x≤(k:Int) →
  ∃ i':Int,aE Tp 0 (sub (cd Tryz.f76) [1,1,0,0,0]) (kH dl sk dc (i:Int)) (.exit 0) (kH dl sk dc i')∧((i'<0∧kK dc (k+1) x=0)∨(0≤i'∧∃ y,dc[i'.toNat]? = some y∧dB y=kK dc (k+1) x)):=by
 intro k
 induction k with
 | zero =>
  intro x i hx hk;have:=eN hd (kQ4 hx);omega
 | succ k ih =>
  intro x i hx hk;have hm:=kQ4 hx;obtain ⟨y0,y1,y2,y3,y4,y5,rfl⟩:=len6 (hd.ud x hm)
  by_cases h4:y1≤4
  ·refine ⟨(i:Int),.exit (aXa (by omega) (by simpa using hx) (by omega) hd.ud h4) (by simp),.inr ⟨by omega,_,by simpa using hx,?_⟩⟩
   unfold kK;rw [if_pos (show dK [y0,y1,y2,y3,y4,y5]≤4 from h4)]
  ·have hu:kK dc (k+1+1) [y0,y1,y2,y3,y4,y5]=match ofN dc y5 with | some y=>kK dc (k+1) y | none=>0:=by
    conv=>lhs;unfold kK
    rw [if_neg (show ¬ dK [y0,y1,y2,y3,y4,y5]≤4 from h4)]
    rfl
   rw [hu];have hst:=aWz (dl:=dl) (sk:=sk) (dc:=dc) (i:=(i:Int)) (z106:=bD (fun x:List Int=>decide (x.getD 0 0=y5)) dc) (by omega) (by simpa using hx) (by omega) hd.ud (by omega) hd.len rfl
   rcases bGe dc y5 with ⟨j,y,h1,h2,h3⟩ | ⟨h1,h3⟩
   ·rw [h1] at hst
    have ho:=hd.ord _ hm;unfold orB at ho
    rw [if_neg (show ¬ [y0,y1,y2,y3,y4,y5].getD 1 0≤4 from h4)] at ho
    have ho3:y5≤y0-1:=(bY.1 ho).2;have hy:=(iZ h3).2;have hk':y0≤((k+1:Nat):Int):=hk;obtain ⟨i',q1,q2⟩:=ih y j h2 (by omega)
    refine ⟨i',.step hst q1,?_⟩;rw [h3];exact q2
   ·rw [h1] at hst
    refine ⟨-1,.step hst (.exit (aFa (by omega)) (by simp)),.inl ⟨by omega,?_⟩⟩
    rw [h3]
theorem aOr(hd:cE dc)(n:Int){base:Nat}:FV Tp 76 [.p (.agg (bB dl sk dc)),.p (aA n)] base (.p (aA (nE dc n))) []:=by
 unfold nE
 rcases bGe dc n with ⟨i,x,h1,h2,h3⟩ | ⟨h1,h3⟩
 ·rw [h3]
  have:=eN hd (kQ4 h2);obtain ⟨i',q1,q2⟩:=bQr (dl:=dl) (sk:=sk) hd 10000 x i h2 (by omega)
  show FV Tp 76 _ base (.p (aA (kK dc (10000+1) x))) []
  rcases q2 with ⟨q2,q3⟩ | ⟨q2,y,q3,q4⟩
  ·rw [q3]
   exact bGf hd.ud hd.len h1 q1 q2
  ·rw [← q4]
   obtain ⟨y0,y1,y2,y3,y4,y5,rfl⟩:=len6 (hd.ud y (kQ4 q3));exact bQv hd.ud hd.len h1 q1 q2 q3 q2
 ·rw [h3]
  exact bGf hd.ud hd.len h1 (.exit (aFa (by omega)) (by simp)) (by omega)
end
def jU(dl:Int)(sk dc:Lqq)(n:Int):Int × Int:=if dC dl sk dc≠0 then (0,dC dl sk dc) else match ofN (aB dc) n with
 | some x=>(iR dl [] (aB dc) x,0)
 | none=>(0,1)
def iQ(dl:Int)(sk dc:Lqq)(n:Int):Int × Int:=if dC dl sk dc≠0 then (0,dC dl sk dc) else match ofN (aB dc) n with
 | some x=>if 0<gV (aB dc) x then (gV (aB dc) x,0) else (0,6)
 | none=>(0,1)
theorem bQs{dl:Int}{sk dc:Lqq}(us:uni 2 sk)(ud:uni 6 dc){n:Int}(hn:inR n){base:Nat}:FV Tp 74 [.p (.agg (bB dl sk dc)),.p (aA n)] base (.tup [.p (aA (jU dl sk dc n).1),.p (aA (jU dl sk dc n).2)]) []:=by
 unfold jU
 by_cases hc:dC dl sk dc≠0
 ·rw [if_pos hc]
  exact bRa us ud hc rfl
 ·rw [if_neg hc]
  have h:=(zM us ud).1 (Classical.not_not.1 hc);have hd:=dQ h;cases ho:ofN (aB dc) n with
  | none=>exact bQz h hn ho
  | some x =>
   have hm:=(iZ ho).1;obtain ⟨T',_,hT⟩:=bZr (dl:=dl) (sk:=aB sk) (ov:=bI) (oc:=[]) hd vP hm (T:=[]) cF.nil;obtain ⟨y0,y1,y2,y3,y4,y5,rfl⟩:=len6 (hd.ud x hm);exact bQy h ho hT
theorem bQt{dl:Int}{sk dc:Lqq}(us:uni 2 sk)(ud:uni 6 dc){n:Int}(hn:inR n){base:Nat}:FV Tp 53 [.p (.agg (bB dl sk dc)),.p (aA n)] base (.tup [.p (aA (iQ dl sk dc n).1),.p (aA (iQ dl sk dc n).2)]) []:=by
 unfold iQ
 by_cases hc:dC dl sk dc≠0
 ·rw [if_pos hc]
  exact bRe us ud hc rfl
 ·rw [if_neg hc]
  have h:=(zM us ud).1 (Classical.not_not.1 hc);have hd:=dQ h;cases ho:ofN (aB dc) n with
  | none=>exact bRd h hn ho
  | some x =>
   have hm:=(iZ ho).1;have hr:=eN hd hm;have hab:=kV hd x hm;obtain ⟨a,b,c,d,e,f,rfl⟩:=len6 (hd.ud x hm);have hf:inR f:=by
    have:=(gU.1 (hd.rng _ hm));unfold inR;simp [dAb] at this hab ⊢;omega
   have hsbj:aMf dl (aB sk) (aB dc) [a,b,c,d,e,f] (gV (aB dc) [a,b,c,d,e,f]):=fun base=>aQf hd hf (.inl hm) hr.2
   by_cases h0:0<gV (aB dc) [a,b,c,d,e,f]
   ·have e1:(match some [a,b,c,d,e,f] with | some x=>if 0<gV (aB dc) x then (gV (aB dc) x,(0:Int)) else (0,6) | none=>(0,1))=(gV (aB dc) [a,b,c,d,e,f],0):=by
     show (if _ then _ else _)=_
     rw [if_pos h0]
    rw [e1];exact bRb h ho hsbj h0
   ·have e1:(match some [a,b,c,d,e,f] with | some x=>if 0<gV (aB dc) x then (gV (aB dc) x,(0:Int)) else (0,6) | none=>(0,1))=(0,6):=by
     show (if _ then _ else _)=_
     rw [if_neg h0]
    rw [e1];exact bRc h ho hsbj (by omega)
end
section
variable {dl:Int}{sk dc:Lqq}

noncomputable abbrev gP:Code:=sub (cd Tryz.f13) [1,1,1,1,1,1,1,1,1,1,1,1,1,1,1,0,1,0,0]
theorem nX:((0:Int) == (0:Int))=true:=by first | decide | simp
theorem aHk{n m e:Int}(us:uni 2 sk)(ud:uni 6 dc)(hn:inR n)(h:jU dl sk dc n=(m,e)){base:Nat}:FV Tp 74 [.p (.agg (bB dl sk dc)),.p (aA n)] base (.tup [.p (aA m),.p (aA e)]) []:=by
 have:=bQs us ud hn (dl:=dl) (base:=base);rw [h] at this
 exact this
theorem aHl{n m e:Int}(us:uni 2 sk)(ud:uni 6 dc)(hn:inR n)(h:iQ dl sk dc n=(m,e)){base:Nat}:FV Tp 53 [.p (.agg (bB dl sk dc)),.p (aA n)] base (.tup [.p (aA m),.p (aA e)]) []:=by
 have:=bQt us ud hn (dl:=dl) (base:=base);rw [h] at this
 exact this
def cN(dl:Int)(sk:Lqq)(dc:Lqq)(n:Int)(m0:Int)(e1:Int)(m2:Int)(e3:Int)(lan:Nat)(lac:List PV)(con:Nat)(coc:List PV)(mu:Int)(w:Int)(k:Nat):St:=⟨fr 222 [(1,(pI n)),(2,(.ptr 0 0)),(4,(.kb false)),(5,(.ptr 1 0)),(8,(.p (aG (bL (cA dl) (aB dc))))),(9,(pI 0)),(10,(.p (aG (bL (cD dl [] (aB dc)) (aB dc))))),(11,(pI 0)),(12,(.p (aG (aP dl (aB dc))))),(13,(pI 0)),(14,(pI m0)),(15,(pI e1)),(16,(pI m2)),(17,(pI e3)),(18,(.ptr 2 0)),(19,(.own 3)),(20,(.own 4)),(21,(.own 5)),(22,(pI mu)),(23,(pI w)),(121,(.p (.sl ((aB dc).length) ((aB dc).flatten.map aA)))),(122,(pI (((aB dc).length:Nat):Int))),(123,(pI (k:Int)))],[some (.box 26 [(pI dl),(.p (fS sk)),(.p (fS dc))]),some (.box 26 [(pI dl),(.p (fS sk)),(.p (fS dc))]),some (.box 61 [(pI dl),(.p (.sl ((aB sk).length) ((aB sk).flatten.map aA))),(.p (.sl ((aB dc).length) ((aB dc).flatten.map aA)))]),some (.row 121 (((bS dl [] (aB dc)).map (cZ dl)).length) ((((bS dl [] (aB dc)).map (cZ dl)).map rsE).flatten)),some (.row 3 lan lac),some (.row 3 con coc)]⟩
theorem bQo{n:Int}(h0:(nY sk dc (30:Int) (40:Int))=true)(h1:∀ {base:Nat},FV Tp 26 [] base (pB true) []){base:Nat}:FV Tp 13 [(.p (.agg (bB dl sk dc))),(pI n)] base (pB true) []:=by
 exact FV.fin Tryz.func13 rfl (o:=[.c (pB (nY sk dc (30:Int) (40:Int))) [],bT,.c (pB true) []]) (l:=[FC Tp 26 [] [] 1 (pB true) [],_,_]) (by kernel_rfl) (gc (FV.fc h1 (by kernel_rfl)) (gc h0 (gc (fk 1 (aBt dl sk dc (30:Int) (40:Int)) rfl) gn)))
theorem bQp{n m0 e1 m2 e3:Int}{la'4 co'5:List Int}{mu'6 w'7:Int}{k'8:Nat}(h0:(nY sk dc (30:Int) (40:Int))=false)(h1:uni 2 sk)(h2:sk.length≤1000)(h3:uni 6 dc)(h4:dc.length≤1000)(h5:cM dl sk dc)(h6:inR n)(h7:jU dl sk dc n=(m0,e1))(h8:iQ dl sk dc n=(m2,e3))(h9:(dC dl sk dc)=0)(h10:cE (aB dc))(hl11:aE Tp 0 gP (cN dl sk dc n m0 e1 m2 e3 0 [] 0 [] (0:Int) (1:Int) 0) (.exit 0) (cN dl sk dc n m0 e1 m2 e3 la'4.length (la'4.map aA) co'5.length (co'5.map aA) mu'6 w'7 k'8))(h12:w'7=(0:Int))(h13:(nE (aB dc) n)=0)(h14:(bL (cA dl) (aB dc)).length≤1000)(h15:(decide ((bL (cA dl) (aB dc))=la'4))=true)(h16:(bL (cD dl [] (aB dc)) (aB dc)).length≤1000)(h17:(decide ((bL (cD dl [] (aB dc)) (aB dc))=co'5))=true)(h18:(aP dl (aB dc)).length≤1000)(h19:(decide ((aP dl (aB dc))=(aP dl (aB dc))))=true)(h20:m0=mu'6)(h21:e1=w'7)(h22:m2=(nE (aB dc) n))(h23:e3=6)(h24:uni 2 sk∧sk.length≤1000)(h25:uni 6 dc∧dc.length≤1000)(h26:(decide (dl=dl∧sk=sk∧dc=dc))=true)(h27:∀ {base:Nat},FV Tp 26 [] base (pB true) []){base:Nat}:FV Tp 13 [(.p (.agg (bB dl sk dc))),(pI n)] base (pB true) []:=by
 exact FV.fin Tryz.func13 rfl (o:=[.c (pB (nY sk dc (30:Int) (40:Int))) [],bF,.c (.p (.agg (bB dl sk dc))) [],.c (.p (.agg (bB dl sk dc))) [],.c (pI (dC dl sk dc)) [],.c (.tup [(.p (aG (bL (cA dl) (aB dc)))),(pI 0)]) [],.c (.tup [(.p (aG (bL (cD dl [] (aB dc)) (aB dc)))),(pI 0)]) [],.c (.tup [(.p (aG (aP dl (aB dc)))),(pI 0)]) [],.c (.tup [(pI m0),(pI e1)]) [],.c (.tup [(pI m2),(pI e3)]) [],bF,.c (.p (.agg (bB dl (aB sk) (aB dc)))) [],.c (.own 20) [(20,(.row 121 (((bS dl [] (aB dc)).map (cZ dl)).length) ((((bS dl [] (aB dc)).map (cZ dl)).map rsE).flatten)))],.k 10 ⟨(rng [(0,1),(3,1),(6,2),(24,2),(28,93),(124,98)]),[0,17,19,20,21,22],[],[(20,3),(21,3)]⟩ (.exit 0) (cN dl sk dc n m0 e1 m2 e3 la'4.length (la'4.map aA) co'5.length (co'5.map aA) mu'6 w'7 k'8),.c (pI (nE (aB dc) n)) [],bT,bT,bT,bT,bT,bT,bT,bT,bT,bT,bT,bT,bT,.c (pB (decide ((bL (cA dl) (aB dc))=la'4))) [],bT,bT,bT,bT,.c (pB (decide ((bL (cD dl [] (aB dc)) (aB dc))=co'5))) [],bT,bT,bT,bT,.c (.p (aG (aP dl (aB dc)))) [],bT,.c (pB (decide ((aP dl (aB dc))=(aP dl (aB dc))))) [],bT,bT,bT,bT,bT,bT,bT,bT,bT,bT,bT,bT,bT,bT,bT,bT,bT,bT,bT,bT,.c (pB (decide (dl=dl∧sk=sk∧dc=dc))) [],bT,bT,.c (pB true) [],bT]) (l:=[_,FC Tp 26 [] [] 6 (pB true) [],_,_,_,_,_,_,_,_,_,_,_,_,_,_,_,_,_,_,_,_,_,_,_,_,_,_,_,_,_,_,FC Tp 41 [(.p (aG (bL (cD dl [] (aB dc)) (aB dc)))),(.own 5)] [(5,(.row 3 co'5.length (co'5.map aA)))] 6 (pB (decide ((bL (cD dl [] (aB dc)) (aB dc))=co'5))) [],_,_,_,_,FC Tp 41 [(.p (aG (bL (cA dl) (aB dc)))),(.own 4)] [(4,(.row 3 la'4.length (la'4.map aA)))] 6 (pB (decide ((bL (cA dl) (aB dc))=la'4))) [],_,_,_,_,_,_,_,_,_,_,_,_,_,_,_,_,_,_,_,_,FC Tp 19 [(.p (.agg (bB dl sk dc)))] [] 19 (.tup [(.p (aG (aP dl (aB dc)))),(pI 0)]) [],FC Tp 48 [(.p (.agg (bB dl sk dc)))] [] 19 (.tup [(.p (aG (bL (cD dl [] (aB dc)) (aB dc)))),(pI 0)]) [],FC Tp 73 [(.p (.agg (bB dl sk dc)))] [] 19 (.tup [(.p (aG (bL (cA dl) (aB dc)))),(pI 0)]) [],_,_,_,_,_]) (by kernel_rfl) (gc h26 (gc (FV.fc h27 (by kernel_rfl)) (gc h26 (gc (cC h23) (gc (fk 6 (aHn dl sk dc dl sk dc h24 h25 h1 h3) rfl) (g3c (cC h23) (g4c (cC h22) (g4c (cC h21) (g4c (cC h20) (g4c h19 (gc h17 (gc (fk 6 (mZ (aP dl (aB dc)) (aP dl (aB dc)) h18) rfl) (gc h17 (gc (fk 6 (aOq (dl:=dl) (sk:=(aB sk)) h10) rfl) (g3c h17 (gc h15 (gc (fv (mZ (bL (cD dl [] (aB dc)) (aB dc)) co'5 h16)) (g3c h15 (gc nX (gc (fv (mZ (bL (cA dl) (aB dc)) la'4 h14)) (g8c nX (gc nX (gc (cC h13) (g3c (cC h12) (gc (fk 6 (aOr (dl:=dl) (sk:=(aB sk)) h10 n) rfl) (gc hl11.code (gc (fk 20 (zK (dl:=dl) (sk:=(aB sk)) (dc:=(aB dc)) h10) rfl) (gc (fk 19 (aPh dl sk dc h5) rfl) (gc (cT h9) (gc (fk 19 (aHl h1 h3 h6 h8) rfl) (gc (fk 19 (aHk h1 h3 h6 h7) rfl) (gc (FV.fc (aHw h5 (dQ h5)) rfl) (gc (FV.fc (aOu h5) rfl) (gc (FV.fc (aOt h5) rfl) (gc (fk 19 (aHo dl sk dc h1 h3) rfl) (gc (fk 9 (aHp dl sk dc h1 h3 h2 h4) rfl) (gc (fk 1 (aHm dl sk dc h1 h2 h3 h4) rfl) (gc h0 (gc (fk 1 (aBt dl sk dc (30:Int) (40:Int)) rfl) gn)))))))))))))))))))))))))))))))))))))))
theorem bKt{n m0 e1 m2 e3:Int}{la'4 co'5:List Int}{mu'6 w'7:Int}{k'8:Nat}(h0:(nY sk dc (30:Int) (40:Int))=false)(h1:uni 2 sk)(h2:sk.length≤1000)(h3:uni 6 dc)(h4:dc.length≤1000)(h5:cM dl sk dc)(h6:inR n)(h7:jU dl sk dc n=(m0,e1))(h8:iQ dl sk dc n=(m2,e3))(h9:(dC dl sk dc)=0)(h10:cE (aB dc))(hl11:aE Tp 0 gP (cN dl sk dc n m0 e1 m2 e3 0 [] 0 [] (0:Int) (1:Int) 0) (.exit 0) (cN dl sk dc n m0 e1 m2 e3 la'4.length (la'4.map aA) co'5.length (co'5.map aA) mu'6 w'7 k'8))(h12:w'7=(0:Int))(h13:(nE (aB dc) n)≠0)(h14:(bL (cA dl) (aB dc)).length≤1000)(h15:(decide ((bL (cA dl) (aB dc))=la'4))=true)(h16:(bL (cD dl [] (aB dc)) (aB dc)).length≤1000)(h17:(decide ((bL (cD dl [] (aB dc)) (aB dc))=co'5))=true)(h18:(aP dl (aB dc)).length≤1000)(h19:(decide ((aP dl (aB dc))=(aP dl (aB dc))))=true)(h20:m0=mu'6)(h21:e1=w'7)(h22:m2=(nE (aB dc) n))(h23:e3=w'7)(h24:uni 2 sk∧sk.length≤1000)(h25:uni 6 dc∧dc.length≤1000)(h26:(decide (dl=dl∧sk=sk∧dc=dc))=true)(h27:∀ {base:Nat},FV Tp 26 [] base (pB true) []){base:Nat}:FV Tp 13 [(.p (.agg (bB dl sk dc))),(pI n)] base (pB true) []:=by
 exact FV.fin Tryz.func13 rfl (o:=[.c (pB (nY sk dc (30:Int) (40:Int))) [],bF,.c (.p (.agg (bB dl sk dc))) [],.c (.p (.agg (bB dl sk dc))) [],.c (pI (dC dl sk dc)) [],.c (.tup [(.p (aG (bL (cA dl) (aB dc)))),(pI 0)]) [],.c (.tup [(.p (aG (bL (cD dl [] (aB dc)) (aB dc)))),(pI 0)]) [],.c (.tup [(.p (aG (aP dl (aB dc)))),(pI 0)]) [],.c (.tup [(pI m0),(pI e1)]) [],.c (.tup [(pI m2),(pI e3)]) [],bF,.c (.p (.agg (bB dl (aB sk) (aB dc)))) [],.c (.own 20) [(20,(.row 121 (((bS dl [] (aB dc)).map (cZ dl)).length) ((((bS dl [] (aB dc)).map (cZ dl)).map rsE).flatten)))],.k 10 ⟨(rng [(0,1),(3,1),(6,2),(24,2),(28,93),(124,98)]),[0,17,19,20,21,22],[],[(20,3),(21,3)]⟩ (.exit 0) (cN dl sk dc n m0 e1 m2 e3 la'4.length (la'4.map aA) co'5.length (co'5.map aA) mu'6 w'7 k'8),.c (pI (nE (aB dc) n)) [],bT,bT,bT,bF,bT,bT,bT,bT,bT,bT,bT,bT,bT,.c (pB (decide ((bL (cA dl) (aB dc))=la'4))) [],bT,bT,bT,bT,.c (pB (decide ((bL (cD dl [] (aB dc)) (aB dc))=co'5))) [],bT,bT,bT,bT,.c (.p (aG (aP dl (aB dc)))) [],bT,.c (pB (decide ((aP dl (aB dc))=(aP dl (aB dc))))) [],bT,bT,bT,bT,bT,bT,bT,bT,bT,bT,bT,bT,bT,bT,bT,bT,bT,bT,bT,bT,.c (pB (decide (dl=dl∧sk=sk∧dc=dc))) [],bT,bT,.c (pB true) [],bT]) (l:=[_,FC Tp 26 [] [] 6 (pB true) [],_,_,_,_,_,_,_,_,_,_,_,_,_,_,_,_,_,_,_,_,_,_,_,_,_,_,_,_,_,_,FC Tp 41 [(.p (aG (bL (cD dl [] (aB dc)) (aB dc)))),(.own 5)] [(5,(.row 3 co'5.length (co'5.map aA)))] 6 (pB (decide ((bL (cD dl [] (aB dc)) (aB dc))=co'5))) [],_,_,_,_,FC Tp 41 [(.p (aG (bL (cA dl) (aB dc)))),(.own 4)] [(4,(.row 3 la'4.length (la'4.map aA)))] 6 (pB (decide ((bL (cA dl) (aB dc))=la'4))) [],_,_,_,_,_,_,_,_,_,_,_,_,_,_,_,_,_,_,_,_,FC Tp 19 [(.p (.agg (bB dl sk dc)))] [] 19 (.tup [(.p (aG (aP dl (aB dc)))),(pI 0)]) [],FC Tp 48 [(.p (.agg (bB dl sk dc)))] [] 19 (.tup [(.p (aG (bL (cD dl [] (aB dc)) (aB dc)))),(pI 0)]) [],FC Tp 73 [(.p (.agg (bB dl sk dc)))] [] 19 (.tup [(.p (aG (bL (cA dl) (aB dc)))),(pI 0)]) [],_,_,_,_,_]) (by kernel_rfl) (gc h26 (gc (FV.fc h27 (by kernel_rfl)) (gc h26 (gc (cC h23) (gc (fk 6 (aHn dl sk dc dl sk dc h24 h25 h1 h3) rfl) (g3c (cC h23) (g4c (cC h22) (g4c (cC h21) (g4c (cC h20) (g4c h19 (gc h17 (gc (fk 6 (mZ (aP dl (aB dc)) (aP dl (aB dc)) h18) rfl) (gc h17 (gc (fk 6 (aOq (dl:=dl) (sk:=(aB sk)) h10) rfl) (g3c h17 (gc h15 (gc (fv (mZ (bL (cD dl [] (aB dc)) (aB dc)) co'5 h16)) (g3c h15 (gc nX (gc (fv (mZ (bL (cA dl) (aB dc)) la'4 h14)) (g8c nX (gc nX (gc (bE h13) (g3c (cC h12) (gc (fk 6 (aOr (dl:=dl) (sk:=(aB sk)) h10 n) rfl) (gc hl11.code (gc (fk 20 (zK (dl:=dl) (sk:=(aB sk)) (dc:=(aB dc)) h10) rfl) (gc (fk 19 (aPh dl sk dc h5) rfl) (gc (cT h9) (gc (fk 19 (aHl h1 h3 h6 h8) rfl) (gc (fk 19 (aHk h1 h3 h6 h7) rfl) (gc (FV.fc (aHw h5 (dQ h5)) rfl) (gc (FV.fc (aOu h5) rfl) (gc (FV.fc (aOt h5) rfl) (gc (fk 19 (aHo dl sk dc h1 h3) rfl) (gc (fk 9 (aHp dl sk dc h1 h3 h2 h4) rfl) (gc (fk 1 (aHm dl sk dc h1 h2 h3 h4) rfl) (gc h0 (gc (fk 1 (aBt dl sk dc (30:Int) (40:Int)) rfl) gn)))))))))))))))))))))))))))))))))))))))
theorem bKu{n m0 e1 m2 e3:Int}{la'4 co'5:List Int}{mu'6 w'7:Int}{k'8:Nat}(h0:(nY sk dc (30:Int) (40:Int))=false)(h1:uni 2 sk)(h2:sk.length≤1000)(h3:uni 6 dc)(h4:dc.length≤1000)(h5:cM dl sk dc)(h6:inR n)(h7:jU dl sk dc n=(m0,e1))(h8:iQ dl sk dc n=(m2,e3))(h9:(dC dl sk dc)=0)(h10:cE (aB dc))(hl11:aE Tp 0 gP (cN dl sk dc n m0 e1 m2 e3 0 [] 0 [] (0:Int) (1:Int) 0) (.exit 0) (cN dl sk dc n m0 e1 m2 e3 la'4.length (la'4.map aA) co'5.length (co'5.map aA) mu'6 w'7 k'8))(h12:w'7≠(0:Int))(h13:(bL (cA dl) (aB dc)).length≤1000)(h14:(decide ((bL (cA dl) (aB dc))=la'4))=true)(h15:(bL (cD dl [] (aB dc)) (aB dc)).length≤1000)(h16:(decide ((bL (cD dl [] (aB dc)) (aB dc))=co'5))=true)(h17:(aP dl (aB dc)).length≤1000)(h18:(decide ((aP dl (aB dc))=(aP dl (aB dc))))=true)(h19:m0=mu'6)(h20:e1=w'7)(h21:m2=(nE (aB dc) n))(h22:e3=w'7)(h23:uni 2 sk∧sk.length≤1000)(h24:uni 6 dc∧dc.length≤1000)(h25:(decide (dl=dl∧sk=sk∧dc=dc))=true)(h26:∀ {base:Nat},FV Tp 26 [] base (pB true) []){base:Nat}:FV Tp 13 [(.p (.agg (bB dl sk dc))),(pI n)] base (pB true) []:=by
 exact FV.fin Tryz.func13 rfl (o:=[.c (pB (nY sk dc (30:Int) (40:Int))) [],bF,.c (.p (.agg (bB dl sk dc))) [],.c (.p (.agg (bB dl sk dc))) [],.c (pI (dC dl sk dc)) [],.c (.tup [(.p (aG (bL (cA dl) (aB dc)))),(pI 0)]) [],.c (.tup [(.p (aG (bL (cD dl [] (aB dc)) (aB dc)))),(pI 0)]) [],.c (.tup [(.p (aG (aP dl (aB dc)))),(pI 0)]) [],.c (.tup [(pI m0),(pI e1)]) [],.c (.tup [(pI m2),(pI e3)]) [],bF,.c (.p (.agg (bB dl (aB sk) (aB dc)))) [],.c (.own 20) [(20,(.row 121 (((bS dl [] (aB dc)).map (cZ dl)).length) ((((bS dl [] (aB dc)).map (cZ dl)).map rsE).flatten)))],.k 10 ⟨(rng [(0,1),(3,1),(6,2),(24,2),(28,93),(124,98)]),[0,17,19,20,21,22],[],[(20,3),(21,3)]⟩ (.exit 0) (cN dl sk dc n m0 e1 m2 e3 la'4.length (la'4.map aA) co'5.length (co'5.map aA) mu'6 w'7 k'8),.c (pI (nE (aB dc) n)) [],bF,bF,bF,bT,bT,bT,bT,bT,bT,bT,bT,bT,.c (pB (decide ((bL (cA dl) (aB dc))=la'4))) [],bT,bT,bT,bT,.c (pB (decide ((bL (cD dl [] (aB dc)) (aB dc))=co'5))) [],bT,bT,bT,bT,.c (.p (aG (aP dl (aB dc)))) [],bT,.c (pB (decide ((aP dl (aB dc))=(aP dl (aB dc))))) [],bT,bT,bT,bT,bT,bT,bT,bT,bT,bT,bT,bT,bT,bT,bT,bT,bT,bT,bT,bT,.c (pB (decide (dl=dl∧sk=sk∧dc=dc))) [],bT,bT,.c (pB true) [],bT]) (l:=[_,FC Tp 26 [] [] 6 (pB true) [],_,_,_,_,_,_,_,_,_,_,_,_,_,_,_,_,_,_,_,_,_,_,_,_,_,_,_,_,_,_,FC Tp 41 [(.p (aG (bL (cD dl [] (aB dc)) (aB dc)))),(.own 5)] [(5,(.row 3 co'5.length (co'5.map aA)))] 6 (pB (decide ((bL (cD dl [] (aB dc)) (aB dc))=co'5))) [],_,_,_,_,FC Tp 41 [(.p (aG (bL (cA dl) (aB dc)))),(.own 4)] [(4,(.row 3 la'4.length (la'4.map aA)))] 6 (pB (decide ((bL (cA dl) (aB dc))=la'4))) [],_,_,_,_,_,_,_,_,_,_,_,_,_,_,_,_,_,_,_,FC Tp 19 [(.p (.agg (bB dl sk dc)))] [] 19 (.tup [(.p (aG (aP dl (aB dc)))),(pI 0)]) [],FC Tp 48 [(.p (.agg (bB dl sk dc)))] [] 19 (.tup [(.p (aG (bL (cD dl [] (aB dc)) (aB dc)))),(pI 0)]) [],FC Tp 73 [(.p (.agg (bB dl sk dc)))] [] 19 (.tup [(.p (aG (bL (cA dl) (aB dc)))),(pI 0)]) [],_,_,_,_,_]) (by kernel_rfl) (gc h25 (gc (FV.fc h26 (by kernel_rfl)) (gc h25 (gc (cC h22) (gc (fk 6 (aHn dl sk dc dl sk dc h23 h24 h1 h3) rfl) (g3c (cC h22) (g4c (cC h21) (g4c (cC h20) (g4c (cC h19) (g4c h18 (gc h16 (gc (fk 6 (mZ (aP dl (aB dc)) (aP dl (aB dc)) h17) rfl) (gc h16 (gc (fk 6 (aOq (dl:=dl) (sk:=(aB sk)) h10) rfl) (g3c h16 (gc h14 (gc (fv (mZ (bL (cD dl [] (aB dc)) (aB dc)) co'5 h15)) (g3c h14 (gc nX (gc (fv (mZ (bL (cA dl) (aB dc)) la'4 h13)) (g8c nX (gc nX (g3c (bE h12) (gc (fk 6 (aOr (dl:=dl) (sk:=(aB sk)) h10 n) rfl) (gc hl11.code (gc (fk 20 (zK (dl:=dl) (sk:=(aB sk)) (dc:=(aB dc)) h10) rfl) (gc (fk 19 (aPh dl sk dc h5) rfl) (gc (cT h9) (gc (fk 19 (aHl h1 h3 h6 h8) rfl) (gc (fk 19 (aHk h1 h3 h6 h7) rfl) (gc (FV.fc (aHw h5 (dQ h5)) rfl) (gc (FV.fc (aOu h5) rfl) (gc (FV.fc (aOt h5) rfl) (gc (fk 19 (aHo dl sk dc h1 h3) rfl) (gc (fk 9 (aHp dl sk dc h1 h3 h2 h4) rfl) (gc (fk 1 (aHm dl sk dc h1 h2 h3 h4) rfl) (gc h0 (gc (fk 1 (aBt dl sk dc (30:Int) (40:Int)) rfl) gn))))))))))))))))))))))))))))))))))))))
theorem bKv{n m0 e1 m2 e3:Int}(h0:(nY sk dc (30:Int) (40:Int))=false)(h1:uni 2 sk)(h2:sk.length≤1000)(h3:uni 6 dc)(h4:dc.length≤1000)(h5:(dC dl sk dc)≠0)(h6:inR n)(h7:jU dl sk dc n=(m0,e1))(h8:iQ dl sk dc n=(m2,e3))(h9:(dC dl sk dc)=(dC dl sk dc))(h10:e1=(dC dl sk dc))(h11:e3=(dC dl sk dc))(h12:m0=0)(h13:m2=0)(h14:uni 2 sk∧sk.length≤1000)(h15:uni 6 dc∧dc.length≤1000)(h16:(decide (dl=dl∧sk=sk∧dc=dc))=true)(h17:∀ {base:Nat},FV Tp 26 [] base (pB true) []){base:Nat}:FV Tp 13 [(.p (.agg (bB dl sk dc))),(pI n)] base (pB true) []:=by
 exact FV.fin Tryz.func13 rfl (o:=[.c (pB (nY sk dc (30:Int) (40:Int))) [],bF,.c (.p (.agg (bB dl sk dc))) [],.c (.p (.agg (bB dl sk dc))) [],.c (pI (dC dl sk dc)) [],.c (.tup [(.p bI),(pI (dC dl sk dc))]) [],.c (.tup [(.p bI),(pI (dC dl sk dc))]) [],.c (.tup [(.p bI),(pI (dC dl sk dc))]) [],.c (.tup [(pI m0),(pI e1)]) [],.c (.tup [(pI m2),(pI e3)]) [],bT,bT,bT,bT,bT,bT,bT,bT,bT,bT,bT,bT,bT,bT,bT,bT,bT,bT,bT,bT,bT,bT,bT,bT,bT,bT,bT,bT,bT,bT,bT,bT,bT,bT,bT,bT,.c (pB (decide (dl=dl∧sk=sk∧dc=dc))) [],bT,bT,.c (pB true) [],bT]) (l:=[_,FC Tp 26 [] [] 19 (pB true) [],_,_,_,_,_,_,_,_,_,_,_,_,_,_,inR (0:Int),_,_,_,inR (0:Int),_,_,_,_,_,_,_,_,_,_,_,_,_,_,_,_,_,_,_,_,_,_,_,_,FC Tp 19 [(.p (.agg (bB dl sk dc)))] [] 19 (.tup [(.p bI),(pI (dC dl sk dc))]) [],FC Tp 48 [(.p (.agg (bB dl sk dc)))] [] 19 (.tup [(.p bI),(pI (dC dl sk dc))]) [],FC Tp 73 [(.p (.agg (bB dl sk dc)))] [] 19 (.tup [(.p bI),(pI (dC dl sk dc))]) [],_,_,_,_,_]) (by kernel_rfl) (gc h16 (gc (FV.fc h17 (by kernel_rfl)) (gc h16 (gc (cC h13) (gc (fk 19 (aHn dl sk dc dl sk dc h14 h15 h1 h3) rfl) (g3c (cC h13) (g3c (cC h12) (g3c nX (g2c (cC h11) (gc (by unfold inR;omega) (g3c (cC h11) (gc (by unfold inR;omega) (g5c (cC h11) (g4c (cC h10) (g8c (cC h9) (g4c (cC h9) (gc (iD h5) (gc (fk 19 (aHl h1 h3 h6 h8) rfl) (gc (fk 19 (aHk h1 h3 h6 h7) rfl) (gc (FV.fc (bUx h1 h3 h5 rfl) rfl) (gc (FV.fc (bQx h1 h3 h5 rfl) rfl) (gc (FV.fc (bQw h1 h3 h5 rfl) rfl) (gc (fk 19 (aHo dl sk dc h1 h3) rfl) (gc (fk 9 (aHp dl sk dc h1 h3 h2 h4) rfl) (gc (fk 1 (aHm dl sk dc h1 h2 h3 h4) rfl) (gc h0 (gc (fk 1 (aBt dl sk dc (30:Int) (40:Int)) rfl) gn)))))))))))))))))))))))))))
theorem aWn{n m0 e1 m2 e3:Int}{la co:List Int}{mu w:Int}{k:Nat}{y100 y101 y102 y103 y104 y105:Int}{la106 cn107 op108 up109:Bool}{mu110 bt111 fr112:Int}{la' co':List Int}{w':Int}{k':Nat}(h0:(k:Int)<(((aB dc).length:Nat):Int))(h1:(aB dc)[k]? = some [y100,y101,y102,y103,y104,y105])(h2:uni 6 (aB dc))(h3:0≤(k:Int)∧(k:Int)<((((bS dl [] (aB dc)).map (cZ dl)).length:Nat):Int))(h4:((bS dl [] (aB dc)).map (cZ dl))[k]? = some (la106,cn107,op108,up109,mu110,bt111,fr112))(h5:la106=true)(h6:[(aA y100)].length=1*1∧la.length+1≤1000000)(h7:cn107=true)(h8:[(aA y100)].length=1*1∧co.length+1≤1000000)(h9:y100=n)(h10:inR (((k+1):Nat):Int))(ela'n:la'.length=(la.length+1))(ela'c:la'.map aA=((la.map aA)++[(aA y100)]))(eco'n:co'.length=(co.length+1))(eco'c:co'.map aA=((co.map aA)++[(aA y100)]))(ew':w'=(0:Int))(ek':k'=(k+1)):aC Tp 0 gP (cN dl sk dc n m0 e1 m2 e3 la.length (la.map aA) co.length (co.map aA) mu w k) .normal (cN dl sk dc n m0 e1 m2 e3 la'.length (la'.map aA) co'.length (co'.map aA) mu110 w' k'):=by
 subst ew' ek';have raw:aC Tp 0 gP (cN dl sk dc n m0 e1 m2 e3 la.length (la.map aA) co.length (co.map aA) mu w k) .normal (cN dl sk dc n m0 e1 m2 e3 (la.length+1) ((la.map aA)++[(aA y100)]) (co.length+1) ((co.map aA)++[(aA y100)]) mu110 (0:Int) (k+1)):=aC.fin (g:=⟨(rng [(0,1),(3,1),(6,2),(24,2),(28,93),(124,98)]),[0,1,2,3,8,10],[],[]⟩) (o:=[bT,.x (dcE y100 y101 y102 y103 y104 y105),.x (blP la106),bT,.x (blP cn107),bT,bT,.x (aA mu110)]) (l:=[_,((((bS dl [] (aB dc)).map (cZ dl)).map rsE).flatten)[((k*7)+4)]? = some (aA mu110),_,_,_,_,((((bS dl [] (aB dc)).map (cZ dl)).map rsE).flatten)[((k*7)+1)]? = some (blP cn107),_,_,_,((((bS dl [] (aB dc)).map (cZ dl)).map rsE).flatten)[(k*7)]? = some (blP la106),_,_,_,0≤(k:Int)∧(k:Int)<(((aB dc).length:Nat):Int)∧(k*6)<((aB dc).flatten.map aA).length,_]) (by kernel_rfl) (gc h10 (gc (bM (E:=rsE) (i:=k) (f:=4) (k:=7) (fun _=>rfl) h4 rfl) (gc h3 (gc (cC h9) (gc h8 (gc h7 (gc (bM (E:=rsE) (i:=k) (f:=1) (k:=7) (fun _=>rfl) h4 rfl) (gc h3 (gc h6 (gc h5 (gc (bM (E:=rsE) (i:=k) (f:=0) (k:=7) (fun _=>rfl) h4 rfl) (gc h3 (gc (aL (i:=k) h2 h1) (gc (aW (i:=k) h2 h1) (gc (aV (k:=6) (i:=(k:Int)) (by decide) h2 (kQ1 _) h1) (gc (aQ h0) gn))))))))))))))))
 exact raw.cast (by rw [ela'n,ela'c,eco'n,eco'c])
theorem aWo{n m0 e1 m2 e3:Int}{la co:List Int}{mu w:Int}{k:Nat}{y100 y101 y102 y103 y104 y105:Int}{la106 cn107 op108 up109:Bool}{mu110 bt111 fr112:Int}{la' co':List Int}{k':Nat}(h0:(k:Int)<(((aB dc).length:Nat):Int))(h1:(aB dc)[k]? = some [y100,y101,y102,y103,y104,y105])(h2:uni 6 (aB dc))(h3:0≤(k:Int)∧(k:Int)<((((bS dl [] (aB dc)).map (cZ dl)).length:Nat):Int))(h4:((bS dl [] (aB dc)).map (cZ dl))[k]? = some (la106,cn107,op108,up109,mu110,bt111,fr112))(h5:la106=true)(h6:[(aA y100)].length=1*1∧la.length+1≤1000000)(h7:cn107=true)(h8:[(aA y100)].length=1*1∧co.length+1≤1000000)(h9:y100≠n)(h10:inR (((k+1):Nat):Int))(ela'n:la'.length=(la.length+1))(ela'c:la'.map aA=((la.map aA)++[(aA y100)]))(eco'n:co'.length=(co.length+1))(eco'c:co'.map aA=((co.map aA)++[(aA y100)]))(ek':k'=(k+1)):aC Tp 0 gP (cN dl sk dc n m0 e1 m2 e3 la.length (la.map aA) co.length (co.map aA) mu w k) .normal (cN dl sk dc n m0 e1 m2 e3 la'.length (la'.map aA) co'.length (co'.map aA) mu w k'):=by
 subst ek';have raw:aC Tp 0 gP (cN dl sk dc n m0 e1 m2 e3 la.length (la.map aA) co.length (co.map aA) mu w k) .normal (cN dl sk dc n m0 e1 m2 e3 (la.length+1) ((la.map aA)++[(aA y100)]) (co.length+1) ((co.map aA)++[(aA y100)]) mu w (k+1)):=aC.fin (g:=⟨(rng [(0,1),(3,1),(6,2),(24,2),(28,93),(124,98)]),[0,1,2,3,8,10],[],[]⟩) (o:=[bT,.x (dcE y100 y101 y102 y103 y104 y105),.x (blP la106),bT,.x (blP cn107),bT,bF]) (l:=[_,_,_,_,((((bS dl [] (aB dc)).map (cZ dl)).map rsE).flatten)[((k*7)+1)]? = some (blP cn107),_,_,_,((((bS dl [] (aB dc)).map (cZ dl)).map rsE).flatten)[(k*7)]? = some (blP la106),_,_,_,0≤(k:Int)∧(k:Int)<(((aB dc).length:Nat):Int)∧(k*6)<((aB dc).flatten.map aA).length,_]) (by kernel_rfl) (gc h10 (gc (bE h9) (gc h8 (gc h7 (gc (bM (E:=rsE) (i:=k) (f:=1) (k:=7) (fun _=>rfl) h4 rfl) (gc h3 (gc h6 (gc h5 (gc (bM (E:=rsE) (i:=k) (f:=0) (k:=7) (fun _=>rfl) h4 rfl) (gc h3 (gc (aL (i:=k) h2 h1) (gc (aW (i:=k) h2 h1) (gc (aV (k:=6) (i:=(k:Int)) (by decide) h2 (kQ1 _) h1) (gc (aQ h0) gn))))))))))))))
 exact raw.cast (by rw [ela'n,ela'c,eco'n,eco'c])
theorem aWp{n m0 e1 m2 e3:Int}{la co:List Int}{mu w:Int}{k:Nat}{y100 y101 y102 y103 y104 y105:Int}{la106 cn107 op108 up109:Bool}{mu110 bt111 fr112:Int}{la':List Int}{w':Int}{k':Nat}(h0:(k:Int)<(((aB dc).length:Nat):Int))(h1:(aB dc)[k]? = some [y100,y101,y102,y103,y104,y105])(h2:uni 6 (aB dc))(h3:0≤(k:Int)∧(k:Int)<((((bS dl [] (aB dc)).map (cZ dl)).length:Nat):Int))(h4:((bS dl [] (aB dc)).map (cZ dl))[k]? = some (la106,cn107,op108,up109,mu110,bt111,fr112))(h5:la106=true)(h6:[(aA y100)].length=1*1∧la.length+1≤1000000)(h7:cn107=false)(h8:y100=n)(h9:inR (((k+1):Nat):Int))(ela'n:la'.length=(la.length+1))(ela'c:la'.map aA=((la.map aA)++[(aA y100)]))(ew':w'=(0:Int))(ek':k'=(k+1)):aC Tp 0 gP (cN dl sk dc n m0 e1 m2 e3 la.length (la.map aA) co.length (co.map aA) mu w k) .normal (cN dl sk dc n m0 e1 m2 e3 la'.length (la'.map aA) co.length (co.map aA) mu110 w' k'):=by
 subst ew' ek';have raw:aC Tp 0 gP (cN dl sk dc n m0 e1 m2 e3 la.length (la.map aA) co.length (co.map aA) mu w k) .normal (cN dl sk dc n m0 e1 m2 e3 (la.length+1) ((la.map aA)++[(aA y100)]) co.length (co.map aA) mu110 (0:Int) (k+1)):=aC.fin (g:=⟨(rng [(0,1),(3,1),(6,2),(24,2),(28,93),(124,98)]),[0,1,2,3,8,5],[],[]⟩) (o:=[bT,.x (dcE y100 y101 y102 y103 y104 y105),.x (blP la106),bT,.x (blP cn107),bF,bT,.x (aA mu110)]) (l:=[_,((((bS dl [] (aB dc)).map (cZ dl)).map rsE).flatten)[((k*7)+4)]? = some (aA mu110),_,_,_,((((bS dl [] (aB dc)).map (cZ dl)).map rsE).flatten)[((k*7)+1)]? = some (blP cn107),_,_,_,((((bS dl [] (aB dc)).map (cZ dl)).map rsE).flatten)[(k*7)]? = some (blP la106),_,_,_,0≤(k:Int)∧(k:Int)<(((aB dc).length:Nat):Int)∧(k*6)<((aB dc).flatten.map aA).length,_]) (by kernel_rfl) (gc h9 (gc (bM (E:=rsE) (i:=k) (f:=4) (k:=7) (fun _=>rfl) h4 rfl) (gc h3 (gc (cC h8) (gc h7 (gc (bM (E:=rsE) (i:=k) (f:=1) (k:=7) (fun _=>rfl) h4 rfl) (gc h3 (gc h6 (gc h5 (gc (bM (E:=rsE) (i:=k) (f:=0) (k:=7) (fun _=>rfl) h4 rfl) (gc h3 (gc (aL (i:=k) h2 h1) (gc (aW (i:=k) h2 h1) (gc (aV (k:=6) (i:=(k:Int)) (by decide) h2 (kQ1 _) h1) (gc (aQ h0) gn)))))))))))))))
 exact raw.cast (by rw [ela'n,ela'c])
theorem aWq{n m0 e1 m2 e3:Int}{la co:List Int}{mu w:Int}{k:Nat}{y100 y101 y102 y103 y104 y105:Int}{la106 cn107 op108 up109:Bool}{mu110 bt111 fr112:Int}{la':List Int}{k':Nat}(h0:(k:Int)<(((aB dc).length:Nat):Int))(h1:(aB dc)[k]? = some [y100,y101,y102,y103,y104,y105])(h2:uni 6 (aB dc))(h3:0≤(k:Int)∧(k:Int)<((((bS dl [] (aB dc)).map (cZ dl)).length:Nat):Int))(h4:((bS dl [] (aB dc)).map (cZ dl))[k]? = some (la106,cn107,op108,up109,mu110,bt111,fr112))(h5:la106=true)(h6:[(aA y100)].length=1*1∧la.length+1≤1000000)(h7:cn107=false)(h8:y100≠n)(h9:inR (((k+1):Nat):Int))(ela'n:la'.length=(la.length+1))(ela'c:la'.map aA=((la.map aA)++[(aA y100)]))(ek':k'=(k+1)):aC Tp 0 gP (cN dl sk dc n m0 e1 m2 e3 la.length (la.map aA) co.length (co.map aA) mu w k) .normal (cN dl sk dc n m0 e1 m2 e3 la'.length (la'.map aA) co.length (co.map aA) mu w k'):=by
 subst ek';have raw:aC Tp 0 gP (cN dl sk dc n m0 e1 m2 e3 la.length (la.map aA) co.length (co.map aA) mu w k) .normal (cN dl sk dc n m0 e1 m2 e3 (la.length+1) ((la.map aA)++[(aA y100)]) co.length (co.map aA) mu w (k+1)):=aC.fin (g:=⟨(rng [(0,1),(3,1),(6,2),(24,2),(28,93),(124,98)]),[0,1,2,3,8,5],[],[]⟩) (o:=[bT,.x (dcE y100 y101 y102 y103 y104 y105),.x (blP la106),bT,.x (blP cn107),bF,bF]) (l:=[_,_,_,((((bS dl [] (aB dc)).map (cZ dl)).map rsE).flatten)[((k*7)+1)]? = some (blP cn107),_,_,_,((((bS dl [] (aB dc)).map (cZ dl)).map rsE).flatten)[(k*7)]? = some (blP la106),_,_,_,0≤(k:Int)∧(k:Int)<(((aB dc).length:Nat):Int)∧(k*6)<((aB dc).flatten.map aA).length,_]) (by kernel_rfl) (gc h9 (gc (bE h8) (gc h7 (gc (bM (E:=rsE) (i:=k) (f:=1) (k:=7) (fun _=>rfl) h4 rfl) (gc h3 (gc h6 (gc h5 (gc (bM (E:=rsE) (i:=k) (f:=0) (k:=7) (fun _=>rfl) h4 rfl) (gc h3 (gc (aL (i:=k) h2 h1) (gc (aW (i:=k) h2 h1) (gc (aV (k:=6) (i:=(k:Int)) (by decide) h2 (kQ1 _) h1) (gc (aQ h0) gn)))))))))))))
 exact raw.cast (by rw [ela'n,ela'c])
theorem aWr{n m0 e1 m2 e3:Int}{la co:List Int}{mu w:Int}{k:Nat}{y100 y101 y102 y103 y104 y105:Int}{la106 cn107 op108 up109:Bool}{mu110 bt111 fr112:Int}{co':List Int}{w':Int}{k':Nat}(h0:(k:Int)<(((aB dc).length:Nat):Int))(h1:(aB dc)[k]? = some [y100,y101,y102,y103,y104,y105])(h2:uni 6 (aB dc))(h3:0≤(k:Int)∧(k:Int)<((((bS dl [] (aB dc)).map (cZ dl)).length:Nat):Int))(h4:((bS dl [] (aB dc)).map (cZ dl))[k]? = some (la106,cn107,op108,up109,mu110,bt111,fr112))(h5:la106=false)(h6:cn107=true)(h7:[(aA y100)].length=1*1∧co.length+1≤1000000)(h8:y100=n)(h9:inR (((k+1):Nat):Int))(eco'n:co'.length=(co.length+1))(eco'c:co'.map aA=((co.map aA)++[(aA y100)]))(ew':w'=(0:Int))(ek':k'=(k+1)):aC Tp 0 gP (cN dl sk dc n m0 e1 m2 e3 la.length (la.map aA) co.length (co.map aA) mu w k) .normal (cN dl sk dc n m0 e1 m2 e3 la.length (la.map aA) co'.length (co'.map aA) mu110 w' k'):=by
 subst ew' ek';have raw:aC Tp 0 gP (cN dl sk dc n m0 e1 m2 e3 la.length (la.map aA) co.length (co.map aA) mu w k) .normal (cN dl sk dc n m0 e1 m2 e3 la.length (la.map aA) (co.length+1) ((co.map aA)++[(aA y100)]) mu110 (0:Int) (k+1)):=aC.fin (g:=⟨(rng [(0,1),(3,1),(6,2),(24,2),(28,93),(124,98)]),[0,1,2,3,4,8],[],[]⟩) (o:=[bT,.x (dcE y100 y101 y102 y103 y104 y105),.x (blP la106),bF,.x (blP cn107),bT,bT,.x (aA mu110)]) (l:=[_,((((bS dl [] (aB dc)).map (cZ dl)).map rsE).flatten)[((k*7)+4)]? = some (aA mu110),_,_,_,_,((((bS dl [] (aB dc)).map (cZ dl)).map rsE).flatten)[((k*7)+1)]? = some (blP cn107),_,_,((((bS dl [] (aB dc)).map (cZ dl)).map rsE).flatten)[(k*7)]? = some (blP la106),_,_,_,0≤(k:Int)∧(k:Int)<(((aB dc).length:Nat):Int)∧(k*6)<((aB dc).flatten.map aA).length,_]) (by kernel_rfl) (gc h9 (gc (bM (E:=rsE) (i:=k) (f:=4) (k:=7) (fun _=>rfl) h4 rfl) (gc h3 (gc (cC h8) (gc h7 (gc h6 (gc (bM (E:=rsE) (i:=k) (f:=1) (k:=7) (fun _=>rfl) h4 rfl) (gc h3 (gc h5 (gc (bM (E:=rsE) (i:=k) (f:=0) (k:=7) (fun _=>rfl) h4 rfl) (gc h3 (gc (aL (i:=k) h2 h1) (gc (aW (i:=k) h2 h1) (gc (aV (k:=6) (i:=(k:Int)) (by decide) h2 (kQ1 _) h1) (gc (aQ h0) gn)))))))))))))))
 exact raw.cast (by rw [eco'n,eco'c])
theorem aWs{n m0 e1 m2 e3:Int}{la co:List Int}{mu w:Int}{k:Nat}{y100 y101 y102 y103 y104 y105:Int}{la106 cn107 op108 up109:Bool}{mu110 bt111 fr112:Int}{co':List Int}{k':Nat}(h0:(k:Int)<(((aB dc).length:Nat):Int))(h1:(aB dc)[k]? = some [y100,y101,y102,y103,y104,y105])(h2:uni 6 (aB dc))(h3:0≤(k:Int)∧(k:Int)<((((bS dl [] (aB dc)).map (cZ dl)).length:Nat):Int))(h4:((bS dl [] (aB dc)).map (cZ dl))[k]? = some (la106,cn107,op108,up109,mu110,bt111,fr112))(h5:la106=false)(h6:cn107=true)(h7:[(aA y100)].length=1*1∧co.length+1≤1000000)(h8:y100≠n)(h9:inR (((k+1):Nat):Int))(eco'n:co'.length=(co.length+1))(eco'c:co'.map aA=((co.map aA)++[(aA y100)]))(ek':k'=(k+1)):aC Tp 0 gP (cN dl sk dc n m0 e1 m2 e3 la.length (la.map aA) co.length (co.map aA) mu w k) .normal (cN dl sk dc n m0 e1 m2 e3 la.length (la.map aA) co'.length (co'.map aA) mu w k'):=by
 subst ek';have raw:aC Tp 0 gP (cN dl sk dc n m0 e1 m2 e3 la.length (la.map aA) co.length (co.map aA) mu w k) .normal (cN dl sk dc n m0 e1 m2 e3 la.length (la.map aA) (co.length+1) ((co.map aA)++[(aA y100)]) mu w (k+1)):=aC.fin (g:=⟨(rng [(0,1),(3,1),(6,2),(24,2),(28,93),(124,98)]),[0,1,2,3,4,8],[],[]⟩) (o:=[bT,.x (dcE y100 y101 y102 y103 y104 y105),.x (blP la106),bF,.x (blP cn107),bT,bF]) (l:=[_,_,_,_,((((bS dl [] (aB dc)).map (cZ dl)).map rsE).flatten)[((k*7)+1)]? = some (blP cn107),_,_,((((bS dl [] (aB dc)).map (cZ dl)).map rsE).flatten)[(k*7)]? = some (blP la106),_,_,_,0≤(k:Int)∧(k:Int)<(((aB dc).length:Nat):Int)∧(k*6)<((aB dc).flatten.map aA).length,_]) (by kernel_rfl) (gc h9 (gc (bE h8) (gc h7 (gc h6 (gc (bM (E:=rsE) (i:=k) (f:=1) (k:=7) (fun _=>rfl) h4 rfl) (gc h3 (gc h5 (gc (bM (E:=rsE) (i:=k) (f:=0) (k:=7) (fun _=>rfl) h4 rfl) (gc h3 (gc (aL (i:=k) h2 h1) (gc (aW (i:=k) h2 h1) (gc (aV (k:=6) (i:=(k:Int)) (by decide) h2 (kQ1 _) h1) (gc (aQ h0) gn)))))))))))))
 exact raw.cast (by rw [eco'n,eco'c])
theorem aWt{n m0 e1 m2 e3:Int}{la co:List Int}{mu w:Int}{k:Nat}{y100 y101 y102 y103 y104 y105:Int}{la106 cn107 op108 up109:Bool}{mu110 bt111 fr112 w':Int}{k':Nat}(h0:(k:Int)<(((aB dc).length:Nat):Int))(h1:(aB dc)[k]? = some [y100,y101,y102,y103,y104,y105])(h2:uni 6 (aB dc))(h3:0≤(k:Int)∧(k:Int)<((((bS dl [] (aB dc)).map (cZ dl)).length:Nat):Int))(h4:((bS dl [] (aB dc)).map (cZ dl))[k]? = some (la106,cn107,op108,up109,mu110,bt111,fr112))(h5:la106=false)(h6:cn107=false)(h7:y100=n)(h8:inR (((k+1):Nat):Int))(ew':w'=(0:Int))(ek':k'=(k+1)):aC Tp 0 gP (cN dl sk dc n m0 e1 m2 e3 la.length (la.map aA) co.length (co.map aA) mu w k) .normal (cN dl sk dc n m0 e1 m2 e3 la.length (la.map aA) co.length (co.map aA) mu110 w' k'):=by
 subst ew' ek';exact aC.fin (g:=⟨(rng [(0,1),(3,1),(6,2),(24,2),(28,93),(124,98)]),[0,1,2,3,4,5],[],[]⟩) (o:=[bT,.x (dcE y100 y101 y102 y103 y104 y105),.x (blP la106),bF,.x (blP cn107),bF,bT,.x (aA mu110)]) (l:=[_,((((bS dl [] (aB dc)).map (cZ dl)).map rsE).flatten)[((k*7)+4)]? = some (aA mu110),_,_,_,((((bS dl [] (aB dc)).map (cZ dl)).map rsE).flatten)[((k*7)+1)]? = some (blP cn107),_,_,((((bS dl [] (aB dc)).map (cZ dl)).map rsE).flatten)[(k*7)]? = some (blP la106),_,_,_,0≤(k:Int)∧(k:Int)<(((aB dc).length:Nat):Int)∧(k*6)<((aB dc).flatten.map aA).length,_]) (by kernel_rfl) (gc h8 (gc (bM (E:=rsE) (i:=k) (f:=4) (k:=7) (fun _=>rfl) h4 rfl) (gc h3 (gc (cC h7) (gc h6 (gc (bM (E:=rsE) (i:=k) (f:=1) (k:=7) (fun _=>rfl) h4 rfl) (gc h3 (gc h5 (gc (bM (E:=rsE) (i:=k) (f:=0) (k:=7) (fun _=>rfl) h4 rfl) (gc h3 (gc (aL (i:=k) h2 h1) (gc (aW (i:=k) h2 h1) (gc (aV (k:=6) (i:=(k:Int)) (by decide) h2 (kQ1 _) h1) (gc (aQ h0) gn))))))))))))))
theorem aWu{n m0 e1 m2 e3:Int}{la co:List Int}{mu w:Int}{k:Nat}{y100 y101 y102 y103 y104 y105:Int}{la106 cn107 op108 up109:Bool}{mu110 bt111 fr112:Int}{k':Nat}(h0:(k:Int)<(((aB dc).length:Nat):Int))(h1:(aB dc)[k]? = some [y100,y101,y102,y103,y104,y105])(h2:uni 6 (aB dc))(h3:0≤(k:Int)∧(k:Int)<((((bS dl [] (aB dc)).map (cZ dl)).length:Nat):Int))(h4:((bS dl [] (aB dc)).map (cZ dl))[k]? = some (la106,cn107,op108,up109,mu110,bt111,fr112))(h5:la106=false)(h6:cn107=false)(h7:y100≠n)(h8:inR (((k+1):Nat):Int))(ek':k'=(k+1)):aC Tp 0 gP (cN dl sk dc n m0 e1 m2 e3 la.length (la.map aA) co.length (co.map aA) mu w k) .normal (cN dl sk dc n m0 e1 m2 e3 la.length (la.map aA) co.length (co.map aA) mu w k'):=by
 subst ek';exact aC.fin (g:=⟨(rng [(0,1),(3,1),(6,2),(24,2),(28,93),(124,98)]),[0,1,2,3,4,5],[],[]⟩) (o:=[bT,.x (dcE y100 y101 y102 y103 y104 y105),.x (blP la106),bF,.x (blP cn107),bF,bF]) (l:=[_,_,_,((((bS dl [] (aB dc)).map (cZ dl)).map rsE).flatten)[((k*7)+1)]? = some (blP cn107),_,_,((((bS dl [] (aB dc)).map (cZ dl)).map rsE).flatten)[(k*7)]? = some (blP la106),_,_,_,0≤(k:Int)∧(k:Int)<(((aB dc).length:Nat):Int)∧(k*6)<((aB dc).flatten.map aA).length,_]) (by kernel_rfl) (gc h8 (gc (bE h7) (gc h6 (gc (bM (E:=rsE) (i:=k) (f:=1) (k:=7) (fun _=>rfl) h4 rfl) (gc h3 (gc h5 (gc (bM (E:=rsE) (i:=k) (f:=0) (k:=7) (fun _=>rfl) h4 rfl) (gc h3 (gc (aL (i:=k) h2 h1) (gc (aW (i:=k) h2 h1) (gc (aV (k:=6) (i:=(k:Int)) (by decide) h2 (kQ1 _) h1) (gc (aQ h0) gn))))))))))))
theorem aWv{n m0 e1 m2 e3:Int}{la co:List Int}{mu w:Int}{k:Nat}(h0:(((aB dc).length:Nat):Int)≤(k:Int)):aC Tp 0 gP (cN dl sk dc n m0 e1 m2 e3 la.length (la.map aA) co.length (co.map aA) mu w k) (.exit 0) (cN dl sk dc n m0 e1 m2 e3 la.length (la.map aA) co.length (co.map aA) mu w k):=by
 exact aC.fin (g:=⟨(rng [(0,1),(3,1),(6,2),(24,2),(28,93),(124,98)]),[0,1,2,3,4,5],[],[]⟩) (o:=[bF]) (l:=[_]) (by kernel_rfl) (gc (aR h0) gn)
end
section
theorem yI{dc:Lqq}(h:∀ x∈dc,dK x≤4→0≤dB x):∀ (k:Nat) (x:List Int),x∈dc→0≤kK dc k x
 | 0,x,_=>aWm 0
 | k+1,x,hx=>by
  unfold kK
  split
  ·rename_i h4;exact h x hx h4
  ·split
   ·rename_i y hy;exact yI h k y (iZ hy).1
   ·exact aWm 0
theorem aOp{dl:Int}{sk dc:Lqq}(h:cM dl sk dc):∀ x∈aB dc,dK x≤4→0≤dB x:=fun x hx h4=>by
 have hm:=(dY dc).mem_iff.1 hx;have hb:=h.inb x hm;unfold inB at hb
 rw [if_pos (show x.getD 1 0≤4 from h4)] at hb
 have hc:dB x∈aK sk 0:=by simpa using hb
 unfold aK at hc
 obtain ⟨s,hs,e⟩:=fF.1 hc;have:=(zL.1 (h.hsk s hs)).1;show 0≤x.getD 3 0;have e':s.getD 0 0=x.getD 3 0:=e;omega
abbrev bKs:=List Int × List Int × Int × Int
def dcF(dl:Int)(S:Lqq)(n:Int)(A:bKs)(x:List Int):bKs :=
 (if cA dl x then A.1++[dN x] else A.1,if cD dl [] S x then A.2.1++[dN x] else A.2.1,if dN x=n then iR dl [] S x else A.2.2.1,if dN x=n then 0 else A.2.2.2)
theorem aTd(dl:Int)(S:Lqq)(n:Int):∀ (l:Lqq) (A:bKs),l.Pairwise (fun a b=>dN a<dN b) →
  l.foldl (dcF dl S n) A=(A.1++(l.filter (cA dl)).map dN,A.2.1++(l.filter (cD dl [] S)).map dN,(match ofN l n with | some x=>iR dl [] S x | none=>A.2.2.1),(match ofN l n with | some _=>0 | none=>A.2.2.2))
 | [],A,_=>by simp [ofN]
 | x::l,A,hp=>by
  obtain ⟨h1,h2⟩:=List.pairwise_cons.1 hp;rw [yZ,aTd dl S n l _ h2];have hf:∀ (p:List Int→Bool) (o:List Int),(if p x=true then o++[dN x] else o)++(l.filter p).map dN=o++((x::l).filter p).map dN:=fun p o=>by
   cases hp:p x with
   | true=>simp [List.filter_cons,hp]
   | false=>simp [List.filter_cons,hp]
  unfold dcF;dsimp only;rw [hf (cA dl),hf (cD dl [] S)]
  by_cases he:dN x=n
  ·have hn:ofN l n=none:=by
    unfold ofN;rw [aBm];intro y hy;have:=h1 y hy;simp only [beq_iff_eq];omega
   have hs:ofN (x::l) n=some x:=by
    unfold ofN;rw [List.find?_cons_of_pos (by simpa using he)]
   rw [hn,hs,if_pos he,if_pos he]
  ·have hs:ofN (x::l) n=ofN l n:=by
    unfold ofN;rw [List.find?_cons_of_neg (by simpa using he)]
   rw [hs,if_neg he,if_neg he]
theorem bGc{dl:Int}{sk dc:Lqq}{n m0 e1 m2 e3:Int}(h:cM dl sk dc):aE Tp 0 (sub (cd Tryz.f13) [1,1,1,1,1,1,1,1,1,1,1,1,1,1,1,0,1,0,0]) (cN dl sk dc n m0 e1 m2 e3 0 [] 0 [] (0:Int) (1:Int) 0) (.exit 0)
  (cN dl sk dc n m0 e1 m2 e3 (bL (cA dl) (aB dc)).length ((bL (cA dl) (aB dc)).map aA) (bL (cD dl [] (aB dc)) (aB dc)).length ((bL (cD dl [] (aB dc)) (aB dc)).map aA) (match ofN (aB dc) n with | some x=>iR dl [] (aB dc) x | none=>0) (match ofN (aB dc) n with | some _=>0 | none=>1) (aB dc).length):=by
 have hd:=dQ h;have hlen:=hd.len;have hll:((bS dl [] (aB dc)).map (cZ dl)).length=(aB dc).length:=by rw [fL,kJ]
 have:=aE.range (P:=Tp) (k:=0) (b:=sub (cd Tryz.f13) [1,1,1,1,1,1,1,1,1,1,1,1,1,1,1,0,1,0,0]) (e := .exit 0) (fun k (A:bKs)=>cN dl sk dc n m0 e1 m2 e3 A.1.length (A.1.map aA) A.2.1.length (A.2.1.map aA) A.2.2.1 A.2.2.2 k) (fun A=>cN dl sk dc n m0 e1 m2 e3 A.1.length (A.1.map aA) A.2.1.length (A.2.1.map aA) A.2.2.1 A.2.2.2 (aB dc).length)
  (dcF dl (aB dc) n) (fun k A=>A.1.length≤k∧A.2.1.length≤k) (by simp) (aB dc) (a0:=([],[],0,1)) (by simp)
  (fun k x A hx hA=>by
   have hk:=aT hx;obtain ⟨up,b,fr,hr⟩:=bGd (dl:=dl) hd hx;obtain ⟨y0,y1,y2,y3,y4,y5,rfl⟩:=len6 (hd.ud x (kQ4 hx));obtain ⟨hA1,hA2⟩:=hA;have hu:=hd.ud;have hk1:(k:Int)<(((aB dc).length:Nat):Int):=by omega
   have hk2:0≤(k:Int)∧(k:Int)<((((bS dl [] (aB dc)).map (cZ dl)).length:Nat):Int):=⟨by omega,by rw [hll];omega⟩
   have hin:inR (((k+1):Nat):Int):=aO (by omega)
   have hla:[(aA y0)].length=1*1∧A.1.length+1≤1000000:=⟨rfl,by omega⟩
   have hco:[(aA y0)].length=1*1∧A.2.1.length+1≤1000000:=⟨rfl,by omega⟩
   have ap:∀ l:List Int,(l++[y0]).length=l.length+1∧(l++[y0]).map aA=l.map aA++[aA y0]:=fun l=>⟨by simp,by simp⟩
   cases h1:cA dl [y0,y1,y2,y3,y4,y5] with
   | true=>cases h2:cD dl [] (aB dc) [y0,y1,y2,y3,y4,y5] with
    | true =>
     by_cases h3:y0=n
     ·have e:dcF dl (aB dc) n A [y0,y1,y2,y3,y4,y5]=(A.1++[y0],A.2.1++[y0],iR dl [] (aB dc) [y0,y1,y2,y3,y4,y5],0):=by
       unfold dcF;rw [if_pos h1,if_pos h2,if_pos (show dN [y0,y1,y2,y3,y4,y5]=n from h3),if_pos (show dN [y0,y1,y2,y3,y4,y5]=n from h3)];rfl
      rw [e];rw [h1,h2] at hr
      exact ⟨⟨by simp;omega,by simp;omega⟩,aWn hk1 hx hu hk2 hr rfl hla rfl hco h3 hin (ap _).1 (ap _).2 (ap _).1 (ap _).2 rfl rfl⟩
     ·have e:dcF dl (aB dc) n A [y0,y1,y2,y3,y4,y5]=(A.1++[y0],A.2.1++[y0],A.2.2.1,A.2.2.2):=by
       unfold dcF;rw [if_pos h1,if_pos h2,if_neg (show ¬ dN [y0,y1,y2,y3,y4,y5]=n from h3),if_neg (show ¬ dN [y0,y1,y2,y3,y4,y5]=n from h3)];rfl
      rw [e];rw [h1,h2] at hr
      exact ⟨⟨by simp;omega,by simp;omega⟩,aWo hk1 hx hu hk2 hr rfl hla rfl hco h3 hin (ap _).1 (ap _).2 (ap _).1 (ap _).2 rfl⟩
    | false =>
     have h2':¬ cD dl [] (aB dc) [y0,y1,y2,y3,y4,y5]=true:=by rw [h2];simp
     by_cases h3:y0=n
     ·have e:dcF dl (aB dc) n A [y0,y1,y2,y3,y4,y5]=(A.1++[y0],A.2.1,iR dl [] (aB dc) [y0,y1,y2,y3,y4,y5],0):=by
       unfold dcF;rw [if_pos h1,if_neg h2',if_pos (show dN [y0,y1,y2,y3,y4,y5]=n from h3),if_pos (show dN [y0,y1,y2,y3,y4,y5]=n from h3)];rfl
      rw [e];rw [h1,h2] at hr
      exact ⟨⟨by simp;omega,by simp;omega⟩,aWp hk1 hx hu hk2 hr rfl hla rfl h3 hin (ap _).1 (ap _).2 rfl rfl⟩
     ·have e:dcF dl (aB dc) n A [y0,y1,y2,y3,y4,y5]=(A.1++[y0],A.2.1,A.2.2.1,A.2.2.2):=by
       unfold dcF;rw [if_pos h1,if_neg h2',if_neg (show ¬ dN [y0,y1,y2,y3,y4,y5]=n from h3),if_neg (show ¬ dN [y0,y1,y2,y3,y4,y5]=n from h3)];rfl
      rw [e];rw [h1,h2] at hr
      exact ⟨⟨by simp;omega,by simp;omega⟩,aWq hk1 hx hu hk2 hr rfl hla rfl h3 hin (ap _).1 (ap _).2 rfl⟩
   | false =>
    have h1':¬ cA dl [y0,y1,y2,y3,y4,y5]=true:=by rw [h1];simp
    cases h2:cD dl [] (aB dc) [y0,y1,y2,y3,y4,y5] with
    | true =>
     by_cases h3:y0=n
     ·have e:dcF dl (aB dc) n A [y0,y1,y2,y3,y4,y5]=(A.1,A.2.1++[y0],iR dl [] (aB dc) [y0,y1,y2,y3,y4,y5],0):=by
       unfold dcF;rw [if_neg h1',if_pos h2,if_pos (show dN [y0,y1,y2,y3,y4,y5]=n from h3),if_pos (show dN [y0,y1,y2,y3,y4,y5]=n from h3)];rfl
      rw [e];rw [h1,h2] at hr
      exact ⟨⟨by simp;omega,by simp;omega⟩,aWr hk1 hx hu hk2 hr rfl rfl hco h3 hin (ap _).1 (ap _).2 rfl rfl⟩
     ·have e:dcF dl (aB dc) n A [y0,y1,y2,y3,y4,y5]=(A.1,A.2.1++[y0],A.2.2.1,A.2.2.2):=by
       unfold dcF;rw [if_neg h1',if_pos h2,if_neg (show ¬ dN [y0,y1,y2,y3,y4,y5]=n from h3),if_neg (show ¬ dN [y0,y1,y2,y3,y4,y5]=n from h3)];rfl
      rw [e];rw [h1,h2] at hr
      exact ⟨⟨by simp;omega,by simp;omega⟩,aWs hk1 hx hu hk2 hr rfl rfl hco h3 hin (ap _).1 (ap _).2 rfl⟩
    | false =>
     have h2':¬ cD dl [] (aB dc) [y0,y1,y2,y3,y4,y5]=true:=by rw [h2];simp
     by_cases h3:y0=n
     ·have e:dcF dl (aB dc) n A [y0,y1,y2,y3,y4,y5]=(A.1,A.2.1,iR dl [] (aB dc) [y0,y1,y2,y3,y4,y5],0):=by
       unfold dcF;rw [if_neg h1',if_neg h2',if_pos (show dN [y0,y1,y2,y3,y4,y5]=n from h3),if_pos (show dN [y0,y1,y2,y3,y4,y5]=n from h3)]
      rw [e];rw [h1,h2] at hr
      exact ⟨⟨by simp;omega,by simp;omega⟩,aWt hk1 hx hu hk2 hr rfl rfl h3 hin rfl rfl⟩
     ·have e:dcF dl (aB dc) n A [y0,y1,y2,y3,y4,y5]=(A.1,A.2.1,A.2.2.1,A.2.2.2):=by
       unfold dcF;rw [if_neg h1',if_neg h2',if_neg (show ¬ dN [y0,y1,y2,y3,y4,y5]=n from h3),if_neg (show ¬ dN [y0,y1,y2,y3,y4,y5]=n from h3)]
      rw [e];rw [h1,h2] at hr
      exact ⟨⟨by simp;omega,by simp;omega⟩,aWu hk1 hx hu hk2 hr rfl rfl h3 hin rfl⟩)
  (fun A _=>aWv (by omega))
 rw [aTd dl (aB dc) n (aB dc) _ hd.up] at this
 simp only [List.nil_append] at this
 exact this
theorem bQn(haw:∀ {base:Nat},FV Tp 26 [] base (.p (blP true)) [])(dl:Int)(sk dc:Lqq)(n:Int)(us:uni 2 sk)(ud:uni 6 dc)(hn:inR n){base:Nat}:FV Tp 13 [.p (.agg (bB dl sk dc)),.p (aA n)] base (.p (blP true)) []:=by
 cases hg:nY sk dc 30 40 with
 | true=>exact bQo hg haw
 | false =>
 have hs:=of_decide_eq_false hg;have l1:sk.length≤1000:=by omega
 have l2:dc.length≤999:=by omega
 by_cases h1:dC dl sk dc=0
 ·have hr:=(zM us ud).1 h1
  have hd:=dQ hr;have hlen:=hd.len;have hw:∀ q:List Int→Bool,(bL q (aB dc)).length≤1000:=fun q=>by
   unfold bL;rw [fL];exact gO (rF _ _) hlen
  have ho:(aP dl (aB dc)).length≤1000:=by
   unfold aP;rw [fL];exact gO (rF _ _) hlen
  have hL:=bGc (dl:=dl) (sk:=sk) (dc:=dc) (n:=n) (m0:=(jU dl sk dc n).1) (e1:=(jU dl sk dc n).2) (m2:=(iQ dl sk dc n).1) (e3:=(iQ dl sk dc n).2) hr;have hm:jU dl sk dc n=match ofN (aB dc) n with | some x=>(iR dl [] (aB dc) x,0) | none=>(0,1):=by
   unfold jU;rw [if_neg (fun q=>q h1)];all_goals (cases ofN (aB dc) n <;> rfl)
  have hsb:iQ dl sk dc n=match ofN (aB dc) n with | some x=>if 0<gV (aB dc) x then (gV (aB dc) x,0) else (0,6) | none=>(0,1):=by
   unfold iQ;rw [if_neg (fun q=>q h1)];all_goals (cases ofN (aB dc) n <;> rfl)
  cases hf:ofN (aB dc) n with
  | none =>
   rw [hf] at hL hm hsb
   have hsb0:nE (aB dc) n=0:=by unfold nE;rw [hf]
   exact bKu (m0:=(jU dl sk dc n).1) (e1:=(jU dl sk dc n).2) (m2:=(iQ dl sk dc n).1) (e3:=(iQ dl sk dc n).2) hg us l1 ud (by omega) hr hn rfl rfl h1 hd hL (by decide) (hw _) (decide_eq_true rfl) (hw _) (decide_eq_true rfl) ho (decide_eq_true rfl) (by rw [hm]) (by rw [hm]) (by rw [hsb,hsb0]) (by rw [hsb]) ⟨us,l1⟩ ⟨ud,by omega⟩ (by simp) haw
  | some x =>
   rw [hf] at hL hm hsb
   have hx:=(iZ hf).1;have hsbx:nE (aB dc) n=gV (aB dc) x:=by unfold nE;rw [hf]
   have hnn:0≤gV (aB dc) x:=yI (aOp hr) _ x hx
   by_cases h0:0<gV (aB dc) x
   ·have hsb':iQ dl sk dc n=(gV (aB dc) x,0):=by rw [hsb];exact if_pos h0
    exact bKt (m0:=(jU dl sk dc n).1) (e1:=(jU dl sk dc n).2) (m2:=(iQ dl sk dc n).1) (e3:=(iQ dl sk dc n).2) hg us l1 ud (by omega) hr hn rfl rfl h1 hd hL rfl (by rw [hsbx];omega) (hw _) (decide_eq_true rfl) (hw _) (decide_eq_true rfl) ho (decide_eq_true rfl) (by rw [hm]) (by rw [hm]) (by rw [hsb',hsbx]) (by rw [hsb']) ⟨us,l1⟩ ⟨ud,by omega⟩ (by simp) haw
   ·have hsb':iQ dl sk dc n=(0,6):=by rw [hsb];exact if_neg h0
    exact bQp (m0:=(jU dl sk dc n).1) (e1:=(jU dl sk dc n).2) (m2:=(iQ dl sk dc n).1) (e3:=(iQ dl sk dc n).2) hg us l1 ud (by omega) hr hn rfl rfl h1 hd hL rfl (by rw [hsbx];omega) (hw _) (decide_eq_true rfl) (hw _) (decide_eq_true rfl) ho (decide_eq_true rfl) (by rw [hm]) (by rw [hm]) (by rw [hsb',hsbx];omega) (by rw [hsb']) ⟨us,l1⟩ ⟨ud,by omega⟩ (by simp) haw
 ·have hm:jU dl sk dc n=(0,dC dl sk dc):=by unfold jU;rw [if_pos h1]
  have hsb:iQ dl sk dc n=(0,dC dl sk dc):=by unfold iQ;rw [if_pos h1]
  exact bKv hg us l1 ud (by omega) h1 hn hm hsb rfl rfl rfl rfl rfl ⟨us,l1⟩ ⟨ud,by omega⟩ (by simp) haw
end
section
variable {F:Fence} {n:Nat} {P:Program}
theorem aSd{o:Oper}{a:Act}{next next':Act→World→Prop}{Q Q':Exit→Act→World→Prop}{r:Result Next}(h:o.uponIn F n P a next Q r)
  (hn:∀ v d w',next (({ a with defers:=d }:Act).put o.dst v) w'→next' (({ a with defers:=d }:Act).put o.dst v) w') (hQ:∀ e a' w',e ≠ .normal→Q e a' w'→Q' e a' w') (hL:LetsOut Q→LetsOut Q'):o.uponIn F n P a next' Q' r:=by
 have hn':∀ v w',next (a.put o.dst v) w'→next' (a.put o.dst v) w':=fun v w'=>hn v a.defers w'
 cases r with
 | halt x w' =>
  cases x <;> first | exact hQ _ _ _ (by simp) h | exact h
 | ok nx w' =>
  cases nx with
  | value v=>exact hn' _ _ h
  | skip=>exact hn' _ _ h
  | defer d=>exact hn _ _ _ h
  | enter f us =>
   refine ⟨h.1,h.2.mono ?_⟩;intro e w'' he;cases e with
   | returned v=>exact hn' _ _ he
   | panicked c=>exact hQ _ _ _ (by simp) he
   | outgrown=>exact hL he
  | row r us=>exact ⟨h.1,h.2.mono fun v w'' he=>hn' _ _ he⟩
  | round l f tmps as1 bd =>
   refine ⟨h.1,h.2.mono ?_⟩;intro e w'' he;cases e with
   | returned v=>exact hn' _ _ he
   | panicked c=>exact hQ _ _ _ (by simp) he
   | outgrown=>exact hL he
  | _=>exact h
def Kps(ops:Array Oper)(a0 a:Act):Prop:=∀ i,(∀ o∈ops.toList,o.dst≠some i)→a.tmps.getD i undef=a0.tmps.getD i undef
theorem bEn{ops:Array Oper}{Q Q':Exit→Act→World→Prop}{i:Nat}{K K':Act→World→Prop}{a0 a:Act}{w:World}(h:wpOpIn F n P ops Q i K a w)(ha:Kps ops a0 a)(hK:∀ a' w',Kps ops a0 a'→K a' w'→K' a' w')
  (hQ:∀ e a' w',e ≠ .normal→Q e a' w'→Q' e a' w') (hL:LetsOut Q→LetsOut Q'):wpOpIn F n P ops Q' i K' a w:=by
 unfold wpOpIn at h ⊢
 split
 ·rename_i hi
  simp only [hi] at h
  exact hK _ _ ha h
 ·rename_i o hi
  simp only [hi] at h
  have hm:o∈ops.toList:=by
   obtain ⟨hl,he⟩:=kQ9.1 hi;rw [← he];exact Array.mem_toList_iff.2 (Array.getElem_mem hl)
  have hput:∀ v (d:List Deferred),Kps ops a0 (({ a with defers:=d }:Act).put o.dst v):=fun v d i hd=>by
   rw [oZ (a:={ a with defers:=d }) (hd o hm)]
   exact ha i hd
  split at h
  ·rename_i hw
   rw [if_pos hw];exact ⟨h.1,aSd h.2 (fun v d w' hn=>hK _ _ (hput v d) hn) hQ hL⟩
  ·rename_i hw
   rw [if_neg hw];exact ⟨h.1,hK _ _ (hput undef a.defers) h.2⟩
theorem aDc{md:Region.Mode}{ops:Array Oper}{Q:Exit→Act→World→Prop}{a0:Act}:∀ (fuel:Nat) (listed:Array Bool) (a:Act) (w:World),wpAnyIn F n P md ops Q fuel listed a w→Kps ops a0 a →
  wpAnyIn F n P md ops (fun e a' w'=>Q e a' w'∧(e = .normal→Kps ops a0 a')) fuel listed a w
 | 0,listed,a,w,h,ha=>⟨h.1,h.2,fun _=>ha⟩
 | fuel+1,listed,a,w,h,ha=>by
  refine ⟨fun h0=>⟨h.1 h0,fun _=>ha⟩,fun j hj => ?_⟩
  exact bEn (h.2 j hj) ha (fun a' w' hk h'=>aDc fuel _ a' w' h' hk) (fun e a' w' hne hq=>⟨hq,fun he=>absurd he hne⟩) (fun ⟨a',w',hq⟩=>⟨a',w',hq,fun he=>by cases he⟩)
end
section
section
variable {F:Fence} {n:Nat} {P:Program}
def bkD(ds:List Deferred)(a:Act):Act:={ a with defers:=a.defers++ds }
theorem aIw(ds:List Deferred)(a:Act)(d:Option Nat)(v:Value):(bkD ds a).put d v=bkD ds (a.put d v):=by cases d <;> rfl
theorem aDb(ds:List Deferred)(a:Act):(bkD ds a).eval=a.eval:=by funext x;cases x <;> rfl
theorem bEl(ds:List Deferred){o:Oper}{a:Act}{next next':Act→World→Prop}{Q Q':Exit→Act→World→Prop}{r:Result Next}(h:o.uponIn F n P a next Q r)
  (hn:∀ a' w',next a' w'→next' (bkD ds a') w') (hQ:∀ e a' w',Q e a' w'→Q' e (bkD ds a') w') (hL:LetsOut Q→LetsOut Q'):o.uponIn F n P (bkD ds a) next' Q' r:=by
 have hv:∀ v w',next (a.put o.dst v) w'→next' ((bkD ds a).put o.dst v) w':=fun v w' h=>by rw [aIw];exact hn _ _ h
 cases r with
 | halt x w' =>
  cases x <;> first | exact hQ _ _ _ h | exact h
 | ok nx w' =>
  cases nx with
  | value v=>exact hv _ _ h
  | skip=>exact hv _ _ h
  | defer d =>
   have:=hn _ _ h;rw [← aIw] at this
   exact this
  | enter f us =>
   refine ⟨h.1,h.2.mono ?_⟩;intro e w'' he;cases e with
   | returned v=>exact hv _ _ he
   | panicked c=>exact hQ _ _ _ he
   | outgrown=>exact hL he
  | row r us=>exact ⟨h.1,h.2.mono fun v w'' he=>hv _ _ he⟩
  | round l f tmps as1 bd =>
   refine ⟨h.1,h.2.mono ?_⟩;intro e w'' he;cases e with
   | returned v=>exact hv _ _ he
   | panicked c=>exact hQ _ _ _ he
   | outgrown=>exact hL he
  | _=>exact h
theorem bPo(ds:List Deferred){ops:Array Oper}{Q Q':Exit→Act→World→Prop}{i:Nat}{K K':Act→World→Prop}{a:Act}{w:World}(h:wpOpIn F n P ops Q i K a w)(hK:∀ a' w',K a' w'→K' (bkD ds a') w')
  (hQ:∀ e a' w',Q e a' w'→Q' e (bkD ds a') w') (hL:LetsOut Q→LetsOut Q'):wpOpIn F n P ops Q' i K' (bkD ds a) w:=by
 unfold wpOpIn at h ⊢
 split
 ·rename_i hi
  simp only [hi] at h
  exact hK _ _ h
 ·rename_i o hi
  simp only [hi] at h
  have e1:(bkD ds a).tmps=a.tmps:=rfl;rw [e1]
  split at h
  ·rename_i hw
   rw [if_pos hw];refine ⟨by rw [aDb];exact h.1,?_⟩
   rw [aDb];exact bEl ds h.2 hK hQ hL
  ·rename_i hw
   rw [if_neg hw];exact ⟨by rw [aDb];exact h.1,by rw [aIw];exact hK _ _ h.2⟩
theorem aMp(ds:List Deferred){md:Region.Mode}{ops:Array Oper}{Q Q':Exit→Act→World→Prop}(hQ:∀ e a' w',Q e a' w'→Q' e (bkD ds a') w')(hL:LetsOut Q→LetsOut Q'):∀ (fuel:Nat) (listed:Array Bool) (a:Act) (w:World),wpAnyIn F n P md ops Q fuel listed a w→wpAnyIn F n P md ops Q' fuel listed (bkD ds a) w
 | 0,listed,a,w,h=>⟨h.1,hQ _ _ _ h.2⟩
 | fuel+1,listed,a,w,h=>⟨fun h0=>hQ _ _ _ (h.1 h0),fun j hj=>bPo ds (h.2 j hj) (fun a' w' h'=>aMp ds hQ hL fuel _ a' w' h') hQ hL⟩
end
variable {P:Program} {T:TT} {E:Env}
theorem bEm(ds:List Deferred)(hT:∀ t i,T t=some i→cW P t=some i)(hE:lS P E)(hm:P.follows .mixedOrders=true){id:Nat}{ops:Array Oper}{st st':St}{s s':AS}(h:aJd P T E ops true st s=some (st',s'))(g:bK s')
  (C0:Cx) (M0:Mem) (w0:World) (a:Act) (w:World) (hs:Sim P C0 M0 w0 st a w) (ro:Option Nat) (n:Nat):(Code.region id ops true).wpIn (Fen ro) n P (fun e' a' w'=>e'=Ex.normal.toExit∧∃ a2,a'=bkD ds a2∧Sim P C0 M0 w0 st' a2 w'∧Kps ops a a2) (bkD ds a) w:=by
 obtain ⟨_,s1,h1,k1⟩:=aD h;obtain ⟨e1,rfl⟩:=aH h1;obtain ⟨r,s2,h2,k2⟩:=aD k1;obtain ⟨_,s3,h3,k3⟩:=aD k2;obtain ⟨e3,rfl⟩:=aH h3;obtain ⟨rfl,rfl⟩:=aJ k3;obtain ⟨hB,_⟩:=bW e1;obtain ⟨hA,_⟩:=bW e3;obtain ⟨os,hfts,hlex⟩:=qQ ops.toList _ (fts:=r.1) (fin:=r.2) h2 g;unfold Region.lexB at hB
 rw [kQ6] at hB
 have hlen:os.length=ops.toList.length:=by
  have:∀ {l:List Oper} {id:Nat} {st:St} {os:List uQ} {fin:St},aJe P T E ops.toList id l st os fin→os.length=l.length:=by
   intro l
   induction l with
   | nil=>intro id st os fin h;cases h;rfl
   | cons o l ih=>intro id st os fin h;cases h with | cons _ _ _ _ q os _ h hr=>simp [ih hr]
  exact this hlex
 have key:oN P T E ops.toList st.m.length (fun k=>os.getD k (.any,[],none)) r.2 ops.toList.length (Array.replicate ops.size false) st:=by
  refine oN.lex ops.toList 0 _ st os (fun j=>by simp) (fun j q hj=>by simp [kQ5,hj]) (fun j hj=>absurd hj (aOl _)) (fun j oj hj hl => ?_) (fun i j _ hij hj => ?_) (by simpa using hB.2) (by simpa [ido] using hlex)
  ·exfalso
   rcases Nat.lt_or_ge j ops.size with h' | h'
   ·simp [h'] at hl
   ·simp [Nat.not_lt.2 h'] at hl
  have hj2:j<os.length:=by
   rw [hlen];obtain ⟨o,ho⟩:=Option.isSome_iff_exists.1 hj;exact (kQ3.1 ho).1
  have:=nI r.1 0 hA i j (aAd os[i]) (aAd os[j]) hij (by rw [hfts,gM,kQ0 (by omega)];rfl) (by rw [hfts,gM,kQ0 hj2];rfl)
  rw [gN,gN] at this
  simp only [kQ5,kQ0 hj2,kQ0 (show i<os.length by omega),Option.getD_some,Array.toArray_toList]
  exact this
 refine wpIn_region_any hm ?_;have:=oN.sound hT hE (C0:=C0) (M0:=M0) (w0:=w0) (ro:=ro) (n:=n) (Q:=fun e' a' w'=>e'=Ex.normal.toExit∧Sim P C0 M0 w0 r.2 a' w') (fun a' w' h'=>⟨rfl,h'⟩) _ _ _ a _ key (hs.drawn (w.drawn+1))
 have h2:=aDc (a0:=a) _ _ _ _ (by simpa using this) (fun _ _=>rfl)
 exact aMp ds (fun e a' w' h=>⟨h.1.1,a',rfl,h.1.2,h.2 h.1.1⟩) (fun ⟨a',w',h⟩=>by cases h.1.1) _ _ _ _ h2

end
section
def aDa(P:Program)(k:Nat)(c:Code)(st:St)(e:Ex)(st':St):Prop:=∀ (C0:Cx) (M0:Mem) (w0:World) (a:Act) (w:World),M0.length≤k→Sim P C0 M0 w0 st a w→∀ (ds:List Deferred) (ro:Option Nat) (n:Nat),c.wpIn (Fen ro) n P (fun e' a' w'=>e'=e.toExit∧∃ a2,a'=bkD ds a2∧Sim P C0 M0 w0 st' a2 w'∧(∀ i,wrR c i=false→a2.tmps.getD i undef=a.tmps.getD i undef)) (bkD ds a) w
noncomputable def bQb(c:Code)(st:St):Ask (Ex × St):=match c with
 | .region _ ops true=>do
  let st' ← aJd Tp tT EO ops true st
  pure (.normal,st')
 | _=>fail
theorem aDa.fin{k:Nat}{c:Code}{st st':St}{e:Ex}{g:Gh}{o:List OI}{l:List Prop}(h:aKt k g (bQb c st (asg o))=some (e,st',l,[]))(gd:bK (out l)):aDa Tp k c st e st':=by
 unfold aKt at h
 split at h
 ·rename_i e1 st1 s hr
  split at h
  ·rename_i st2 hg
   simp only [Option.some.injEq,Prod.mk.injEq] at h
   obtain ⟨rfl,rfl,rfl,hs⟩:=h;unfold bQb at hr
   split at hr
   ·rename_i id ops
    obtain ⟨st3,s1,h1,k1⟩:=aD hr;obtain ⟨he,rfl⟩:=aJ k1;cases he;intro C0 M0 w0 a w hk hsm ds ro n;refine wpIn_mono (bEm ds aEx aEw mixed h1 (fun p hp=>gd p hp) C0 M0 w0 a w hsm ro n) ?_
    rintro e' a' w' ⟨rfl,a2,rfl,h',hkp⟩;exact ⟨rfl,a2,rfl,eY hk hg h',fun i hi=>hkp i fun o ho e=>by
     unfold wrR at hi
     have:=List.any_eq_false.1 hi o ho;rw [e] at this
     exact this (Nat.beq_refl i)⟩
   ·cases hr
  ·cases h
 ·cases h
end
end KV
end Go.Proofs
