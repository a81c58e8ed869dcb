/- Parts of the proof of JAnyOrder: laws of walks, contracts of functions, plain models. No condition. -/
import Derived.RangeFuncNested
import Derived.Sort.LoopGhostIn
import Derived.Test.YtgejpbmanhlkcaaGreatPJAnyOrderC
set_option linter.unusedVariables false
set_option linter.unusedSimpArgs false
set_option maxRecDepth 100000
namespace Go.Proofs
namespace KV
abbrev kVL (a b c d e f:Nat):List AV:=[.fn 154 [] [.ptr a 0,.ptr b 0,.ptr c 0,.ptr d 0],.fn 156 [] [.ptr e 0],.fn 157 [] [.ptr d 0,.ptr f 0],.fn 160 [] [.ptr d 0],.fn 158 [] [.ptr e 0]]
section
variable {dl:Int}{sk dc:Lqq}

noncomputable abbrev fC:Code:=sub (cd Tryz.f154) [1,1,1,0,1,0,0]
noncomputable abbrev gA:Code:=sub (cd Tryz.f153) [1,0,1,0,0]
abbrev pQ(dl:Int)(sk dc:Lqq):AV := .rp (aH dl sk dc) 0
abbrev cW(dl:Int)(sk dc:Lqq)(ov:PV)(T:Lqb):Mem:=[some (.box 130 [(pQ dl sk dc)]),some (.box 33 [(.p ov)]),some (.box 139 (kVL 4 5 0 2 6 1)),some (.mp (aE T) T.length),some (.box 207 [(.mp 3)]),some (.box 124 [(.fn 146 [(pQ dl sk dc)] [])]),some (.box 209 [(.fn 153 [] [(.ptr 0 0),(.ptr 2 0)])])]
abbrev fU:AV:=(.agg (kVL 4 5 0 2 6 1))
abbrev vB0(dl:Int)(sk dc:Lqq):AO:=.box 130 [.rp (aH dl sk dc) 0]
abbrev vB2:AO:=.box 139 (kVL 4 5 0 2 6 1)
abbrev vB5(dl:Int)(sk dc:Lqq):AO:=.box 124 [.fn 146 [.rp (aH dl sk dc) 0] []]
abbrev vB6:AO:=.box 209 [(.fn 153 [] [(.ptr 0 0),(.ptr 2 0)])]
abbrev vU(dl:Int)(sk dc:Lqq)(ov:PV)(T:Lqb):Upd:=[(0,vB0 dl sk dc),(1,.box 33 [.p ov]),(2,vB2),(3,.mp (aE T) T.length),(4,.box 207 [.mp 3]),(5,vB5 dl sk dc),(6,vB6)]
abbrev pT(dl:Int)(sk dc:Lqq)(ov:PV)(x:List Int)(b:Bool)(T T2:Lqb):Prop:=FMM Tp 154 [.p (.agg (x.map aA)),.ptr 4 0,.ptr 5 0,.ptr 0 0,.ptr 2 0] (cW dl sk dc ov T) (pB b) (cW dl sk dc ov T2)
abbrev bRd(g:Nat)(dl:Int)(sk dc:Lqq)(ov:PV)(x z:List Int)(b:Bool)(T T2:Lqb):Prop:=FMM Tp 153 [.p (.agg (x.map aA)),.fn g [] [],.ptr 0 0,.ptr 2 0] (cW dl sk dc ov T) (.tup [.p (.agg (z.map aA)),.p (blP b)]) (cW dl sk dc ov T2)
abbrev aKy(dl:Int)(sk dc:Lqq)(ov:PV)(x z:List Int)(b:Bool)(T T2:Lqb):Prop:=FMM Tp 156 [.p (.agg (x.map aA)),.ptr 6 0] (cW dl sk dc ov T) (.tup [.p (.agg (z.map aA)),.p (blP b)]) (cW dl sk dc ov T2)
abbrev bRe(dl:Int)(sk dc:Lqq)(ov:PV)(x z:List Int)(b:Bool)(T T2:Lqb):Prop:=FMM Tp 158 [.p (.agg (x.map aA)),.ptr 6 0] (cW dl sk dc ov T) (.tup [.p (.agg (z.map aA)),.p (blP b)]) (cW dl sk dc ov T2)
abbrev bJv(dl:Int)(sk dc:Lqq)(ov:PV)(x:List Int)(b:Bool)(T T2:Lqb):Prop:=FMM Tp 157 [.p (.agg (x.map aA)),.ptr 2 0,.ptr 1 0] (cW dl sk dc ov T) (pB b) (cW dl sk dc ov T2)
abbrev yQ(dl:Int)(sk dc:Lqq)(ov:PV)(x:List Int)(m:Int)(T T2:Lqb):Prop:=FMM Tp 160 [.p (.agg (x.map aA)),.ptr 2 0] (cW dl sk dc ov T) (pI m) (cW dl sk dc ov T2)
theorem bJw{k:Int}(h0:k=8){base:Nat}:FV Tp 155 [(pI k)] base (pB true) []:=by
 exact FV.fin Tryz.func155 rfl (o:=[bT,bT,bT]) (l:=[_,_,_]) (by kernel_rfl) (g3c (dR h0) gn)
theorem bJx{k:Int}{r0:Bool}(h0:k≠8)(er0:r0=(k == (9:Int))){base:Nat}:FV Tp 155 [(pI k)] base (pB r0) []:=by
 subst er0;exact FV.fin Tryz.func155 rfl (o:=[bF,bF,bF]) (l:=[_,_,_]) (by kernel_rfl) (g3c (bI h0) gn)
theorem bJy{k:Int}{r0:Bool}(er0:r0=(k == (6:Int))){base:Nat}:FV Tp 159 [(pI k)] base (pB r0) []:=by
 subst er0;exact FV.fin Tryz.func159 rfl (o:=[]) (l:=[]) (by kernel_rfl) (gn)
theorem bRf{k:Int}(h0:k=4){base:Nat}:FV Tp 148 [(pI k)] base (pB true) []:=by
 exact FV.fin Tryz.func148 rfl (o:=[bT,bT,bT]) (l:=[_,_,_]) (by kernel_rfl) (g3c (dR h0) gn)
theorem bRg{k:Int}{r0:Bool}(h0:k≠4)(er0:r0=(k == (7:Int))){base:Nat}:FV Tp 148 [(pI k)] base (pB r0) []:=by
 subst er0;exact FV.fin Tryz.func148 rfl (o:=[bF,bF,bF]) (l:=[_,_,_]) (by kernel_rfl) (g3c (bI h0) gn)
theorem mT(k:Int){base:Nat}:FV Tp 155 [.p (aA k)] base (pB (cT k)) []:=by
 by_cases h:k=8
 ·rw [show cT k=true by simp [cT,h]];exact bJw h
 ·exact bJx h (by simp [cT,h])
theorem aHk(k:Int){base:Nat}:FV Tp 159 [.p (aA k)] base (pB (k == 6)) []:=bJy rfl
theorem wL(k:Int){base:Nat}:FV Tp 148 [.p (aA k)] base (pB (gC k)) []:=by
 by_cases h:k=4
 ·rw [show gC k=true by simp [gC,h]];exact bRf h
 ·exact bRg h (by simp [gC,h])
theorem bRh{x0 x1 x2 x3 x4 x5:Int}{r0:Bool}(h0:(gC x1)=true)(er0:r0=(decide (x2 > dl))){base:Nat}:FV Tp 146 [(.rp (aH dl sk dc) 0),(.p (dcE x0 x1 x2 x3 x4 x5))] base (pB r0) []:=by
 subst er0;exact FV.fin Tryz.func146 rfl (o:=[.c (pB (gC x1)) [],bT,bT,bT,bT,bT,bT,bT,.x (aA dl),bT,bT]) (l:=[_,_,(aH dl sk dc)[0]? = some (aA dl),_,_,_,_,_,_,_,_]) (by kernel_rfl) (g2c h0 (gc rfl (g7c h0 (gc (fk 1 (wL x1) rfl) gn))))
theorem bRi{x0 x1 x2 x3 x4 x5:Int}(h0:(gC x1)=false){base:Nat}:FV Tp 146 [(.rp (aH dl sk dc) 0),(.p (dcE x0 x1 x2 x3 x4 x5))] base (pB false) []:=by
 exact FV.fin Tryz.func146 rfl (o:=[.c (pB (gC x1)) [],bF,bF,bF,bF,bF,bF,bF,bF,bF]) (l:=[_,_,_,_,_,_,_,_,_,_]) (by kernel_rfl) (g8c h0 (gc h0 (gc (fk 1 (wL x1) rfl) gn)))
theorem aHl(dl:Int)(sk dc:Lqq)(x0 x1 x2 x3 x4 x5:Int){base:Nat}:FV Tp 146 [pQ dl sk dc,.p (.agg [aA x0,aA x1,aA x2,aA x3,aA x4,aA x5])] base (pB (mU dl [x0,x1,x2,x3,x4,x5])) []:=by
 cases h:gC x1 with
 | true=>exact bRh h (by show (gC x1 && decide (dl<x2))=_;rw [h];rfl)
 | false=>rw [show mU dl [x0,x1,x2,x3,x4,x5]=false by show (gC x1 && decide (dl<x2))=_;rw [h];rfl];exact bRi h
abbrev qT(ov:PV)(n:Int)(b:Bool):Prop:=∀ base:Nat,FV Tp 52 [.p ov,.p (aA n)] base (pB b) []
def cQ(dl:Int)(sk:Lqq)(dc:Lqq)(ov:PV)(i:Nat)(l:Lqq)(n:Nat)(te:List (Value × PV))(tk:Nat)(c0:Int)(c1:Int)(c2:Int)(c3:Int)(c4:Int)(c5:Int):St:=⟨fr 35 [(1,(.fn 155 [] [])),(3,(.ptr 2 0)),(6,(.ptr 7 0)),(16,(.p (fS l))),(17,(pI (n:Int))),(18,(pI (i:Int)))],[some (vB0 dl sk dc),some (.box 33 [(.p ov)]),some vB2,some (.mp te tk),some (.box 207 [(.mp 3)]),some (vB5 dl sk dc),some vB6,some (.box 44 [(pI c0),(pI c1),(pI c2),(pI c3),(pI c4),(pI c5)])]⟩
theorem bJz{ov:PV}{T:Lqb}{x0 x1 x2 x3 x4 x5:Int}{y0:Lqq}{i'1:Nat}{l'2:Lqq}{n'3:Nat}{t'4:Lqb}{c0'5 c1'6 c2'7 c3'8 c4'9 c5'10:Int}(h0:cK .i64 (abE dc) (.int .i64 x0))(h1:(dO (abE dc) (.int .i64 x0))=true)(h2:fF (abE dc) (.int .i64 x0)=some (fS y0))(hl3:aI Tp 7 gA (cQ dl sk dc ov 0 y0 y0.length (aE T) T.length (0:Int) (0:Int) (0:Int) (0:Int) (0:Int) (0:Int)) (.exit 0) (cQ dl sk dc ov i'1 l'2 n'3 (aE t'4) t'4.length c0'5 c1'6 c2'7 c3'8 c4'9 c5'10)):FMM Tp 153 [(.p (dcE x0 x1 x2 x3 x4 x5)),(.fn 155 [] []),(.ptr 0 0),(.ptr 2 0)] (cW dl sk dc ov T) (.tup [(.p (dcE 0 0 0 0 0 0)),(pB false)]) (cW dl sk dc ov t'4):=by
 exact FMM.fin (k:=7) (g:=⟨[],[],[],[]⟩) rfl Tryz.func153 rfl (o:=[.x (.mp (abE dc)),bT,.x (fS y0),.k 1 ⟨(rng [(0,1),(2,1),(4,2),(7,9),(19,15)]),[8],[],[]⟩ (.exit 0) (cQ dl sk dc ov i'1 l'2 n'3 (aE t'4) t'4.length c0'5 c1'6 c2'7 c3'8 c4'9 c5'10)]) (l:=[_,_,_,_,(aH dl sk dc)[4]? = some (.mp (abE dc))]) (by kernel_rfl) (gc hl3.code (gc h2 (gc h1 (gc h0 (gc rfl gn)))))
theorem bKa{ov:PV}{T:Lqb}{x0 x1 x2 x3 x4 x5:Int}{y0:Lqq}{i'1:Nat}{l'2:Lqq}{n'3:Nat}{t'4:Lqb}{c0'5 c1'6 c2'7 c3'8 c4'9 c5'10:Int}(h0:cK .i64 (abE dc) (.int .i64 x0))(h1:(dO (abE dc) (.int .i64 x0))=true)(h2:fF (abE dc) (.int .i64 x0)=some (fS y0))(hl3:aI Tp 7 gA (cQ dl sk dc ov 0 y0 y0.length (aE T) T.length (0:Int) (0:Int) (0:Int) (0:Int) (0:Int) (0:Int)) .ret (cF (cQ dl sk dc ov i'1 l'2 n'3 (aE t'4) t'4.length c0'5 c1'6 c2'7 c3'8 c4'9 c5'10) [(7,(.kb true))])):FMM Tp 153 [(.p (dcE x0 x1 x2 x3 x4 x5)),(.fn 155 [] []),(.ptr 0 0),(.ptr 2 0)] (cW dl sk dc ov T) (.tup [(.p (dcE c0'5 c1'6 c2'7 c3'8 c4'9 c5'10)),(pB true)]) (cW dl sk dc ov t'4):=by
 exact FMM.fin (k:=7) (g:=⟨[],[],[],[]⟩) rfl Tryz.func153 rfl (o:=[.x (.mp (abE dc)),bT,.x (fS y0),.k 1 ⟨(rng [(0,1),(2,1),(4,2),(7,9),(19,15)]),[8],[],[]⟩ .ret (cF (cQ dl sk dc ov i'1 l'2 n'3 (aE t'4) t'4.length c0'5 c1'6 c2'7 c3'8 c4'9 c5'10) [(7,(.kb true))])]) (l:=[_,_,_,_,(aH dl sk dc)[4]? = some (.mp (abE dc))]) (by kernel_rfl) (gc hl3.code (gc h2 (gc h1 (gc h0 (gc rfl gn)))))
theorem bKb{ov:PV}{T:Lqb}{x0 x1 x2 x3 x4 x5:Int}{i'0:Nat}{l'1:Lqq}{n'2:Nat}{t'3:Lqb}{c0'4 c1'5 c2'6 c3'7 c4'8 c5'9:Int}(h0:cK .i64 (abE dc) (.int .i64 x0))(h1:(dO (abE dc) (.int .i64 x0))=false)(hl2:aI Tp 7 gA (cQ dl sk dc ov 0 ([]:Lqq) 0 (aE T) T.length (0:Int) (0:Int) (0:Int) (0:Int) (0:Int) (0:Int)) (.exit 0) (cQ dl sk dc ov i'0 l'1 n'2 (aE t'3) t'3.length c0'4 c1'5 c2'6 c3'7 c4'8 c5'9)):FMM Tp 153 [(.p (dcE x0 x1 x2 x3 x4 x5)),(.fn 155 [] []),(.ptr 0 0),(.ptr 2 0)] (cW dl sk dc ov T) (.tup [(.p (dcE 0 0 0 0 0 0)),(pB false)]) (cW dl sk dc ov t'3):=by
 exact FMM.fin (k:=7) (g:=⟨[],[],[],[]⟩) rfl Tryz.func153 rfl (o:=[.x (.mp (abE dc)),bF,.k 1 ⟨(rng [(0,1),(2,1),(4,2),(7,9),(19,15)]),[8],[],[(16,99999)]⟩ (.exit 0) (cQ dl sk dc ov i'0 l'1 n'2 (aE t'3) t'3.length c0'4 c1'5 c2'6 c3'7 c4'8 c5'9)]) (l:=[_,_,_,(aH dl sk dc)[4]? = some (.mp (abE dc))]) (by kernel_rfl) (gc hl2.code (gc h1 (gc h0 (gc rfl gn))))
theorem aPg{ov:PV}{i:Nat}{l:Lqq}{n:Nat}{t:Lqb}{c0 c1 c2 c3 c4 c5 y100 y101 y102 y103 y104 y105:Int}{b106:Bool}{T107 t':Lqb}(h0:(i:Int)<(n:Int))(h1:l[i]? = some [y100,y101,y102,y103,y104,y105])(h2:uni 6 l)(h3:(cT y101)=true)(h4:pT dl sk dc ov [y100,y101,y102,y103,y104,y105] b106 t T107)(h5:b106=true)(et'e:aE t'=(aE T107))(et'k:t'.length=T107.length):aC Tp 7 gA (cQ dl sk dc ov i l n (aE t) t.length c0 c1 c2 c3 c4 c5) .ret (cF (cQ dl sk dc ov i l n (aE t') t'.length y100 y101 y102 y103 y104 y105) [(7,(.kb true))]):=by
 have raw:aC Tp 7 gA (cQ dl sk dc ov i l n (aE t) t.length c0 c1 c2 c3 c4 c5) .ret (cF (cQ dl sk dc ov i l n (aE T107) T107.length y100 y101 y102 y103 y104 y105) [(7,(.kb true))]):=aC.fin (g:=⟨(rng [(0,1),(2,1),(4,2),(8,8),(19,15)]),[7],[],[]⟩) (o:=[bT,.x (dcE y100 y101 y102 y103 y104 y105),.c (pB (cT y101)) [],bT,bT,bT,bT,.c (pB b106) (vU dl sk dc ov T107),bT,bT]) (l:=[_,_,FC Tp 154 [(.p (dcE y100 y101 y102 y103 y104 y105)),(.ptr 4 0),(.ptr 5 0),(.ptr 0 0),(.ptr 2 0)] [(4,(.box 207 [(.mp 3)])),(5,(vB5 dl sk dc)),(0,(vB0 dl sk dc)),(2,vB2),(3,(.mp (aE t) t.length)),(6,vB6),(1,(.box 33 [(.p ov)]))] 9 (pB b106) (vU dl sk dc ov T107),_,_,_,_,_,_,_,0≤(i:Int)∧(i:Int)<(l.length:Int)∧(i*6)<(l.flatten.map aA).length,_]) (by kernel_rfl) (gc h5 (gc h3 (gc (FMM.fc (ids:=[0,1,2,3,4,5,6]) h4 (by kernel_rfl)) (g4c h3 (gc (fk 9 (mT y101) rfl) (gc (aS (i:=i) h2 h1) (gc (bH (i:=i) h2 h1) (gc (bR (k:=6) (i:=(i:Int)) (by decide) h2 (kQ2 _) h1) (gc (aY h0) gn)))))))))
 exact raw.cast (by rw [et'e,et'k])
theorem aPh{ov:PV}{i:Nat}{l:Lqq}{n:Nat}{t:Lqb}{c0 c1 c2 c3 c4 c5 y100 y101 y102 y103 y104 y105:Int}{b106:Bool}{T107:Lqb}{i':Nat}{t':Lqb}(h0:(i:Int)<(n:Int))(h1:l[i]? = some [y100,y101,y102,y103,y104,y105])(h2:uni 6 l)(h3:(cT y101)=true)(h4:pT dl sk dc ov [y100,y101,y102,y103,y104,y105] b106 t T107)(h5:b106=false)(h6:inR (((i+1):Nat):Int))(ei':i'=(i+1))(et'e:aE t'=(aE T107))(et'k:t'.length=T107.length):aC Tp 7 gA (cQ dl sk dc ov i l n (aE t) t.length c0 c1 c2 c3 c4 c5) .normal (cQ dl sk dc ov i' l n (aE t') t'.length c0 c1 c2 c3 c4 c5):=by
 subst ei';have raw:aC Tp 7 gA (cQ dl sk dc ov i l n (aE t) t.length c0 c1 c2 c3 c4 c5) .normal (cQ dl sk dc ov (i+1) l n (aE T107) T107.length c0 c1 c2 c3 c4 c5):=aC.fin (g:=⟨(rng [(0,1),(2,1),(4,2),(7,9),(19,15)]),[7],[],[]⟩) (o:=[bT,.x (dcE y100 y101 y102 y103 y104 y105),.c (pB (cT y101)) [],bT,bT,bT,bT,.c (pB b106) (vU dl sk dc ov T107),bT,bF]) (l:=[_,_,_,FC Tp 154 [(.p (dcE y100 y101 y102 y103 y104 y105)),(.ptr 4 0),(.ptr 5 0),(.ptr 0 0),(.ptr 2 0)] [(4,(.box 207 [(.mp 3)])),(5,(vB5 dl sk dc)),(0,(vB0 dl sk dc)),(2,vB2),(3,(.mp (aE t) t.length)),(6,vB6),(1,(.box 33 [(.p ov)]))] 9 (pB b106) (vU dl sk dc ov T107),_,_,_,_,_,_,_,0≤(i:Int)∧(i:Int)<(l.length:Int)∧(i*6)<(l.flatten.map aA).length,_]) (by kernel_rfl) (gc h6 (gc h5 (gc h3 (gc (FMM.fc (ids:=[0,1,2,3,4,5,6]) h4 (by kernel_rfl)) (g4c h3 (gc (fk 9 (mT y101) rfl) (gc (aS (i:=i) h2 h1) (gc (bH (i:=i) h2 h1) (gc (bR (k:=6) (i:=(i:Int)) (by decide) h2 (kQ2 _) h1) (gc (aY h0) gn))))))))))
 exact raw.cast (by rw [et'e,et'k])
theorem aPi{ov:PV}{i:Nat}{l:Lqq}{n:Nat}{t:Lqb}{c0 c1 c2 c3 c4 c5 y100 y101 y102 y103 y104 y105:Int}{i':Nat}(h0:(i:Int)<(n:Int))(h1:l[i]? = some [y100,y101,y102,y103,y104,y105])(h2:uni 6 l)(h3:(cT y101)=false)(h4:inR (((i+1):Nat):Int))(ei':i'=(i+1)):aC Tp 7 gA (cQ dl sk dc ov i l n (aE t) t.length c0 c1 c2 c3 c4 c5) .normal (cQ dl sk dc ov i' l n (aE t) t.length c0 c1 c2 c3 c4 c5):=by
 subst ei';exact aC.fin (g:=⟨(rng [(0,1),(2,1),(4,2),(7,9),(19,15)]),[7],[],[]⟩) (o:=[bT,.x (dcE y100 y101 y102 y103 y104 y105),.c (pB (cT y101)) [],bF,bF,bF,bF,bF]) (l:=[_,_,_,_,_,_,_,_,_,0≤(i:Int)∧(i:Int)<(l.length:Int)∧(i*6)<(l.flatten.map aA).length,_]) (by kernel_rfl) (gc h4 (g5c h3 (gc (fk 9 (mT y101) rfl) (gc (aS (i:=i) h2 h1) (gc (bH (i:=i) h2 h1) (gc (bR (k:=6) (i:=(i:Int)) (by decide) h2 (kQ2 _) h1) (gc (aY h0) gn)))))))
theorem aPj{ov:PV}{i:Nat}{l:Lqq}{n:Nat}{t:Lqb}{c0 c1 c2 c3 c4 c5:Int}(h0:(n:Int)≤(i:Int)):aC Tp 7 gA (cQ dl sk dc ov i l n (aE t) t.length c0 c1 c2 c3 c4 c5) (.exit 0) (cQ dl sk dc ov i l n (aE t) t.length c0 c1 c2 c3 c4 c5):=by
 exact aC.fin (g:=⟨(rng [(0,1),(2,1),(4,2),(7,9),(19,15)]),[7],[],[]⟩) (o:=[bF]) (l:=[_]) (by kernel_rfl) (gc (bG h0) gn)
def cR(dl:Int)(sk:Lqq)(dc:Lqq)(ov:PV)(i:Nat)(l:Lqq)(n:Nat)(te:List (Value × PV))(tk:Nat)(c0:Int)(c1:Int)(c2:Int)(c3:Int)(c4:Int)(c5:Int):St:=⟨fr 35 [(1,(.fn 159 [] [])),(3,(.ptr 2 0)),(6,(.ptr 7 0)),(16,(.p (fS l))),(17,(pI (n:Int))),(18,(pI (i:Int)))],[some (vB0 dl sk dc),some (.box 33 [(.p ov)]),some vB2,some (.mp te tk),some (.box 207 [(.mp 3)]),some (vB5 dl sk dc),some vB6,some (.box 44 [(pI c0),(pI c1),(pI c2),(pI c3),(pI c4),(pI c5)])]⟩
theorem bKc{ov:PV}{T:Lqb}{x0 x1 x2 x3 x4 x5:Int}{y0:Lqq}{i'1:Nat}{l'2:Lqq}{n'3:Nat}{t'4:Lqb}{c0'5 c1'6 c2'7 c3'8 c4'9 c5'10:Int}(h0:cK .i64 (abE dc) (.int .i64 x0))(h1:(dO (abE dc) (.int .i64 x0))=true)(h2:fF (abE dc) (.int .i64 x0)=some (fS y0))(hl3:aI Tp 7 gA (cR dl sk dc ov 0 y0 y0.length (aE T) T.length (0:Int) (0:Int) (0:Int) (0:Int) (0:Int) (0:Int)) (.exit 0) (cR dl sk dc ov i'1 l'2 n'3 (aE t'4) t'4.length c0'5 c1'6 c2'7 c3'8 c4'9 c5'10)):FMM Tp 153 [(.p (dcE x0 x1 x2 x3 x4 x5)),(.fn 159 [] []),(.ptr 0 0),(.ptr 2 0)] (cW dl sk dc ov T) (.tup [(.p (dcE 0 0 0 0 0 0)),(pB false)]) (cW dl sk dc ov t'4):=by
 exact FMM.fin (k:=7) (g:=⟨[],[],[],[]⟩) rfl Tryz.func153 rfl (o:=[.x (.mp (abE dc)),bT,.x (fS y0),.k 1 ⟨(rng [(0,1),(2,1),(4,2),(7,9),(19,15)]),[8],[],[]⟩ (.exit 0) (cR dl sk dc ov i'1 l'2 n'3 (aE t'4) t'4.length c0'5 c1'6 c2'7 c3'8 c4'9 c5'10)]) (l:=[_,_,_,_,(aH dl sk dc)[4]? = some (.mp (abE dc))]) (by kernel_rfl) (gc hl3.code (gc h2 (gc h1 (gc h0 (gc rfl gn)))))
theorem bKd{ov:PV}{T:Lqb}{x0 x1 x2 x3 x4 x5:Int}{y0:Lqq}{i'1:Nat}{l'2:Lqq}{n'3:Nat}{t'4:Lqb}{c0'5 c1'6 c2'7 c3'8 c4'9 c5'10:Int}(h0:cK .i64 (abE dc) (.int .i64 x0))(h1:(dO (abE dc) (.int .i64 x0))=true)(h2:fF (abE dc) (.int .i64 x0)=some (fS y0))(hl3:aI Tp 7 gA (cR dl sk dc ov 0 y0 y0.length (aE T) T.length (0:Int) (0:Int) (0:Int) (0:Int) (0:Int) (0:Int)) .ret (cF (cR dl sk dc ov i'1 l'2 n'3 (aE t'4) t'4.length c0'5 c1'6 c2'7 c3'8 c4'9 c5'10) [(7,(.kb true))])):FMM Tp 153 [(.p (dcE x0 x1 x2 x3 x4 x5)),(.fn 159 [] []),(.ptr 0 0),(.ptr 2 0)] (cW dl sk dc ov T) (.tup [(.p (dcE c0'5 c1'6 c2'7 c3'8 c4'9 c5'10)),(pB true)]) (cW dl sk dc ov t'4):=by
 exact FMM.fin (k:=7) (g:=⟨[],[],[],[]⟩) rfl Tryz.func153 rfl (o:=[.x (.mp (abE dc)),bT,.x (fS y0),.k 1 ⟨(rng [(0,1),(2,1),(4,2),(7,9),(19,15)]),[8],[],[]⟩ .ret (cF (cR dl sk dc ov i'1 l'2 n'3 (aE t'4) t'4.length c0'5 c1'6 c2'7 c3'8 c4'9 c5'10) [(7,(.kb true))])]) (l:=[_,_,_,_,(aH dl sk dc)[4]? = some (.mp (abE dc))]) (by kernel_rfl) (gc hl3.code (gc h2 (gc h1 (gc h0 (gc rfl gn)))))
theorem bKe{ov:PV}{T:Lqb}{x0 x1 x2 x3 x4 x5:Int}{i'0:Nat}{l'1:Lqq}{n'2:Nat}{t'3:Lqb}{c0'4 c1'5 c2'6 c3'7 c4'8 c5'9:Int}(h0:cK .i64 (abE dc) (.int .i64 x0))(h1:(dO (abE dc) (.int .i64 x0))=false)(hl2:aI Tp 7 gA (cR dl sk dc ov 0 ([]:Lqq) 0 (aE T) T.length (0:Int) (0:Int) (0:Int) (0:Int) (0:Int) (0:Int)) (.exit 0) (cR dl sk dc ov i'0 l'1 n'2 (aE t'3) t'3.length c0'4 c1'5 c2'6 c3'7 c4'8 c5'9)):FMM Tp 153 [(.p (dcE x0 x1 x2 x3 x4 x5)),(.fn 159 [] []),(.ptr 0 0),(.ptr 2 0)] (cW dl sk dc ov T) (.tup [(.p (dcE 0 0 0 0 0 0)),(pB false)]) (cW dl sk dc ov t'3):=by
 exact FMM.fin (k:=7) (g:=⟨[],[],[],[]⟩) rfl Tryz.func153 rfl (o:=[.x (.mp (abE dc)),bF,.k 1 ⟨(rng [(0,1),(2,1),(4,2),(7,9),(19,15)]),[8],[],[(16,99999)]⟩ (.exit 0) (cR dl sk dc ov i'0 l'1 n'2 (aE t'3) t'3.length c0'4 c1'5 c2'6 c3'7 c4'8 c5'9)]) (l:=[_,_,_,(aH dl sk dc)[4]? = some (.mp (abE dc))]) (by kernel_rfl) (gc hl2.code (gc h1 (gc h0 (gc rfl gn))))
theorem aPk{ov:PV}{i:Nat}{l:Lqq}{n:Nat}{t:Lqb}{c0 c1 c2 c3 c4 c5 y100 y101 y102 y103 y104 y105:Int}{b106:Bool}{T107 t':Lqb}(h0:(i:Int)<(n:Int))(h1:l[i]? = some [y100,y101,y102,y103,y104,y105])(h2:uni 6 l)(h3:(y101 == 6)=true)(h4:pT dl sk dc ov [y100,y101,y102,y103,y104,y105] b106 t T107)(h5:b106=true)(et'e:aE t'=(aE T107))(et'k:t'.length=T107.length):aC Tp 7 gA (cR dl sk dc ov i l n (aE t) t.length c0 c1 c2 c3 c4 c5) .ret (cF (cR dl sk dc ov i l n (aE t') t'.length y100 y101 y102 y103 y104 y105) [(7,(.kb true))]):=by
 have raw:aC Tp 7 gA (cR dl sk dc ov i l n (aE t) t.length c0 c1 c2 c3 c4 c5) .ret (cF (cR dl sk dc ov i l n (aE T107) T107.length y100 y101 y102 y103 y104 y105) [(7,(.kb true))]):=aC.fin (g:=⟨(rng [(0,1),(2,1),(4,2),(8,8),(19,15)]),[7],[],[]⟩) (o:=[bT,.x (dcE y100 y101 y102 y103 y104 y105),.c (pB (y101 == 6)) [],bT,bT,bT,bT,.c (pB b106) (vU dl sk dc ov T107),bT,bT]) (l:=[_,_,FC Tp 154 [(.p (dcE y100 y101 y102 y103 y104 y105)),(.ptr 4 0),(.ptr 5 0),(.ptr 0 0),(.ptr 2 0)] [(4,(.box 207 [(.mp 3)])),(5,(vB5 dl sk dc)),(0,(vB0 dl sk dc)),(2,vB2),(3,(.mp (aE t) t.length)),(6,vB6),(1,(.box 33 [(.p ov)]))] 9 (pB b106) (vU dl sk dc ov T107),_,_,_,_,_,_,_,0≤(i:Int)∧(i:Int)<(l.length:Int)∧(i*6)<(l.flatten.map aA).length,_]) (by kernel_rfl) (gc h5 (gc h3 (gc (FMM.fc (ids:=[0,1,2,3,4,5,6]) h4 (by kernel_rfl)) (g4c h3 (gc (fk 9 (aHk y101) rfl) (gc (aS (i:=i) h2 h1) (gc (bH (i:=i) h2 h1) (gc (bR (k:=6) (i:=(i:Int)) (by decide) h2 (kQ2 _) h1) (gc (aY h0) gn)))))))))
 exact raw.cast (by rw [et'e,et'k])
theorem aPl{ov:PV}{i:Nat}{l:Lqq}{n:Nat}{t:Lqb}{c0 c1 c2 c3 c4 c5 y100 y101 y102 y103 y104 y105:Int}{b106:Bool}{T107:Lqb}{i':Nat}{t':Lqb}(h0:(i:Int)<(n:Int))(h1:l[i]? = some [y100,y101,y102,y103,y104,y105])(h2:uni 6 l)(h3:(y101 == 6)=true)(h4:pT dl sk dc ov [y100,y101,y102,y103,y104,y105] b106 t T107)(h5:b106=false)(h6:inR (((i+1):Nat):Int))(ei':i'=(i+1))(et'e:aE t'=(aE T107))(et'k:t'.length=T107.length):aC Tp 7 gA (cR dl sk dc ov i l n (aE t) t.length c0 c1 c2 c3 c4 c5) .normal (cR dl sk dc ov i' l n (aE t') t'.length c0 c1 c2 c3 c4 c5):=by
 subst ei';have raw:aC Tp 7 gA (cR dl sk dc ov i l n (aE t) t.length c0 c1 c2 c3 c4 c5) .normal (cR dl sk dc ov (i+1) l n (aE T107) T107.length c0 c1 c2 c3 c4 c5):=aC.fin (g:=⟨(rng [(0,1),(2,1),(4,2),(7,9),(19,15)]),[7],[],[]⟩) (o:=[bT,.x (dcE y100 y101 y102 y103 y104 y105),.c (pB (y101 == 6)) [],bT,bT,bT,bT,.c (pB b106) (vU dl sk dc ov T107),bT,bF]) (l:=[_,_,_,FC Tp 154 [(.p (dcE y100 y101 y102 y103 y104 y105)),(.ptr 4 0),(.ptr 5 0),(.ptr 0 0),(.ptr 2 0)] [(4,(.box 207 [(.mp 3)])),(5,(vB5 dl sk dc)),(0,(vB0 dl sk dc)),(2,vB2),(3,(.mp (aE t) t.length)),(6,vB6),(1,(.box 33 [(.p ov)]))] 9 (pB b106) (vU dl sk dc ov T107),_,_,_,_,_,_,_,0≤(i:Int)∧(i:Int)<(l.length:Int)∧(i*6)<(l.flatten.map aA).length,_]) (by kernel_rfl) (gc h6 (gc h5 (gc h3 (gc (FMM.fc (ids:=[0,1,2,3,4,5,6]) h4 (by kernel_rfl)) (g4c h3 (gc (fk 9 (aHk y101) rfl) (gc (aS (i:=i) h2 h1) (gc (bH (i:=i) h2 h1) (gc (bR (k:=6) (i:=(i:Int)) (by decide) h2 (kQ2 _) h1) (gc (aY h0) gn))))))))))
 exact raw.cast (by rw [et'e,et'k])
theorem aPm{ov:PV}{i:Nat}{l:Lqq}{n:Nat}{t:Lqb}{c0 c1 c2 c3 c4 c5 y100 y101 y102 y103 y104 y105:Int}{i':Nat}(h0:(i:Int)<(n:Int))(h1:l[i]? = some [y100,y101,y102,y103,y104,y105])(h2:uni 6 l)(h3:(y101 == 6)=false)(h4:inR (((i+1):Nat):Int))(ei':i'=(i+1)):aC Tp 7 gA (cR dl sk dc ov i l n (aE t) t.length c0 c1 c2 c3 c4 c5) .normal (cR dl sk dc ov i' l n (aE t) t.length c0 c1 c2 c3 c4 c5):=by
 subst ei';exact aC.fin (g:=⟨(rng [(0,1),(2,1),(4,2),(7,9),(19,15)]),[7],[],[]⟩) (o:=[bT,.x (dcE y100 y101 y102 y103 y104 y105),.c (pB (y101 == 6)) [],bF,bF,bF,bF,bF]) (l:=[_,_,_,_,_,_,_,_,_,0≤(i:Int)∧(i:Int)<(l.length:Int)∧(i*6)<(l.flatten.map aA).length,_]) (by kernel_rfl) (gc h4 (g5c h3 (gc (fk 9 (aHk y101) rfl) (gc (aS (i:=i) h2 h1) (gc (bH (i:=i) h2 h1) (gc (bR (k:=6) (i:=(i:Int)) (by decide) h2 (kQ2 _) h1) (gc (aY h0) gn)))))))
theorem aPn{ov:PV}{i:Nat}{l:Lqq}{n:Nat}{t:Lqb}{c0 c1 c2 c3 c4 c5:Int}(h0:(n:Int)≤(i:Int)):aC Tp 7 gA (cR dl sk dc ov i l n (aE t) t.length c0 c1 c2 c3 c4 c5) (.exit 0) (cR dl sk dc ov i l n (aE t) t.length c0 c1 c2 c3 c4 c5):=by
 exact aC.fin (g:=⟨(rng [(0,1),(2,1),(4,2),(7,9),(19,15)]),[7],[],[]⟩) (o:=[bF]) (l:=[_]) (by kernel_rfl) (gc (bG h0) gn)
def bV(dl:Int)(sk:Lqq)(dc:Lqq)(ov:PV)(x0:Int)(x1:Int)(x2:Int)(x3:Int)(x4:Int)(x5:Int)(is:Bool)(i:Nat)(l:Lqq)(n:Nat)(te:List (Value × PV))(tk:Nat):St:=⟨fr 79 [(1,(.ptr 4 0)),(4,(.ptr 2 0)),(5,(.ptr 7 0)),(6,(.kb false)),(9,(pB is)),(32,(.p (fS l))),(33,(pI (n:Int))),(34,(pI (i:Int)))],[some (vB0 dl sk dc),some (.box 33 [(.p ov)]),some vB2,some (.mp te tk),some (.box 207 [(.mp 3)]),some (vB5 dl sk dc),some vB6,some (.box 44 [(pI x0),(pI x1),(pI x2),(pI x3),(pI x4),(pI x5)])]⟩
theorem bRj{ov:PV}{T:Lqb}{x0 x1 x2 x3 x4 x5:Int}{y0:Bool}(h0:cK .i64 (aE T) (.int .i64 x0))(h1:(dO (aE T) (.int .i64 x0))=true)(h2:fF (aE T) (.int .i64 x0)=some (blP y0)):FMM Tp 154 [(.p (dcE x0 x1 x2 x3 x4 x5)),(.ptr 4 0),(.ptr 5 0),(.ptr 0 0),(.ptr 2 0)] (cW dl sk dc ov T) (pB y0) (cW dl sk dc ov T):=by
 exact FMM.fin (k:=7) (g:=⟨[],[],[],[]⟩) rfl Tryz.func154 rfl (o:=[bT,.x (blP y0)]) (l:=[_,_,_]) (by kernel_rfl) (gc h2 (gc h1 (gc h0 gn)))
theorem bRk{ov:PV}{T:Lqb}{x0 x1 x2 x3 x4 x5:Int}{y0:Lqq}{is'1:Bool}{i'2:Nat}{l'3:Lqq}{n'4:Nat}{t'5:Lqb}(h0:cK .i64 (aE T) (.int .i64 x0))(h1:(dO (aE T) (.int .i64 x0))=false)(h2:cK .i64 (abE dc) (.int .i64 x0))(h3:(dO (abE dc) (.int .i64 x0))=true)(h4:fF (abE dc) (.int .i64 x0)=some (fS y0))(hl5:aI Tp 7 fC (bV dl sk dc ov x0 x1 x2 x3 x4 x5 (!(mU dl [x0,x1,x2,x3,x4,x5])) 0 y0 y0.length (aE T) T.length) (.exit 0) (bV dl sk dc ov x0 x1 x2 x3 x4 x5 is'1 i'2 l'3 n'4 (aE t'5) t'5.length))(h6:cK .i64 (aE t'5) (.int .i64 x0))(h7:(dO (aE t'5) (.int .i64 x0))=true):FMM Tp 154 [(.p (dcE x0 x1 x2 x3 x4 x5)),(.ptr 4 0),(.ptr 5 0),(.ptr 0 0),(.ptr 2 0)] (cW dl sk dc ov T) (pB is'1) [some (vB0 dl sk dc),some (.box 33 [(.p ov)]),some vB2,some (.mp (oK (aE t'5) (.int .i64 x0) (blP is'1)) t'5.length),some (.box 207 [(.mp 3)]),some (vB5 dl sk dc),some vB6]:=by
 exact FMM.fin (k:=7) (g:=⟨[],[],[],[]⟩) rfl Tryz.func154 rfl (o:=[bF,.c (pB (mU dl [x0,x1,x2,x3,x4,x5])) [],.x (.mp (abE dc)),bT,.x (fS y0),.k 1 ⟨(rng [(0,1),(2,2),(7,2),(10,22),(35,39)]),[7],[],[]⟩ (.exit 0) (bV dl sk dc ov x0 x1 x2 x3 x4 x5 is'1 i'2 l'3 n'4 (aE t'5) t'5.length),bT]) (l:=[_,_,_,_,_,_,(aH dl sk dc)[4]? = some (.mp (abE dc)),_,_,_]) (by kernel_rfl) (gc h7 (gc h6 (gc hl5.code (gc h4 (gc h3 (gc h2 (gc rfl (gc (fk 8 (aHl dl sk dc x0 x1 x2 x3 x4 x5) rfl) (gc h1 (gc h0 gn))))))))))
theorem bRl{ov:PV}{T:Lqb}{x0 x1 x2 x3 x4 x5:Int}{y0:Lqq}{is'1:Bool}{i'2:Nat}{l'3:Lqq}{n'4:Nat}{t'5:Lqb}(h0:cK .i64 (aE T) (.int .i64 x0))(h1:(dO (aE T) (.int .i64 x0))=false)(h2:cK .i64 (abE dc) (.int .i64 x0))(h3:(dO (abE dc) (.int .i64 x0))=true)(h4:fF (abE dc) (.int .i64 x0)=some (fS y0))(hl5:aI Tp 7 fC (bV dl sk dc ov x0 x1 x2 x3 x4 x5 (!(mU dl [x0,x1,x2,x3,x4,x5])) 0 y0 y0.length (aE T) T.length) (.exit 0) (bV dl sk dc ov x0 x1 x2 x3 x4 x5 is'1 i'2 l'3 n'4 (aE t'5) t'5.length))(h6:cK .i64 (aE t'5) (.int .i64 x0))(h7:(dO (aE t'5) (.int .i64 x0))=false):FMM Tp 154 [(.p (dcE x0 x1 x2 x3 x4 x5)),(.ptr 4 0),(.ptr 5 0),(.ptr 0 0),(.ptr 2 0)] (cW dl sk dc ov T) (pB is'1) [some (vB0 dl sk dc),some (.box 33 [(.p ov)]),some vB2,some (.mp ((aE t'5)++[((.int .i64 x0),(blP is'1))]) (t'5.length+1)),some (.box 207 [(.mp 3)]),some (vB5 dl sk dc),some vB6]:=by
 exact FMM.fin (k:=7) (g:=⟨[],[],[],[]⟩) rfl Tryz.func154 rfl (o:=[bF,.c (pB (mU dl [x0,x1,x2,x3,x4,x5])) [],.x (.mp (abE dc)),bT,.x (fS y0),.k 1 ⟨(rng [(0,1),(2,2),(7,2),(10,22),(35,39)]),[7],[],[]⟩ (.exit 0) (bV dl sk dc ov x0 x1 x2 x3 x4 x5 is'1 i'2 l'3 n'4 (aE t'5) t'5.length),bF]) (l:=[_,_,_,_,_,_,(aH dl sk dc)[4]? = some (.mp (abE dc)),_,_,_]) (by kernel_rfl) (gc h7 (gc h6 (gc hl5.code (gc h4 (gc h3 (gc h2 (gc rfl (gc (fk 8 (aHl dl sk dc x0 x1 x2 x3 x4 x5) rfl) (gc h1 (gc h0 gn))))))))))
theorem bRm{ov:PV}{T:Lqb}{x0 x1 x2 x3 x4 x5:Int}{is'0:Bool}{i'1:Nat}{l'2:Lqq}{n'3:Nat}{t'4:Lqb}(h0:cK .i64 (aE T) (.int .i64 x0))(h1:(dO (aE T) (.int .i64 x0))=false)(h2:cK .i64 (abE dc) (.int .i64 x0))(h3:(dO (abE dc) (.int .i64 x0))=false)(hl4:aI Tp 7 fC (bV dl sk dc ov x0 x1 x2 x3 x4 x5 (!(mU dl [x0,x1,x2,x3,x4,x5])) 0 ([]:Lqq) 0 (aE T) T.length) (.exit 0) (bV dl sk dc ov x0 x1 x2 x3 x4 x5 is'0 i'1 l'2 n'3 (aE t'4) t'4.length))(h5:cK .i64 (aE t'4) (.int .i64 x0))(h6:(dO (aE t'4) (.int .i64 x0))=true):FMM Tp 154 [(.p (dcE x0 x1 x2 x3 x4 x5)),(.ptr 4 0),(.ptr 5 0),(.ptr 0 0),(.ptr 2 0)] (cW dl sk dc ov T) (pB is'0) [some (vB0 dl sk dc),some (.box 33 [(.p ov)]),some vB2,some (.mp (oK (aE t'4) (.int .i64 x0) (blP is'0)) t'4.length),some (.box 207 [(.mp 3)]),some (vB5 dl sk dc),some vB6]:=by
 exact FMM.fin (k:=7) (g:=⟨[],[],[],[]⟩) rfl Tryz.func154 rfl (o:=[bF,.c (pB (mU dl [x0,x1,x2,x3,x4,x5])) [],.x (.mp (abE dc)),bF,.k 1 ⟨(rng [(0,1),(2,2),(7,2),(10,22),(35,39)]),[7],[],[(32,99999)]⟩ (.exit 0) (bV dl sk dc ov x0 x1 x2 x3 x4 x5 is'0 i'1 l'2 n'3 (aE t'4) t'4.length),bT]) (l:=[_,_,_,_,_,(aH dl sk dc)[4]? = some (.mp (abE dc)),_,_,_]) (by kernel_rfl) (gc h6 (gc h5 (gc hl4.code (gc h3 (gc h2 (gc rfl (gc (fk 8 (aHl dl sk dc x0 x1 x2 x3 x4 x5) rfl) (gc h1 (gc h0 gn)))))))))
theorem bRn{ov:PV}{T:Lqb}{x0 x1 x2 x3 x4 x5:Int}{is'0:Bool}{i'1:Nat}{l'2:Lqq}{n'3:Nat}{t'4:Lqb}(h0:cK .i64 (aE T) (.int .i64 x0))(h1:(dO (aE T) (.int .i64 x0))=false)(h2:cK .i64 (abE dc) (.int .i64 x0))(h3:(dO (abE dc) (.int .i64 x0))=false)(hl4:aI Tp 7 fC (bV dl sk dc ov x0 x1 x2 x3 x4 x5 (!(mU dl [x0,x1,x2,x3,x4,x5])) 0 ([]:Lqq) 0 (aE T) T.length) (.exit 0) (bV dl sk dc ov x0 x1 x2 x3 x4 x5 is'0 i'1 l'2 n'3 (aE t'4) t'4.length))(h5:cK .i64 (aE t'4) (.int .i64 x0))(h6:(dO (aE t'4) (.int .i64 x0))=false):FMM Tp 154 [(.p (dcE x0 x1 x2 x3 x4 x5)),(.ptr 4 0),(.ptr 5 0),(.ptr 0 0),(.ptr 2 0)] (cW dl sk dc ov T) (pB is'0) [some (vB0 dl sk dc),some (.box 33 [(.p ov)]),some vB2,some (.mp ((aE t'4)++[((.int .i64 x0),(blP is'0))]) (t'4.length+1)),some (.box 207 [(.mp 3)]),some (vB5 dl sk dc),some vB6]:=by
 exact FMM.fin (k:=7) (g:=⟨[],[],[],[]⟩) rfl Tryz.func154 rfl (o:=[bF,.c (pB (mU dl [x0,x1,x2,x3,x4,x5])) [],.x (.mp (abE dc)),bF,.k 1 ⟨(rng [(0,1),(2,2),(7,2),(10,22),(35,39)]),[7],[],[(32,99999)]⟩ (.exit 0) (bV dl sk dc ov x0 x1 x2 x3 x4 x5 is'0 i'1 l'2 n'3 (aE t'4) t'4.length),bF]) (l:=[_,_,_,_,_,(aH dl sk dc)[4]? = some (.mp (abE dc)),_,_,_]) (by kernel_rfl) (gc h6 (gc h5 (gc hl4.code (gc h3 (gc h2 (gc rfl (gc (fk 8 (aHl dl sk dc x0 x1 x2 x3 x4 x5) rfl) (gc h1 (gc h0 gn)))))))))
theorem aYc{ov:PV}{x0 x1 x2 x3 x4 x5:Int}{is:Bool}{i:Nat}{l:Lqq}{n:Nat}{t:Lqb}{y100 y101 y102 y103 y104 y105:Int}{b106:Bool}{T107:Lqb}{i':Nat}{t':Lqb}(h0:(i:Int)<(n:Int))(h1:l[i]? = some [y100,y101,y102,y103,y104,y105])(h2:uni 6 l)(h3:y101=5)(h4:is=true)(h5:pT dl sk dc ov [y100,y101,y102,y103,y104,y105] b106 t T107)(h6:b106=true)(h7:inR (((i+1):Nat):Int))(ei':i'=(i+1))(et'e:aE t'=(aE T107))(et'k:t'.length=T107.length):aC Tp 7 fC (bV dl sk dc ov x0 x1 x2 x3 x4 x5 is i l n (aE t) t.length) .normal (bV dl sk dc ov x0 x1 x2 x3 x4 x5 false i' l n (aE t') t'.length):=by
 subst ei';have raw:aC Tp 7 fC (bV dl sk dc ov x0 x1 x2 x3 x4 x5 is i l n (aE t) t.length) .normal (bV dl sk dc ov x0 x1 x2 x3 x4 x5 false (i+1) l n (aE T107) T107.length):=aC.fin (g:=⟨(rng [(0,1),(2,2),(7,2),(10,22),(35,39)]),[7],[],[(9,0)]⟩) (o:=[bT,.x (dcE y100 y101 y102 y103 y104 y105),bT,bT,bT,bT,bT,bT,bT,bT,.c (pB b106) (vU dl sk dc ov T107),bT,bT,bT,bT,bT,bT,bT,bT,bT,bT,bT]) (l:=[_,_,_,_,_,_,_,_,_,_,_,_,FC Tp 154 [(.p (dcE y100 y101 y102 y103 y104 y105)),(.ptr 4 0),(.ptr 5 0),(.ptr 0 0),(.ptr 2 0)] [(4,(.box 207 [(.mp 3)])),(5,(vB5 dl sk dc)),(0,(vB0 dl sk dc)),(2,vB2),(3,(.mp (aE t) t.length)),(6,vB6),(1,(.box 33 [(.p ov)]))] 9 (pB b106) (vU dl sk dc ov T107),_,_,_,_,_,_,_,_,_,_,0≤(i:Int)∧(i:Int)<(l.length:Int)∧(i*6)<(l.flatten.map aA).length,_]) (by kernel_rfl) (gc h7 (gc h6 (gc (dR h3) (gc h6 (g4c (dR h3) (g4c h6 (gc (FMM.fc (ids:=[0,1,2,3,4,5,6]) h5 (by kernel_rfl)) (g2c h4 (g6c (dR h3) (gc (aS (i:=i) h2 h1) (gc (bH (i:=i) h2 h1) (gc (bR (k:=6) (i:=(i:Int)) (by decide) h2 (kQ2 _) h1) (gc (aY h0) gn)))))))))))))
 exact raw.cast (by rw [et'e,et'k])
theorem aYd{ov:PV}{x0 x1 x2 x3 x4 x5:Int}{is:Bool}{i:Nat}{l:Lqq}{n:Nat}{t:Lqb}{y100 y101 y102 y103 y104 y105:Int}{b106:Bool}{T107:Lqb}{i':Nat}{t':Lqb}(h0:(i:Int)<(n:Int))(h1:l[i]? = some [y100,y101,y102,y103,y104,y105])(h2:uni 6 l)(h3:y101=5)(h4:is=true)(h5:pT dl sk dc ov [y100,y101,y102,y103,y104,y105] b106 t T107)(h6:b106=false)(h7:inR (((i+1):Nat):Int))(ei':i'=(i+1))(et'e:aE t'=(aE T107))(et'k:t'.length=T107.length):aC Tp 7 fC (bV dl sk dc ov x0 x1 x2 x3 x4 x5 is i l n (aE t) t.length) .normal (bV dl sk dc ov x0 x1 x2 x3 x4 x5 is i' l n (aE t') t'.length):=by
 subst ei';have raw:aC Tp 7 fC (bV dl sk dc ov x0 x1 x2 x3 x4 x5 is i l n (aE t) t.length) .normal (bV dl sk dc ov x0 x1 x2 x3 x4 x5 is (i+1) l n (aE T107) T107.length):=aC.fin (g:=⟨(rng [(0,1),(2,2),(7,2),(10,22),(35,39)]),[7],[],[]⟩) (o:=[bT,.x (dcE y100 y101 y102 y103 y104 y105),bT,bT,bT,bT,bT,bT,bT,bT,.c (pB b106) (vU dl sk dc ov T107),bF,bF,bF,bF,bF,bF]) (l:=[_,_,_,_,_,_,_,FC Tp 154 [(.p (dcE y100 y101 y102 y103 y104 y105)),(.ptr 4 0),(.ptr 5 0),(.ptr 0 0),(.ptr 2 0)] [(4,(.box 207 [(.mp 3)])),(5,(vB5 dl sk dc)),(0,(vB0 dl sk dc)),(2,vB2),(3,(.mp (aE t) t.length)),(6,vB6),(1,(.box 33 [(.p ov)]))] 9 (pB b106) (vU dl sk dc ov T107),_,_,_,_,_,_,_,_,_,_,0≤(i:Int)∧(i:Int)<(l.length:Int)∧(i*6)<(l.flatten.map aA).length,_]) (by kernel_rfl) (gc h7 (g6c h6 (gc (FMM.fc (ids:=[0,1,2,3,4,5,6]) h5 (by kernel_rfl)) (g2c h4 (g6c (dR h3) (gc (aS (i:=i) h2 h1) (gc (bH (i:=i) h2 h1) (gc (bR (k:=6) (i:=(i:Int)) (by decide) h2 (kQ2 _) h1) (gc (aY h0) gn)))))))))
 exact raw.cast (by rw [et'e,et'k])
theorem aYe{ov:PV}{x0 x1 x2 x3 x4 x5:Int}{is:Bool}{i:Nat}{l:Lqq}{n:Nat}{t:Lqb}{y100 y101 y102 y103 y104 y105:Int}{i':Nat}(h0:(i:Int)<(n:Int))(h1:l[i]? = some [y100,y101,y102,y103,y104,y105])(h2:uni 6 l)(h3:y101=5)(h4:is=false)(h5:inR (((i+1):Nat):Int))(ei':i'=(i+1)):aC Tp 7 fC (bV dl sk dc ov x0 x1 x2 x3 x4 x5 is i l n (aE t) t.length) .normal (bV dl sk dc ov x0 x1 x2 x3 x4 x5 is i' l n (aE t) t.length):=by
 subst ei';exact aC.fin (g:=⟨(rng [(0,1),(2,2),(7,2),(10,22),(35,39)]),[7],[],[]⟩) (o:=[bT,.x (dcE y100 y101 y102 y103 y104 y105),bT,bT,bT,bT,bT,bT,bF,bF]) (l:=[_,_,_,_,_,_,_,_,_,_,_,0≤(i:Int)∧(i:Int)<(l.length:Int)∧(i*6)<(l.flatten.map aA).length,_]) (by kernel_rfl) (gc h5 (g2c h4 (g6c (dR h3) (gc (aS (i:=i) h2 h1) (gc (bH (i:=i) h2 h1) (gc (bR (k:=6) (i:=(i:Int)) (by decide) h2 (kQ2 _) h1) (gc (aY h0) gn)))))))
theorem aYf{ov:PV}{x0 x1 x2 x3 x4 x5:Int}{is:Bool}{i:Nat}{l:Lqq}{n:Nat}{t:Lqb}{y100 y101 y102 y103 y104 y105:Int}{b106:Bool}{T107:Lqb}{b108:Bool}{T109:Lqb}{i':Nat}{t':Lqb}(h0:(i:Int)<(n:Int))(h1:l[i]? = some [y100,y101,y102,y103,y104,y105])(h2:uni 6 l)(h3:y101≠5)(h4:y101=7)(h5:is=true)(h6:(cT x1)=false)(h7:pT dl sk dc ov [y100,y101,y102,y103,y104,y105] b106 t T107)(h8:b106=true)(h9:bJv dl sk dc ov [y100,y101,y102,y103,y104,y105] b108 T107 T109)(h10:b108=true)(h11:inR (((i+1):Nat):Int))(ei':i'=(i+1))(et'e:aE t'=(aE T109))(et'k:t'.length=T109.length):aC Tp 7 fC (bV dl sk dc ov x0 x1 x2 x3 x4 x5 is i l n (aE t) t.length) .normal (bV dl sk dc ov x0 x1 x2 x3 x4 x5 false i' l n (aE t') t'.length):=by
 subst ei';have raw:aC Tp 7 fC (bV dl sk dc ov x0 x1 x2 x3 x4 x5 is i l n (aE t) t.length) .normal (bV dl sk dc ov x0 x1 x2 x3 x4 x5 false (i+1) l n (aE T109) T109.length):=aC.fin (g:=⟨(rng [(0,1),(2,2),(7,2),(10,22),(35,39)]),[7],[],[(9,0)]⟩) (o:=[bT,.x (dcE y100 y101 y102 y103 y104 y105),bF,bF,bF,bF,bT,bT,bT,.c (pB (cT x1)) [],bT,bF,bT,bF,bT,bT,bT,bT,bT,bT,.c (pB b106) (vU dl sk dc ov T107),bT,bT,bT,bT,bT,bF,bF,bF,bF,.c (pB b108) (vU dl sk dc ov T109),bT,bF,bT,bT]) (l:=[_,_,_,_,_,FC Tp 157 [(.p (dcE y100 y101 y102 y103 y104 y105)),(.ptr 2 0),(.ptr 1 0)] [(2,vB2),(1,(.box 33 [(.p ov)])),(4,(.box 207 [(.mp 3)])),(5,(vB5 dl sk dc)),(0,(vB0 dl sk dc)),(6,vB6),(3,(.mp (aE T107) T107.length))] 9 (pB b108) (vU dl sk dc ov T109),_,_,_,_,_,_,_,_,_,FC Tp 154 [(.p (dcE y100 y101 y102 y103 y104 y105)),(.ptr 4 0),(.ptr 5 0),(.ptr 0 0),(.ptr 2 0)] [(4,(.box 207 [(.mp 3)])),(5,(vB5 dl sk dc)),(0,(vB0 dl sk dc)),(2,vB2),(3,(.mp (aE t) t.length)),(6,vB6),(1,(.box 33 [(.p ov)]))] 9 (pB b106) (vU dl sk dc ov T107),_,_,_,_,_,_,_,_,_,_,_,_,_,_,_,_,_,_,_,_,0≤(i:Int)∧(i:Int)<(l.length:Int)∧(i*6)<(l.flatten.map aA).length,_]) (by kernel_rfl) (gc h11 (gc h10 (gc h8 (gc (bI h3) (gc h8 (gc (FMM.fc (ids:=[0,1,2,3,4,5,6]) h9 (by kernel_rfl)) (g4c (bI h3) (g4c h8 (gc (bU h6) (gc (FMM.fc (ids:=[0,1,2,3,4,5,6]) h7 (by kernel_rfl)) (g4c (bU h6) (g2c h5 (gc (bI h3) (gc (dR h4) (gc (bI h3) (gc (dR h4) (gc (fk 9 (mT x1) rfl) (g3c (dR h4) (g4c (bI h3) (gc (aS (i:=i) h2 h1) (gc (bH (i:=i) h2 h1) (gc (bR (k:=6) (i:=(i:Int)) (by decide) h2 (kQ2 _) h1) (gc (aY h0) gn)))))))))))))))))))))))
 exact raw.cast (by rw [et'e,et'k])
theorem aYg{ov:PV}{x0 x1 x2 x3 x4 x5:Int}{is:Bool}{i:Nat}{l:Lqq}{n:Nat}{t:Lqb}{y100 y101 y102 y103 y104 y105:Int}{b106:Bool}{T107:Lqb}{b108:Bool}{T109:Lqb}{i':Nat}{t':Lqb}(h0:(i:Int)<(n:Int))(h1:l[i]? = some [y100,y101,y102,y103,y104,y105])(h2:uni 6 l)(h3:y101≠5)(h4:y101=7)(h5:is=true)(h6:(cT x1)=false)(h7:pT dl sk dc ov [y100,y101,y102,y103,y104,y105] b106 t T107)(h8:b106=true)(h9:bJv dl sk dc ov [y100,y101,y102,y103,y104,y105] b108 T107 T109)(h10:b108=false)(h11:inR (((i+1):Nat):Int))(ei':i'=(i+1))(et'e:aE t'=(aE T109))(et'k:t'.length=T109.length):aC Tp 7 fC (bV dl sk dc ov x0 x1 x2 x3 x4 x5 is i l n (aE t) t.length) .normal (bV dl sk dc ov x0 x1 x2 x3 x4 x5 is i' l n (aE t') t'.length):=by
 subst ei';have raw:aC Tp 7 fC (bV dl sk dc ov x0 x1 x2 x3 x4 x5 is i l n (aE t) t.length) .normal (bV dl sk dc ov x0 x1 x2 x3 x4 x5 is (i+1) l n (aE T109) T109.length):=aC.fin (g:=⟨(rng [(0,1),(2,2),(7,2),(10,22),(35,39)]),[7],[],[]⟩) (o:=[bT,.x (dcE y100 y101 y102 y103 y104 y105),bF,bF,bF,bF,bT,bT,bT,.c (pB (cT x1)) [],bT,bF,bT,bF,bT,bT,bT,bT,bT,bT,.c (pB b106) (vU dl sk dc ov T107),bT,bT,bT,bT,bT,bF,bF,bF,bF,.c (pB b108) (vU dl sk dc ov T109),bT,bF,bT,bF]) (l:=[_,_,_,_,_,FC Tp 157 [(.p (dcE y100 y101 y102 y103 y104 y105)),(.ptr 2 0),(.ptr 1 0)] [(2,vB2),(1,(.box 33 [(.p ov)])),(4,(.box 207 [(.mp 3)])),(5,(vB5 dl sk dc)),(0,(vB0 dl sk dc)),(6,vB6),(3,(.mp (aE T107) T107.length))] 9 (pB b108) (vU dl sk dc ov T109),_,_,_,_,_,_,_,_,_,FC Tp 154 [(.p (dcE y100 y101 y102 y103 y104 y105)),(.ptr 4 0),(.ptr 5 0),(.ptr 0 0),(.ptr 2 0)] [(4,(.box 207 [(.mp 3)])),(5,(vB5 dl sk dc)),(0,(vB0 dl sk dc)),(2,vB2),(3,(.mp (aE t) t.length)),(6,vB6),(1,(.box 33 [(.p ov)]))] 9 (pB b106) (vU dl sk dc ov T107),_,_,_,_,_,_,_,_,_,_,_,_,_,_,_,_,_,_,_,_,0≤(i:Int)∧(i:Int)<(l.length:Int)∧(i*6)<(l.flatten.map aA).length,_]) (by kernel_rfl) (gc h11 (gc h10 (gc h8 (gc (bI h3) (gc h8 (gc (FMM.fc (ids:=[0,1,2,3,4,5,6]) h9 (by kernel_rfl)) (g4c (bI h3) (g4c h8 (gc (bU h6) (gc (FMM.fc (ids:=[0,1,2,3,4,5,6]) h7 (by kernel_rfl)) (g4c (bU h6) (g2c h5 (gc (bI h3) (gc (dR h4) (gc (bI h3) (gc (dR h4) (gc (fk 9 (mT x1) rfl) (g3c (dR h4) (g4c (bI h3) (gc (aS (i:=i) h2 h1) (gc (bH (i:=i) h2 h1) (gc (bR (k:=6) (i:=(i:Int)) (by decide) h2 (kQ2 _) h1) (gc (aY h0) gn)))))))))))))))))))))))
 exact raw.cast (by rw [et'e,et'k])
theorem aYh{ov:PV}{x0 x1 x2 x3 x4 x5:Int}{is:Bool}{i:Nat}{l:Lqq}{n:Nat}{t:Lqb}{y100 y101 y102 y103 y104 y105:Int}{b106:Bool}{T107:Lqb}{i':Nat}{t':Lqb}(h0:(i:Int)<(n:Int))(h1:l[i]? = some [y100,y101,y102,y103,y104,y105])(h2:uni 6 l)(h3:y101≠5)(h4:y101=7)(h5:is=true)(h6:(cT x1)=false)(h7:pT dl sk dc ov [y100,y101,y102,y103,y104,y105] b106 t T107)(h8:b106=false)(h9:inR (((i+1):Nat):Int))(ei':i'=(i+1))(et'e:aE t'=(aE T107))(et'k:t'.length=T107.length):aC Tp 7 fC (bV dl sk dc ov x0 x1 x2 x3 x4 x5 is i l n (aE t) t.length) .normal (bV dl sk dc ov x0 x1 x2 x3 x4 x5 is i' l n (aE t') t'.length):=by
 subst ei';have raw:aC Tp 7 fC (bV dl sk dc ov x0 x1 x2 x3 x4 x5 is i l n (aE t) t.length) .normal (bV dl sk dc ov x0 x1 x2 x3 x4 x5 is (i+1) l n (aE T107) T107.length):=aC.fin (g:=⟨(rng [(0,1),(2,2),(7,2),(10,22),(35,39)]),[7],[],[]⟩) (o:=[bT,.x (dcE y100 y101 y102 y103 y104 y105),bF,bF,bF,bF,bT,bT,bT,.c (pB (cT x1)) [],bT,bF,bT,bF,bT,bT,bT,bT,bT,bT,.c (pB b106) (vU dl sk dc ov T107),bT,bF,bF,bF,bF,bF,bF]) (l:=[_,_,_,_,_,_,_,_,FC Tp 154 [(.p (dcE y100 y101 y102 y103 y104 y105)),(.ptr 4 0),(.ptr 5 0),(.ptr 0 0),(.ptr 2 0)] [(4,(.box 207 [(.mp 3)])),(5,(vB5 dl sk dc)),(0,(vB0 dl sk dc)),(2,vB2),(3,(.mp (aE t) t.length)),(6,vB6),(1,(.box 33 [(.p ov)]))] 9 (pB b106) (vU dl sk dc ov T107),_,_,_,_,_,_,_,_,_,_,_,_,_,_,_,_,_,_,_,_,0≤(i:Int)∧(i:Int)<(l.length:Int)∧(i*6)<(l.flatten.map aA).length,_]) (by kernel_rfl) (gc h9 (g6c h8 (gc (bU h6) (gc (FMM.fc (ids:=[0,1,2,3,4,5,6]) h7 (by kernel_rfl)) (g4c (bU h6) (g2c h5 (gc (bI h3) (gc (dR h4) (gc (bI h3) (gc (dR h4) (gc (fk 9 (mT x1) rfl) (g3c (dR h4) (g4c (bI h3) (gc (aS (i:=i) h2 h1) (gc (bH (i:=i) h2 h1) (gc (bR (k:=6) (i:=(i:Int)) (by decide) h2 (kQ2 _) h1) (gc (aY h0) gn)))))))))))))))))
 exact raw.cast (by rw [et'e,et'k])
theorem aYi{ov:PV}{x0 x1 x2 x3 x4 x5:Int}{is:Bool}{i:Nat}{l:Lqq}{n:Nat}{t:Lqb}{y100 y101 y102 y103 y104 y105:Int}{i':Nat}(h0:(i:Int)<(n:Int))(h1:l[i]? = some [y100,y101,y102,y103,y104,y105])(h2:uni 6 l)(h3:y101≠5)(h4:y101=7)(h5:is=true)(h6:(cT x1)=true)(h7:inR (((i+1):Nat):Int))(ei':i'=(i+1)):aC Tp 7 fC (bV dl sk dc ov x0 x1 x2 x3 x4 x5 is i l n (aE t) t.length) .normal (bV dl sk dc ov x0 x1 x2 x3 x4 x5 is i' l n (aE t) t.length):=by
 subst ei';exact aC.fin (g:=⟨(rng [(0,1),(2,2),(7,2),(10,22),(35,39)]),[7],[],[]⟩) (o:=[bT,.x (dcE y100 y101 y102 y103 y104 y105),bF,bF,bF,bF,bT,bT,bT,.c (pB (cT x1)) [],bT,bF,bT,bF,bT,bT,bF,bF,bF,bF,bF]) (l:=[_,_,_,_,_,_,_,_,_,_,_,_,_,_,_,_,_,_,_,_,_,_,0≤(i:Int)∧(i:Int)<(l.length:Int)∧(i*6)<(l.flatten.map aA).length,_]) (by kernel_rfl) (gc h7 (g5c (aV h6) (g2c h5 (gc (bI h3) (gc (dR h4) (gc (bI h3) (gc (dR h4) (gc (fk 9 (mT x1) rfl) (g3c (dR h4) (g4c (bI h3) (gc (aS (i:=i) h2 h1) (gc (bH (i:=i) h2 h1) (gc (bR (k:=6) (i:=(i:Int)) (by decide) h2 (kQ2 _) h1) (gc (aY h0) gn))))))))))))))
theorem aYj{ov:PV}{x0 x1 x2 x3 x4 x5:Int}{is:Bool}{i:Nat}{l:Lqq}{n:Nat}{t:Lqb}{y100 y101 y102 y103 y104 y105:Int}{i':Nat}(h0:(i:Int)<(n:Int))(h1:l[i]? = some [y100,y101,y102,y103,y104,y105])(h2:uni 6 l)(h3:y101≠5)(h4:y101=7)(h5:is=false)(h6:inR (((i+1):Nat):Int))(ei':i'=(i+1)):aC Tp 7 fC (bV dl sk dc ov x0 x1 x2 x3 x4 x5 is i l n (aE t) t.length) .normal (bV dl sk dc ov x0 x1 x2 x3 x4 x5 is i' l n (aE t) t.length):=by
 subst ei';exact aC.fin (g:=⟨(rng [(0,1),(2,2),(7,2),(10,22),(35,39)]),[7],[],[]⟩) (o:=[bT,.x (dcE y100 y101 y102 y103 y104 y105),bF,bF,bF,bF,bT,bT,bT,.c (pB (cT x1)) [],bT,bF,bT,bF,bF,bF]) (l:=[_,_,_,_,_,_,_,_,_,_,_,_,_,_,_,_,_,0≤(i:Int)∧(i:Int)<(l.length:Int)∧(i*6)<(l.flatten.map aA).length,_]) (by kernel_rfl) (gc h6 (g2c h5 (gc (bI h3) (gc (dR h4) (gc (bI h3) (gc (dR h4) (gc (fk 9 (mT x1) rfl) (g3c (dR h4) (g4c (bI h3) (gc (aS (i:=i) h2 h1) (gc (bH (i:=i) h2 h1) (gc (bR (k:=6) (i:=(i:Int)) (by decide) h2 (kQ2 _) h1) (gc (aY h0) gn)))))))))))))
theorem aYk{ov:PV}{x0 x1 x2 x3 x4 x5:Int}{is:Bool}{i:Nat}{l:Lqq}{n:Nat}{t:Lqb}{y100 y101 y102 y103 y104 y105:Int}{i':Nat}(h0:(i:Int)<(n:Int))(h1:l[i]? = some [y100,y101,y102,y103,y104,y105])(h2:uni 6 l)(h3:y101≠5)(h4:y101≠7)(h5:is=true)(h6:inR (((i+1):Nat):Int))(ei':i'=(i+1)):aC Tp 7 fC (bV dl sk dc ov x0 x1 x2 x3 x4 x5 is i l n (aE t) t.length) .normal (bV dl sk dc ov x0 x1 x2 x3 x4 x5 is i' l n (aE t) t.length):=by
 subst ei';exact aC.fin (g:=⟨(rng [(0,1),(2,2),(7,2),(10,22),(35,39)]),[7],[],[]⟩) (o:=[bT,.x (dcE y100 y101 y102 y103 y104 y105),bF,bF,bF,bF,bF,bF,bF,bF,bF,bF,bF,bT,bT]) (l:=[_,_,_,_,_,_,_,_,_,_,_,_,_,_,_,_,0≤(i:Int)∧(i:Int)<(l.length:Int)∧(i*6)<(l.flatten.map aA).length,_]) (by kernel_rfl) (gc h6 (g2c h5 (gc (bI h3) (gc (bI h4) (gc (bI h3) (g4c (bI h4) (g4c (bI h3) (gc (aS (i:=i) h2 h1) (gc (bH (i:=i) h2 h1) (gc (bR (k:=6) (i:=(i:Int)) (by decide) h2 (kQ2 _) h1) (gc (aY h0) gn)))))))))))
theorem aYl{ov:PV}{x0 x1 x2 x3 x4 x5:Int}{is:Bool}{i:Nat}{l:Lqq}{n:Nat}{t:Lqb}{y100 y101 y102 y103 y104 y105:Int}{i':Nat}(h0:(i:Int)<(n:Int))(h1:l[i]? = some [y100,y101,y102,y103,y104,y105])(h2:uni 6 l)(h3:y101≠5)(h4:y101≠7)(h5:is=false)(h6:inR (((i+1):Nat):Int))(ei':i'=(i+1)):aC Tp 7 fC (bV dl sk dc ov x0 x1 x2 x3 x4 x5 is i l n (aE t) t.length) .normal (bV dl sk dc ov x0 x1 x2 x3 x4 x5 is i' l n (aE t) t.length):=by
 subst ei';exact aC.fin (g:=⟨(rng [(0,1),(2,2),(7,2),(10,22),(35,39)]),[7],[],[]⟩) (o:=[bT,.x (dcE y100 y101 y102 y103 y104 y105),bF,bF,bF,bF,bF,bF,bF,bF,bF,bF,bF,bF,bF]) (l:=[_,_,_,_,_,_,_,_,_,_,_,_,_,_,_,_,0≤(i:Int)∧(i:Int)<(l.length:Int)∧(i*6)<(l.flatten.map aA).length,_]) (by kernel_rfl) (gc h6 (g2c h5 (gc (bI h3) (gc (bI h4) (gc (bI h3) (g4c (bI h4) (g4c (bI h3) (gc (aS (i:=i) h2 h1) (gc (bH (i:=i) h2 h1) (gc (bR (k:=6) (i:=(i:Int)) (by decide) h2 (kQ2 _) h1) (gc (aY h0) gn)))))))))))
theorem aPo{ov:PV}{x0 x1 x2 x3 x4 x5:Int}{is:Bool}{i:Nat}{l:Lqq}{n:Nat}{t:Lqb}(h0:(n:Int)≤(i:Int)):aC Tp 7 fC (bV dl sk dc ov x0 x1 x2 x3 x4 x5 is i l n (aE t) t.length) (.exit 0) (bV dl sk dc ov x0 x1 x2 x3 x4 x5 is i l n (aE t) t.length):=by
 exact aC.fin (g:=⟨(rng [(0,1),(2,2),(7,2),(10,22),(35,39)]),[7],[],[]⟩) (o:=[bF]) (l:=[_]) (by kernel_rfl) (gc (bG h0) gn)
theorem bEl{ov:PV}{T:Lqb}{x0 x1 x2 x3 x4 x5 z0 z1 z2 z3 z4 z5:Int}{b6:Bool}{T7:Lqb}(h0:bRd 155 dl sk dc ov [x0,x1,x2,x3,x4,x5] [z0,z1,z2,z3,z4,z5] b6 T T7):FMM Tp 156 [(.p (dcE x0 x1 x2 x3 x4 x5)),(.ptr 6 0)] (cW dl sk dc ov T) (.tup [(.p (dcE z0 z1 z2 z3 z4 z5)),(pB b6)]) (cW dl sk dc ov T7):=by
 exact FMM.fin (k:=7) (g:=⟨[],[],[],[]⟩) rfl Tryz.func156 rfl (o:=[.c (.tup [(.p (dcE z0 z1 z2 z3 z4 z5)),(pB b6)]) (vU dl sk dc ov T7)]) (l:=[FC Tp 153 [(.p (dcE x0 x1 x2 x3 x4 x5)),(.fn 155 [] []),(.ptr 0 0),(.ptr 2 0)] [(0,(vB0 dl sk dc)),(2,vB2),(4,(.box 207 [(.mp 3)])),(5,(vB5 dl sk dc)),(6,vB6),(1,(.box 33 [(.p ov)])),(3,(.mp (aE T) T.length))] 9 (.tup [(.p (dcE z0 z1 z2 z3 z4 z5)),(pB b6)]) (vU dl sk dc ov T7)]) (by kernel_rfl) (gc (FMM.fc (ids:=[0,1,2,3,4,5,6]) h0 (by kernel_rfl)) gn)
theorem bEm{ov:PV}{T:Lqb}{x0 x1 x2 x3 x4 x5 z0 z1 z2 z3 z4 z5:Int}{b6:Bool}{T7:Lqb}(h0:bRd 159 dl sk dc ov [x0,x1,x2,x3,x4,x5] [z0,z1,z2,z3,z4,z5] b6 T T7):FMM Tp 158 [(.p (dcE x0 x1 x2 x3 x4 x5)),(.ptr 6 0)] (cW dl sk dc ov T) (.tup [(.p (dcE z0 z1 z2 z3 z4 z5)),(pB b6)]) (cW dl sk dc ov T7):=by
 exact FMM.fin (k:=7) (g:=⟨[],[],[],[]⟩) rfl Tryz.func158 rfl (o:=[.c (.tup [(.p (dcE z0 z1 z2 z3 z4 z5)),(pB b6)]) (vU dl sk dc ov T7)]) (l:=[FC Tp 153 [(.p (dcE x0 x1 x2 x3 x4 x5)),(.fn 159 [] []),(.ptr 0 0),(.ptr 2 0)] [(0,(vB0 dl sk dc)),(2,vB2),(4,(.box 207 [(.mp 3)])),(5,(vB5 dl sk dc)),(6,vB6),(1,(.box 33 [(.p ov)])),(3,(.mp (aE T) T.length))] 9 (.tup [(.p (dcE z0 z1 z2 z3 z4 z5)),(pB b6)]) (vU dl sk dc ov T7)]) (by kernel_rfl) (gc (FMM.fc (ids:=[0,1,2,3,4,5,6]) h0 (by kernel_rfl)) gn)
theorem bRo{ov:PV}{T:Lqb}{x0 x1 x2 x3 x4 x5 z0 z1 z2 z3 z4 z5:Int}{b6:Bool}{T7:Lqb}{r0:Bool}(h0:aKy dl sk dc ov [x0,x1,x2,x3,x4,x5] [z0,z1,z2,z3,z4,z5] b6 T T7)(h1:b6=true)(er0:r0=(z1 == (8:Int))):FMM Tp 157 [(.p (dcE x0 x1 x2 x3 x4 x5)),(.ptr 2 0),(.ptr 1 0)] (cW dl sk dc ov T) (pB r0) (cW dl sk dc ov T7):=by
 subst er0;exact FMM.fin (k:=7) (g:=⟨[],[],[],[]⟩) rfl Tryz.func157 rfl (o:=[.c (.tup [(.p (dcE z0 z1 z2 z3 z4 z5)),(pB b6)]) (vU dl sk dc ov T7),bT]) (l:=[_,FC Tp 156 [(.p (dcE x0 x1 x2 x3 x4 x5)),(.ptr 6 0)] [(6,vB6),(0,(vB0 dl sk dc)),(2,vB2),(4,(.box 207 [(.mp 3)])),(5,(vB5 dl sk dc)),(1,(.box 33 [(.p ov)])),(3,(.mp (aE T) T.length))] 8 (.tup [(.p (dcE z0 z1 z2 z3 z4 z5)),(pB b6)]) (vU dl sk dc ov T7)]) (by kernel_rfl) (gc h1 (gc (FMM.fc (ids:=[0,1,2,3,4,5,6]) h0 (by kernel_rfl)) gn))
theorem bRp{ov:PV}{T:Lqb}{x0 x1 x2 x3 x4 x5 z0 z1 z2 z3 z4 z5:Int}{b6:Bool}{T7:Lqb}{b8:Bool}(h0:aKy dl sk dc ov [x0,x1,x2,x3,x4,x5] [z0,z1,z2,z3,z4,z5] b6 T T7)(h1:b6=false)(h2:qT ov x0 b8):FMM Tp 157 [(.p (dcE x0 x1 x2 x3 x4 x5)),(.ptr 2 0),(.ptr 1 0)] (cW dl sk dc ov T) (pB b8) (cW dl sk dc ov T7):=by
 exact FMM.fin (k:=7) (g:=⟨[],[],[],[]⟩) rfl Tryz.func157 rfl (o:=[.c (.tup [(.p (dcE z0 z1 z2 z3 z4 z5)),(pB b6)]) (vU dl sk dc ov T7),bF,.c (pB b8) []]) (l:=[FC Tp 52 [(.p ov),(pI x0)] [] 9 (pB b8) [],_,FC Tp 156 [(.p (dcE x0 x1 x2 x3 x4 x5)),(.ptr 6 0)] [(6,vB6),(0,(vB0 dl sk dc)),(2,vB2),(4,(.box 207 [(.mp 3)])),(5,(vB5 dl sk dc)),(1,(.box 33 [(.p ov)])),(3,(.mp (aE T) T.length))] 8 (.tup [(.p (dcE z0 z1 z2 z3 z4 z5)),(pB b6)]) (vU dl sk dc ov T7)]) (by kernel_rfl) (gc (FV.fc (h2 _) rfl) (gc h1 (gc (FMM.fc (ids:=[0,1,2,3,4,5,6]) h0 (by kernel_rfl)) gn)))
theorem bRq{ov:PV}{T:Lqb}{x0 x1 x2 x3 x4 x5 z0 z1 z2 z3 z4 z5:Int}{b6:Bool}{T7:Lqb}{m8:Int}{T9:Lqb}(h0:bRe dl sk dc ov [x0,x1,x2,x3,x4,x5] [z0,z1,z2,z3,z4,z5] b6 T T7)(h1:b6=true)(h2:yQ dl sk dc ov [z0,z1,z2,z3,z4,z5] m8 T7 T9):FMM Tp 160 [(.p (dcE x0 x1 x2 x3 x4 x5)),(.ptr 2 0)] (cW dl sk dc ov T) (pI m8) (cW dl sk dc ov T9):=by
 exact FMM.fin (k:=7) (g:=⟨[],[],[],[]⟩) rfl Tryz.func160 rfl (o:=[.c (.tup [(.p (dcE z0 z1 z2 z3 z4 z5)),(pB b6)]) (vU dl sk dc ov T7),bT,.c (pI m8) (vU dl sk dc ov T9)]) (l:=[FC Tp 160 [(.p (dcE z0 z1 z2 z3 z4 z5)),(.ptr 2 0)] [(2,vB2),(4,(.box 207 [(.mp 3)])),(5,(vB5 dl sk dc)),(0,(vB0 dl sk dc)),(6,vB6),(1,(.box 33 [(.p ov)])),(3,(.mp (aE T7) T7.length))] 9 (pI m8) (vU dl sk dc ov T9),_,FC Tp 158 [(.p (dcE x0 x1 x2 x3 x4 x5)),(.ptr 6 0)] [(6,vB6),(0,(vB0 dl sk dc)),(2,vB2),(4,(.box 207 [(.mp 3)])),(5,(vB5 dl sk dc)),(1,(.box 33 [(.p ov)])),(3,(.mp (aE T) T.length))] 8 (.tup [(.p (dcE z0 z1 z2 z3 z4 z5)),(pB b6)]) (vU dl sk dc ov T7)]) (by kernel_rfl) (gc (FMM.fc (ids:=[0,1,2,3,4,5,6]) h2 (by kernel_rfl)) (gc h1 (gc (FMM.fc (ids:=[0,1,2,3,4,5,6]) h0 (by kernel_rfl)) gn)))
theorem bRr{ov:PV}{T:Lqb}{x0 x1 x2 x3 x4 x5 z0 z1 z2 z3 z4 z5:Int}{b6:Bool}{T7:Lqb}(h0:bRe dl sk dc ov [x0,x1,x2,x3,x4,x5] [z0,z1,z2,z3,z4,z5] b6 T T7)(h1:b6=false):FMM Tp 160 [(.p (dcE x0 x1 x2 x3 x4 x5)),(.ptr 2 0)] (cW dl sk dc ov T) (pI x4) (cW dl sk dc ov T7):=by
 exact FMM.fin (k:=7) (g:=⟨[],[],[],[]⟩) rfl Tryz.func160 rfl (o:=[.c (.tup [(.p (dcE z0 z1 z2 z3 z4 z5)),(pB b6)]) (vU dl sk dc ov T7),bF]) (l:=[_,FC Tp 158 [(.p (dcE x0 x1 x2 x3 x4 x5)),(.ptr 6 0)] [(6,vB6),(0,(vB0 dl sk dc)),(2,vB2),(4,(.box 207 [(.mp 3)])),(5,(vB5 dl sk dc)),(1,(.box 33 [(.p ov)])),(3,(.mp (aE T) T.length))] 8 (.tup [(.p (dcE z0 z1 z2 z3 z4 z5)),(pB b6)]) (vU dl sk dc ov T7)]) (by kernel_rfl) (gc h1 (gc (FMM.fc (ids:=[0,1,2,3,4,5,6]) h0 (by kernel_rfl)) gn))
theorem zA:FMM Tp 87 [(.rp (aH dl sk dc) 0),(.p bW)] [] fU [some (vB0 dl sk dc),some (.box 33 [(.p bW)]),some vB2,some (.mp [] 0),some (.box 207 [(.mp 3)]),some (vB5 dl sk dc),some vB6]:=by
 exact FMM.fin (k:=0) (g:=⟨[],[0,1,3,4,5,6,7],[],[]⟩) rfl Tryz.func87 rfl (o:=[]) (l:=[]) (by kernel_rfl) (gn)
theorem pG{on:Nat}{ol:List PV}:FMM Tp 87 [(.rp (aH dl sk dc) 0),(.p (.sl on ol))] [] fU [some (vB0 dl sk dc),some (.box 33 [(.p (.sl on ol))]),some vB2,some (.mp [] 0),some (.box 207 [(.mp 3)]),some (vB5 dl sk dc),some vB6]:=by
 exact FMM.fin (k:=0) (g:=⟨[],[0,1,3,4,5,6,7],[],[]⟩) rfl Tryz.func87 rfl (o:=[]) (l:=[]) (by kernel_rfl) (gn)
end
section
section
variable {dc:Lqq}
theorem aHh(h:cI dc){n:Int}(hn:1≤n∧n≤9999):cK .i64 (abE dc) (.int .i64 n):=by
 have ha:=aPr h;refine ⟨fun e he => ?_,nD (by omega),?_⟩
 ·obtain ⟨p,hp,rfl⟩:=eK.1 he
  obtain ⟨q1,q2,q3⟩:=ha.mem p hp;cases hx:p.2 with
  | nil=>exact absurd hx q2
  | cons x r =>
   have:x∈dc.reverse.filter fun x=>dAb x == p.1:=by rw [← q3,hx];exact kV ..
   obtain ⟨h1,h2⟩:=aGx.1 this;have:=lN h x (aAz.1 h1);have h2:dAb x=p.1:=by simpa using h2
   exact nD (by omega)
 ·have:(abE dc).map (fun e=>iF e.1)=(abM dc).map (·.1):=by
   unfold abE;rw [qO];rfl
  rw [this];exact ha.nd
theorem aHi(h:cI dc){n:Int}(hn:0<n):(dO (abE dc) (.int .i64 n)=true∧fF (abE dc) (.int .i64 n)=some (.sl (bY dc n).length ((bY dc n).flatten.map aA)))∨(dO (abE dc) (.int .i64 n)=false∧bY dc n=[]):=by
 have ha:=aPr h;have e1:dO (abE dc) (.int .i64 n)=(abM dc).any fun e=>e.1 == n:=by
  unfold dO abE;rw [List.any_map]
  congr 1
 have e2:fF (abE dc) (.int .i64 n)=((abM dc).find? fun e=>e.1 == n).map fun e => .sl e.2.length (e.2.flatten.map aA):=by
  unfold fF abE;generalize abM dc=L
  induction L with
  | nil=>rfl
  | cons p L ih =>
   rw [iI,List.find?_cons,List.find?_cons];have e:(decide (iF (((Value.int IntKind.i64 p.1),PV.sl p.2.length (p.2.flatten.map aA)):Value × PV).1=iF (Value.int IntKind.i64 n)))=(p.1 == n):=by
    show decide (p.1=n)=(p.1 == n);rw [Bool.eq_iff_iff];simp
   rw [e];cases p.1 == n with
   | true=>rfl
   | false=>exact ih
 rw [e1,e2];cases hf:(abM dc).find? fun e=>e.1 == n with
 | some e =>
  have h1:=wC hf;have h2:e.1=n:=by simpa using aVo hf
  obtain ⟨q1,q2,q3⟩:=ha.mem e h1;refine .inl ⟨List.any_eq_true.2 ⟨e,h1,by simpa using h2⟩,?_⟩
  have:e.2=bY dc n:=by rw [q3,h2];rfl
  rw [Option.map_some,this]
 | none =>
  refine .inr ⟨?_,?_⟩
  ·rw [List.any_eq_false]
   intro e he;exact aGv.1 hf e he
  ·rw [← bEs h hn]
   unfold yB;rw [hf]
theorem gX(h:cI dc)(n:Int):uni 6 (bY dc n):=fun y hy=>h.ud y (eI hy).1
theorem wK(h:cI dc)(n:Int):(bY dc n).length≤1000:=by
 have:=wD (fun x=>dAb x == n) dc.reverse
 have h2:=h.len;rw [List.length_reverse] at this
 unfold bY;omega
theorem aSq{α:Type}{p:α→Bool}{l:List α}{i:Nat}{x:α}(hi:l[i]? = some x)(hp:p x=true)(hj:∀ j y,j<i→l[j]? = some y→p y=false):l.find? p=some x:=by
 obtain ⟨h1,h2⟩:=kQ3.1 hi;rw [List.find?_eq_some_iff_getElem];exact ⟨hp,i,h1,h2,fun j h=>by
  rw [hj j l[j] h (kQ0 (by omega))];rfl⟩
end
def zero6:List Int:=[0,0,0,0,0,0]
section
variable (dl:Int) (sk dc:Lqq) (oc:List Int) (ov:PV)
def pP(x:List Int):Prop:=∀ T,cD dl oc dc T→∃ T',cD dl oc dc T'∧pT dl sk dc ov x (cU dl oc dc x) T T'
def bMz(g:Nat)(q:List Int→Bool)(x:List Int):Prop:=∀ T,cD dl oc dc T→∃ T',cD dl oc dc T'∧bRd g dl sk dc ov x (((bY dc (dN x)).find? fun y=>q y && cU dl oc dc y).getD zero6) ((bY dc (dN x)).find? fun y=>q y && cU dl oc dc y).isSome T T'
def bNa(x:List Int):Prop:=∀ T,cD dl oc dc T→∃ T',cD dl oc dc T'∧aKy dl sk dc ov x ((tJ dl oc dc x).getD zero6) (tJ dl oc dc x).isSome T T'
def bNb(x:List Int):Prop:=∀ T,cD dl oc dc T→∃ T',cD dl oc dc T'∧bRe dl sk dc ov x ((aHn dl oc dc x).getD zero6) (aHn dl oc dc x).isSome T T'
def aSr(x:List Int):Prop:=∀ T,cD dl oc dc T→∃ T',cD dl oc dc T'∧bJv dl sk dc ov x (aHm dl oc dc x) T T'
def bNc(x:List Int):Prop:=∀ T,cD dl oc dc T→∃ T',cD dl oc dc T'∧yQ dl sk dc ov x (sG dl oc dc x) T T'
end
section
variable {dl:Int} {sk dc:Lqq} {oc:List Int} {ov:PV}
theorem aXz(l:Lqq)(hu:uni 6 l)(hl:l.length≤1000)(hC:∀ y∈l,pP dl sk dc oc ov y)(T:Lqb)(hT:cD dl oc dc T) :
  (∃ i T' y,l[i]? = some y∧(cT (dK y) && cU dl oc dc y)=true∧(∀ j z,j<i→l[j]? = some z→(cT (dK z) && cU dl oc dc z)=false)∧cD dl oc dc T'∧aI Tp 7 (sub (cd Tryz.f153) [1,0,1,0,0]) (cQ dl sk dc ov 0 l l.length (aE T) T.length 0 0 0 0 0 0) .ret (cF (cQ dl sk dc ov i l l.length (aE T') T'.length (y.getD 0 0) (y.getD 1 0) (y.getD 2 0) (y.getD 3 0) (y.getD 4 0) (y.getD 5 0)) [(7,.kb true)])) ∨
  ((l.find? fun y=>cT (dK y) && cU dl oc dc y)=none∧∃ T',cD dl oc dc T'∧aI Tp 7 (sub (cd Tryz.f153) [1,0,1,0,0]) (cQ dl sk dc ov 0 l l.length (aE T) T.length 0 0 0 0 0 0) (.exit 0) (cQ dl sk dc ov l.length l l.length (aE T') T'.length 0 0 0 0 0 0)):=by
 have hx:∀ i,i<l.length→∃ a b c d e f,l[i]? = some [a,b,c,d,e,f]∧l.getD i []=[a,b,c,d,e,f]∧[a,b,c,d,e,f]∈l:=fun i hi=>by
  obtain ⟨a,b,c,d,e,f,h⟩:=len6 (hu _ (eY hi));have h1:l[i]? = some [a,b,c,d,e,f]:=by rw [kQ0 hi,h]
  exact ⟨a,b,c,d,e,f,h1,by rw [kQ4,h1];rfl,kQ5 h1⟩
 rcases aI.exF (P:=Tp) (k:=7) (b:=sub (cd Tryz.f153) [1,0,1,0,0]) (e1 := .ret) (e2 := .exit 0) (fun i T=>cQ dl sk dc ov i l l.length (aE T) T.length 0 0 0 0 0 0)
  (fun i T=>cF (cQ dl sk dc ov i l l.length (aE T) T.length ((l.getD i []).getD 0 0) ((l.getD i []).getD 1 0) ((l.getD i []).getD 2 0) ((l.getD i []).getD 3 0) ((l.getD i []).getD 4 0) ((l.getD i []).getD 5 0)) [(7,.kb true)])
  (fun T=>cQ dl sk dc ov l.length l l.length (aE T) T.length 0 0 0 0 0 0) (cD dl oc dc) (by simp) (by simp) (fun i=>cT (dK (l.getD i [])) && cU dl oc dc (l.getD i [])) l.length
  (fun i T1 hi h1 hp=>by
   obtain ⟨a,b,c,d,e,f,g1,g2,g3⟩:=hx i hi;rw [g2] at hp
   cases hq:cT b with
   | false=>exact ⟨T1,h1,aPi (by omega) g1 hu hq (aO (by omega)) rfl⟩
   | true =>
    have hp:(cT b && cU dl oc dc [a,b,c,d,e,f])=false:=hp;rw [hq,iJ] at hp
    obtain ⟨T2,h2,c2⟩:=hC _ g3 T1 h1;rw [hp] at c2
    exact ⟨T2,h2,aPh (by omega) g1 hu hq c2 rfl (aO (by omega)) rfl rfl rfl⟩)
  (fun i T1 hi h1 hp=>by
   obtain ⟨a,b,c,d,e,f,g1,g2,g3⟩:=hx i hi;rw [g2] at hp ⊢
   rw [kQ6] at hp
   obtain ⟨T2,h2,c2⟩:=hC _ g3 T1 h1;rw [hp.2] at c2
   exact ⟨T2,h2,aPg (by omega) g1 hu hp.1 c2 rfl rfl rfl⟩)
  (fun T1 h1=>aPj (by omega)) hT with ⟨i,T',h1,h2,h3,h4,h5⟩ | ⟨h1,T',h2,h3⟩
 ·obtain ⟨a,b,c,d,e,f,g1,g2,g3⟩:=hx i h1
  rw [g2] at h2 h5
  refine .inl ⟨i,T',_,g1,h2,fun j z hj hz => ?_,h4,h5⟩
  have:=h3 j hj;rw [kQ4,hz] at this
  exact this
 ·refine .inr ⟨?_,T',h2,h3⟩
  rw [aGv];intro y hy;obtain ⟨i,hi,rfl⟩:=List.mem_iff_getElem.1 hy;have:=h1 i hi;rw [kQ4,kQ0 hi] at this
  simpa using this
theorem bJt(hd:cI dc){x:List Int}(hx:x∈dc)(hC:∀ y∈bY dc (dN x),pP dl sk dc oc ov y):bMz dl sk dc oc ov 155 (fun y=>cT (dK y)) x:=fun T hT=>by
 have hn:=fP hd hx;have hk:=aHh hd hn;have hL:=aXz (bY dc (dN x)) (gX hd _) (wK hd _) hC T hT;obtain ⟨x0,x1,x2,x3,x4,x5,rfl⟩:=len6 (hd.ud x hx)
 rcases aHi hd (n:=dN [x0,x1,x2,x3,x4,x5]) (by omega) with ⟨h1,h2⟩ | ⟨h1,h2⟩
 ·rcases hL with ⟨i,T',y,q1,q2,q3,q4,q5⟩ | ⟨q1,T',q2,q3⟩
  ·have hf:=aSq (p:=fun y=>cT (dK y) && cU dl oc dc y) q1 q2 q3
   rw [hf];obtain ⟨a,b,c,d,e,f,rfl⟩:=len6 (gX hd _ _ (kQ5 q1));exact ⟨T',q4,bKa hk h1 h2 q5⟩
  ·rw [q1]
   exact ⟨T',q2,bJz hk h1 h2 q3⟩
 ·rw [h2] at hL ⊢
  rcases hL with ⟨i,T',y,q1,q2,q3,q4,q5⟩ | ⟨q1,T',q2,q3⟩
  ·simp at q1
  ·exact ⟨T',q2,bKb hk h1 q3⟩
theorem aYa(l:Lqq)(hu:uni 6 l)(hl:l.length≤1000)(hC:∀ y∈l,pP dl sk dc oc ov y)(T:Lqb)(hT:cD dl oc dc T) :
  (∃ i T' y,l[i]? = some y∧(dK y == 6 && cU dl oc dc y)=true∧(∀ j z,j<i→l[j]? = some z→(dK z == 6 && cU dl oc dc z)=false)∧cD dl oc dc T'∧aI Tp 7 (sub (cd Tryz.f153) [1,0,1,0,0]) (cR dl sk dc ov 0 l l.length (aE T) T.length 0 0 0 0 0 0) .ret (cF (cR dl sk dc ov i l l.length (aE T') T'.length (y.getD 0 0) (y.getD 1 0) (y.getD 2 0) (y.getD 3 0) (y.getD 4 0) (y.getD 5 0)) [(7,.kb true)])) ∨
  ((l.find? fun y=>dK y == 6 && cU dl oc dc y)=none∧∃ T',cD dl oc dc T'∧aI Tp 7 (sub (cd Tryz.f153) [1,0,1,0,0]) (cR dl sk dc ov 0 l l.length (aE T) T.length 0 0 0 0 0 0) (.exit 0) (cR dl sk dc ov l.length l l.length (aE T') T'.length 0 0 0 0 0 0)):=by
 have hx:∀ i,i<l.length→∃ a b c d e f,l[i]? = some [a,b,c,d,e,f]∧l.getD i []=[a,b,c,d,e,f]∧[a,b,c,d,e,f]∈l:=fun i hi=>by
  obtain ⟨a,b,c,d,e,f,h⟩:=len6 (hu _ (eY hi));have h1:l[i]? = some [a,b,c,d,e,f]:=by rw [kQ0 hi,h]
  exact ⟨a,b,c,d,e,f,h1,by rw [kQ4,h1];rfl,kQ5 h1⟩
 rcases aI.exF (P:=Tp) (k:=7) (b:=sub (cd Tryz.f153) [1,0,1,0,0]) (e1 := .ret) (e2 := .exit 0) (fun i T=>cR dl sk dc ov i l l.length (aE T) T.length 0 0 0 0 0 0)
  (fun i T=>cF (cR dl sk dc ov i l l.length (aE T) T.length ((l.getD i []).getD 0 0) ((l.getD i []).getD 1 0) ((l.getD i []).getD 2 0) ((l.getD i []).getD 3 0) ((l.getD i []).getD 4 0) ((l.getD i []).getD 5 0)) [(7,.kb true)])
  (fun T=>cR dl sk dc ov l.length l l.length (aE T) T.length 0 0 0 0 0 0) (cD dl oc dc) (by simp) (by simp) (fun i=>dK (l.getD i []) == 6 && cU dl oc dc (l.getD i [])) l.length
  (fun i T1 hi h1 hp=>by
   obtain ⟨a,b,c,d,e,f,g1,g2,g3⟩:=hx i hi;rw [g2] at hp
   cases hq:(b == 6) with
   | false=>exact ⟨T1,h1,aPm (by omega) g1 hu hq (aO (by omega)) rfl⟩
   | true =>
    have hp:((b == 6) && cU dl oc dc [a,b,c,d,e,f])=false:=hp;rw [hq,iJ] at hp
    obtain ⟨T2,h2,c2⟩:=hC _ g3 T1 h1;rw [hp] at c2
    exact ⟨T2,h2,aPl (by omega) g1 hu hq c2 rfl (aO (by omega)) rfl rfl rfl⟩)
  (fun i T1 hi h1 hp=>by
   obtain ⟨a,b,c,d,e,f,g1,g2,g3⟩:=hx i hi;rw [g2] at hp ⊢
   rw [kQ6] at hp
   obtain ⟨T2,h2,c2⟩:=hC _ g3 T1 h1;rw [hp.2] at c2
   exact ⟨T2,h2,aPk (by omega) g1 hu hp.1 c2 rfl rfl rfl⟩)
  (fun T1 h1=>aPn (by omega)) hT with ⟨i,T',h1,h2,h3,h4,h5⟩ | ⟨h1,T',h2,h3⟩
 ·obtain ⟨a,b,c,d,e,f,g1,g2,g3⟩:=hx i h1
  rw [g2] at h2 h5
  refine .inl ⟨i,T',_,g1,h2,fun j z hj hz => ?_,h4,h5⟩
  have:=h3 j hj;rw [kQ4,hz] at this
  exact this
 ·refine .inr ⟨?_,T',h2,h3⟩
  rw [aGv];intro y hy;obtain ⟨i,hi,rfl⟩:=List.mem_iff_getElem.1 hy;have:=h1 i hi;rw [kQ4,kQ0 hi] at this
  simpa using this
theorem bJu(hd:cI dc){x:List Int}(hx:x∈dc)(hC:∀ y∈bY dc (dN x),pP dl sk dc oc ov y):bMz dl sk dc oc ov 159 (fun y=>dK y == 6) x:=fun T hT=>by
 have hn:=fP hd hx;have hk:=aHh hd hn;have hL:=aYa (bY dc (dN x)) (gX hd _) (wK hd _) hC T hT;obtain ⟨x0,x1,x2,x3,x4,x5,rfl⟩:=len6 (hd.ud x hx)
 rcases aHi hd (n:=dN [x0,x1,x2,x3,x4,x5]) (by omega) with ⟨h1,h2⟩ | ⟨h1,h2⟩
 ·rcases hL with ⟨i,T',y,q1,q2,q3,q4,q5⟩ | ⟨q1,T',q2,q3⟩
  ·have hf:=aSq (p:=fun y=>dK y == 6 && cU dl oc dc y) q1 q2 q3
   rw [hf];obtain ⟨a,b,c,d,e,f,rfl⟩:=len6 (gX hd _ _ (kQ5 q1));exact ⟨T',q4,bKd hk h1 h2 q5⟩
  ·rw [q1]
   exact ⟨T',q2,bKc hk h1 h2 q3⟩
 ·rw [h2] at hL ⊢
  rcases hL with ⟨i,T',y,q1,q2,q3,q4,q5⟩ | ⟨q1,T',q2,q3⟩
  ·simp at q1
  ·exact ⟨T',q2,bKe hk h1 q3⟩

theorem bEi(hd:cI dc){x:List Int}(hx:x∈dc)(hC:∀ y∈bY dc (dN x),pP dl sk dc oc ov y):bNa dl sk dc oc ov x:=fun T hT=>by
 obtain ⟨T',h1,h2⟩:=bJt hd hx hC T hT;rw [← aBu hd hx] at h2
 obtain ⟨x0,x1,x2,x3,x4,x5,rfl⟩:=len6 (hd.ud x hx);have hz:∀ z,tJ dl oc dc [x0,x1,x2,x3,x4,x5]=some z→z.length=6:=fun z hz=>by
  rw [aBu hd hx] at hz
  exact gX hd _ z (wC hz)
 cases hr:tJ dl oc dc [x0,x1,x2,x3,x4,x5] with
 | none =>
  rw [hr] at h2
  exact ⟨T',h1,bEl (z0:=0) (z1:=0) (z2:=0) (z3:=0) (z4:=0) (z5:=0) h2⟩
 | some z =>
  obtain ⟨a,b,c,d,e,f,rfl⟩:=len6 (hz z hr);rw [hr] at h2
  exact ⟨T',h1,bEl h2⟩
theorem bRb(hd:cI dc){x:List Int}(hx:x∈dc)(hC:∀ y∈bY dc (dN x),pP dl sk dc oc ov y):bNb dl sk dc oc ov x:=fun T hT=>by
 obtain ⟨T',h1,h2⟩:=bJu hd hx hC T hT;rw [← aBv hd hx] at h2
 obtain ⟨x0,x1,x2,x3,x4,x5,rfl⟩:=len6 (hd.ud x hx);have hz:∀ z,aHn dl oc dc [x0,x1,x2,x3,x4,x5]=some z→z.length=6:=fun z hz=>by
  rw [aBv hd hx] at hz
  exact gX hd _ z (wC hz)
 cases hr:aHn dl oc dc [x0,x1,x2,x3,x4,x5] with
 | none =>
  rw [hr] at h2
  exact ⟨T',h1,bEm (z0:=0) (z1:=0) (z2:=0) (z3:=0) (z4:=0) (z5:=0) h2⟩
 | some z =>
  obtain ⟨a,b,c,d,e,f,rfl⟩:=len6 (hz z hr);rw [hr] at h2
  exact ⟨T',h1,bEm h2⟩
theorem bEj(hd:cI dc)(hov:∀ n,qT ov n (oc.contains n)){x:List Int}(hx:x∈dc)(hC:∀ y∈bY dc (dN x),pP dl sk dc oc ov y):aSr dl sk dc oc ov x:=fun T hT=>by
 obtain ⟨T',h1,h2⟩:=bEi hd hx hC T hT;rw [bRu hd hx];obtain ⟨x0,x1,x2,x3,x4,x5,rfl⟩:=len6 (hd.ud x hx);have hz:∀ z,tJ dl oc dc [x0,x1,x2,x3,x4,x5]=some z→z.length=6:=fun z hz=>by
  rw [aBu hd hx] at hz
  exact gX hd _ z (wC hz)
 cases hr:tJ dl oc dc [x0,x1,x2,x3,x4,x5] with
 | none =>
  rw [hr] at h2
  exact ⟨T',h1,bRp (z0:=0) (z1:=0) (z2:=0) (z3:=0) (z4:=0) (z5:=0) h2 rfl (hov _)⟩
 | some z =>
  obtain ⟨a,b,c,d,e,f,rfl⟩:=len6 (hz z hr);rw [hr] at h2
  exact ⟨T',h1,bRo h2 rfl rfl⟩
abbrev pF(dl:Int)(oc:List Int)(dc:Lqq)(x y:List Int):Bool:=uZ x y && cU dl oc dc y && (dK y == 5 || aHm dl oc dc y)
theorem bEk{x0 x1 x2 x3 x4 x5:Int}(hd:cI dc)(l:Lqq)(hu:uni 6 l)(hl:l.length≤1000)(hC:∀ y∈l,pP dl sk dc oc ov y)(hU:∀ y∈l,aSr dl sk dc oc ov y)(T:Lqb)(hT:cD dl oc dc T)(is:Bool) :
  ∃ T',cD dl oc dc T'∧aI Tp 7 (sub (cd Tryz.f154) [1,1,1,0,1,0,0]) (bV dl sk dc ov x0 x1 x2 x3 x4 x5 is 0 l l.length (aE T) T.length) (.exit 0) (bV dl sk dc ov x0 x1 x2 x3 x4 x5 (is && !(l.any (pF dl oc dc [x0,x1,x2,x3,x4,x5]))) l.length l l.length (aE T') T'.length):=by
 have hx:∀ i,i<l.length→∃ a b c d e f,l[i]? = some [a,b,c,d,e,f]∧[a,b,c,d,e,f]∈l:=fun i hi=>by
  obtain ⟨a,b,c,d,e,f,h⟩:=len6 (hu _ (eY hi));have h1:l[i]? = some [a,b,c,d,e,f]:=by rw [kQ0 hi,h]
  exact ⟨a,b,c,d,e,f,h1,kQ5 h1⟩
 have et:∀ i y,l[i]? = some y→(l.take (i+1)).any (pF dl oc dc [x0,x1,x2,x3,x4,x5])=((l.take i).any (pF dl oc dc [x0,x1,x2,x3,x4,x5]) || pF dl oc dc [x0,x1,x2,x3,x4,x5] y):=fun i y h=>by
  rw [List.take_add_one,h,List.any_append];simp
 obtain ⟨acc, ⟨h1,h2⟩,h3⟩:=aI.ex (P:=Tp) (k:=7) (b:=sub (cd Tryz.f154) [1,1,1,0,1,0,0]) (e := .exit 0) (fun i (a:Bool × Lqb)=>bV dl sk dc ov x0 x1 x2 x3 x4 x5 a.1 i l l.length (aE a.2) a.2.length)
  (fun a=>bV dl sk dc ov x0 x1 x2 x3 x4 x5 a.1 l.length l l.length (aE a.2) a.2.length) (fun i a=>cD dl oc dc a.2∧a.1=(is && !((l.take i).any (pF dl oc dc [x0,x1,x2,x3,x4,x5])))) (by simp) l.length
  (fun i acc hi hI=>by
   obtain ⟨b,T1⟩:=acc;obtain ⟨h1,h2⟩:=hI;dsimp only at h1 h2
   obtain ⟨a,k,c,d,e,f,g1,g3⟩:=hx i hi;rw [et i _ g1];cases hb:b with
   | false =>
    rw [hb] at h2
    have hI:∀ q:Bool,false=(is && !((l.take i).any (pF dl oc dc [x0,x1,x2,x3,x4,x5]) || q)):=fun q=>by
     revert h2;cases is <;> cases (l.take i).any (pF dl oc dc [x0,x1,x2,x3,x4,x5]) <;> cases q <;> simp
    by_cases h5:k=5
    ·exact ⟨(false,T1),⟨h1,hI _⟩,aYe (by omega) g1 hu h5 rfl (aO (by omega)) rfl⟩
    ·by_cases h7:k=7
     ·exact ⟨(false,T1),⟨h1,hI _⟩,aYj (by omega) g1 hu h5 h7 rfl (aO (by omega)) rfl⟩
     ·exact ⟨(false,T1),⟨h1,hI _⟩,aYl (by omega) g1 hu h5 h7 rfl (aO (by omega)) rfl⟩
   | true =>
    rw [hb] at h2
    have hI:∀ q:Bool,(!q)=(is && !((l.take i).any (pF dl oc dc [x0,x1,x2,x3,x4,x5]) || q)):=fun q=>by
     revert h2;cases is <;> cases (l.take i).any (pF dl oc dc [x0,x1,x2,x3,x4,x5]) <;> cases q <;> simp
    have hIt:∀ q:Bool,q=true→false=(is && !((l.take i).any (pF dl oc dc [x0,x1,x2,x3,x4,x5]) || q)):=fun q hq=>by
     rw [← hI,hq];rfl
    have hIf:∀ q:Bool,q=false→true=(is && !((l.take i).any (pF dl oc dc [x0,x1,x2,x3,x4,x5]) || q)):=fun q hq=>by
     rw [← hI,hq];rfl
    obtain ⟨T2,q1,q2⟩:=hC _ g3 T1 h1
    by_cases h5:k=5
    ·cases hc:cU dl oc dc [a,k,c,d,e,f] with
     | true =>
      rw [hc] at q2
      exact ⟨(false,T2),⟨q1,hIt _ (by subst h5;simp [pF,uZ,hc])⟩,aYc (by omega) g1 hu h5 rfl q2 rfl (aO (by omega)) rfl rfl rfl⟩
     | false =>
      rw [hc] at q2
      exact ⟨(true,T2),⟨q1,hIf _ (by simp [pF,hc])⟩,aYd (by omega) g1 hu h5 rfl q2 rfl (aO (by omega)) rfl rfl rfl⟩
    ·by_cases h7:k=7
     ·cases hr:cT x1 with
      | true=>exact ⟨(true,T1),⟨h1,hIf _ (by simp [pF,uZ,hr,h5])⟩,aYi (by omega) g1 hu h5 h7 rfl hr (aO (by omega)) rfl⟩
      | false =>
       cases hc:cU dl oc dc [a,k,c,d,e,f] with
       | true =>
        rw [hc] at q2
        obtain ⟨T3,q3,q4⟩:=hU _ g3 T2 q1;cases hu2:aHm dl oc dc [a,k,c,d,e,f] with
        | true =>
         rw [hu2] at q4
         exact ⟨(false,T3),⟨q3,hIt _ (by subst h7;simp [pF,uZ,hc,hr,hu2])⟩,aYf (by omega) g1 hu h5 h7 rfl hr q2 rfl q4 rfl (aO (by omega)) rfl rfl rfl⟩
        | false =>
         rw [hu2] at q4
         exact ⟨(true,T3),⟨q3,hIf _ (by simp [pF,uZ,hu2,h5])⟩,aYg (by omega) g1 hu h5 h7 rfl hr q2 rfl q4 rfl (aO (by omega)) rfl rfl rfl⟩
       | false =>
        rw [hc] at q2
        exact ⟨(true,T2),⟨q1,hIf _ (by simp [pF,hc])⟩,aYh (by omega) g1 hu h5 h7 rfl hr q2 rfl (aO (by omega)) rfl rfl rfl⟩
     ·exact ⟨(true,T1),⟨h1,hIf _ (by simp [pF,uZ,h5,h7])⟩,aYk (by omega) g1 hu h5 h7 rfl (aO (by omega)) rfl⟩)
  (fun acc hI=>aPo (by omega)) (acc:=(is,T)) ⟨hT,by simp⟩
 obtain ⟨b,T1⟩:=acc;dsimp only at h1 h2 h3
 rw [List.take_length] at h2
 rw [h2] at h3
 exact ⟨T1,h1,h3⟩
theorem bRc(hd:cI dc){x:List Int}(hx:x∈dc)(hC:∀ y∈bY dc (dN x),pP dl sk dc oc ov y)(hU:∀ y∈bY dc (dN x),aSr dl sk dc oc ov y):pP dl sk dc oc ov x:=fun T hT=>by
 have hn:=fP hd hx;have hk:=aHh hd hn;obtain ⟨x0,x1,x2,x3,x4,x5,rfl⟩:=len6 (hd.ud x hx);obtain ⟨T',h1,hL⟩:=bEk (x0:=x0) (x1:=x1) (x2:=x2) (x3:=x3) (x4:=x4) (x5:=x5) hd (bY dc (dN [x0,x1,x2,x3,x4,x5])) (gX hd _) (wK hd _) hC hU T hT (!mU dl [x0,x1,x2,x3,x4,x5]);have hc:(!mU dl [x0,x1,x2,x3,x4,x5] && !((bY dc (dN [x0,x1,x2,x3,x4,x5])).any (pF dl oc dc [x0,x1,x2,x3,x4,x5])))=cU dl oc dc [x0,x1,x2,x3,x4,x5]:=(bRt hd hx).symm;rw [hc] at hL
 cases hh:dO (aE T) (.int .i64 (dN [x0,x1,x2,x3,x4,x5])) with
 | true=>exact ⟨T,hT,bRj (hT.keys hd hn) hh (hT.look hd hx hh)⟩
 | false =>
  cases hh2:dO (aE T') (.int .i64 (dN [x0,x1,x2,x3,x4,x5])) with
  | true =>
   refine ⟨T',h1,?_⟩
   rcases aHi hd (n:=dN [x0,x1,x2,x3,x4,x5]) (by omega) with ⟨a1,a2⟩ | ⟨a1,a2⟩
   ·have:=bRk (x0:=x0) (hT.keys hd hn) hh hk a1 a2 hL (h1.keys hd hn) hh2
    rw [show oK (aE T') (.int .i64 x0) (blP (cU dl oc dc [x0,x1,x2,x3,x4,x5]))=aE T' from h1.again hd hx] at this
    exact this
   ·rw [a2] at hL
    have:=bRm (x0:=x0) (hT.keys hd hn) hh hk a1 hL (h1.keys hd hn) hh2;rw [show oK (aE T') (.int .i64 x0) (blP (cU dl oc dc [x0,x1,x2,x3,x4,x5]))=aE T' from h1.again hd hx] at this
    exact this
  | false =>
   refine ⟨T'++[(x0,cU dl oc dc [x0,x1,x2,x3,x4,x5])],h1.put hx hh2,?_⟩;have e1:(T'++[(x0,cU dl oc dc [x0,x1,x2,x3,x4,x5])]).length=T'.length+1:=by simp
   unfold pT cW;rw [aYm,e1]
   rcases aHi hd (n:=dN [x0,x1,x2,x3,x4,x5]) (by omega) with ⟨a1,a2⟩ | ⟨a1,a2⟩
   ·exact bRl (hT.keys hd hn) hh hk a1 a2 hL (h1.keys hd hn) hh2
   ·rw [a2] at hL
    exact bRn (hT.keys hd hn) hh hk a1 hL (h1.keys hd hn) hh2
theorem qS(hd:cI dc){x y:List Int}(hx:x∈dc)(hy:y∈bY dc (dN x)):y∈dc∧dN x<dN y:=by
 obtain ⟨h1,h2⟩:=eI hy;exact ⟨h1,bEo hd h1 h2 (fP hd hx).1⟩
theorem aHj(hd:cI dc)(hov:∀ n,qT ov n (oc.contains n)):∀ (n:Nat) (x:List Int),x∈dc→10000-dN x≤(n:Int)→pP dl sk dc oc ov x
 | 0,x,hx,h=>by have:=fP hd hx;omega
 | n+1,x,hx,h=>bRc hd hx (fun y hy=>by
   obtain ⟨h1,h2⟩:=qS hd hx hy;exact aHj hd hov n y h1 (by omega)) (fun y hy=>by
   obtain ⟨h1,h2⟩:=qS hd hx hy;exact bEj hd hov h1 fun z hz=>by
    obtain ⟨h3,h4⟩:=qS hd h1 hz;exact aHj hd hov n z h3 (by omega))
theorem aYb(hd:cI dc)(hov:∀ n,qT ov n (oc.contains n)){x:List Int}(hx:x∈dc):pP dl sk dc oc ov x:=aHj hd hov 10000 x hx (by have:=fP hd hx;omega)
theorem bVu(hd:cI dc)(hov:∀ n,qT ov n (oc.contains n)){x:List Int}(hx:x∈dc):bNa dl sk dc oc ov x:=bEi hd hx fun y hy=>aYb hd hov (eI hy).1
theorem bVv(hd:cI dc)(hov:∀ n,qT ov n (oc.contains n)){x:List Int}(hx:x∈dc):bNb dl sk dc oc ov x:=bRb hd hx fun y hy=>aYb hd hov (eI hy).1
theorem bVw(hd:cI dc)(hov:∀ n,qT ov n (oc.contains n)){x:List Int}(hx:x∈dc):aSr dl sk dc oc ov x:=bEj hd hov hx fun y hy=>aYb hd hov (eI hy).1
theorem aSs(hd:cI dc)(hov:∀ n,qT ov n (oc.contains n)):∀ (n:Nat) (x:List Int),x∈dc→10000-dN x≤(n:Int)→bNc dl sk dc oc ov x
 | 0,x,hx,h=>by have:=fP hd hx;omega
 | n+1,x,hx,h=>fun T hT=>by
  obtain ⟨T',h1,h2⟩:=bVv (dl:=dl) (sk:=sk) hd hov hx T hT;rw [aSw hd hx];cases hr:aHn dl oc dc x with
  | none =>
   rw [hr] at h2
   obtain ⟨x0,x1,x2,x3,x4,x5,rfl⟩:=len6 (hd.ud x hx);exact ⟨T',h1,bRr (z0:=0) (z1:=0) (z2:=0) (z3:=0) (z4:=0) (z5:=0) h2 rfl⟩
  | some z =>
   have hz:z∈bY dc (dN x):=by
    rw [aBv hd hx] at hr
    exact wC hr
   obtain ⟨a1,a2⟩:=qS hd hx hz;obtain ⟨T2,h3,h4⟩:=aSs hd hov n z a1 (by omega) T' h1
   rw [hr] at h2
   obtain ⟨x0,x1,x2,x3,x4,x5,rfl⟩:=len6 (hd.ud x hx);obtain ⟨a,b,c,d,e,f,rfl⟩:=len6 (hd.ud z a1);exact ⟨T2,h3,bRq h2 rfl h4⟩
theorem bVx(hd:cI dc)(hov:∀ n,qT ov n (oc.contains n)){x:List Int}(hx:x∈dc):bNc dl sk dc oc ov x:=aSs hd hov 10000 x hx (by have:=fP hd hx;omega)
theorem uY(n:Int):qT bW n (([]:List Int).contains n):=fun base=>FV.argwk (pC [] n (by simp)) (by kernel_rfl)
theorem aBr{l:List Int}(hl:l.length≤1000)(n:Int):qT (aG l) n (l.contains n):=fun base=>pC l n hl
end
end
section
variable {P:Program} {T:TT} {E:Env} {C C0:Cx} {M M0 M1:Mem} {w w0:World}

def bkN(all:List Nat)(j:Nat):Option Nat:=all[j]?
def vF(all0:List Nat):List Nat→Mem→Option Upd
 | i::r,some o::m=>match mpO (bkN all0) o with
  | some o'=>(vF all0 r m).map ((i,o') :: ·)
  | none=>none
 | [],[]=>some []
 | _,_=>none

theorem aFf{all0:List Nat}:∀ {ids:List Nat} {m:Mem} {L:Upd},vF all0 ids m=some L→ids.Nodup →
  m.length=ids.length ∧
  ∀ (N:Mem),(∀ (p i:Nat) (o':AO),ids[p]? = some i→(bS (upds N L) i=some o'↔∃ o,m[p]? = some (some o)∧mpO (bkN all0) o=some o')) ∧
   ∀ j,j∉ids→bS (upds N L) j=bS N j
 | [],[],L,h,_=>by
  unfold vF at h;cases h
  refine ⟨rfl,fun N=>⟨fun p i o' hp=>by simp at hp,fun _ _=>rfl⟩⟩
 | i::r,some o::m,L,h,hd=>by
  unfold vF at h
  split at h
  ·rename_i o' ho
   simp only [kC] at h
   obtain ⟨L',hL',rfl⟩:=h;obtain ⟨hd1,hd2⟩:=List.nodup_cons.1 hd;obtain ⟨q1,q2⟩:=aFf (ids:=r) hL' hd2;refine ⟨by simpa using q1,fun N => ?_⟩
   obtain ⟨r1,r4⟩:=q2 (aX N i (some o'));refine ⟨fun p j o2 hp => ?_,fun j hj => ?_⟩
   ·cases p with
    | zero =>
     simp at hp;subst hp
     simp only [upds];rw [r4 i hd1,cZ,if_pos rfl];constructor
     ·intro h;cases h;exact ⟨o,rfl,ho⟩
     ·rintro ⟨o3,h3,h4⟩
      simp at h3;subst h3
      rw [ho] at h4;exact h4
    | succ p =>
     simp only [upds];rw [List.getElem?_cons_succ] at hp
     rw [r1 p j o2 hp];rfl
   ·simp only [upds]
    rw [r4 j (fun e=>hj (kQ7 _ e)),cZ,if_neg (fun e=>hj (by simp [e]))]
  ·cases h
 | [],_::_,L,h,_=>by unfold vF at h;cases h
 | _::_,[],L,h,_=>by unfold vF at h;cases h
 | _::_,none::_,L,h,_=>by unfold vF at h;cases h

theorem aCb{all0:List Nat}:∀ {ids:List Nat} {m:Mem} {L:Upd},vF all0 ids m=some L→∀ (p:Nat) (o1:AO),m[p]? = some (some o1)→∃ o',mpO (bkN all0) o1=some o'
 | [],[],L,h,p,o1,hp=>by simp at hp
 | i::r,some o::m,L,h,p,o1,hp=>by
  unfold vF at h
  split at h
  ·rename_i hx
   simp only [kC] at h
   obtain ⟨L',hL',_⟩:=h;cases p with
   | zero=>simp at hp;subst hp;exact ⟨_,hx⟩
   | succ p=>exact aCb hL' p o1 (by simpa using hp)
  ·cases h
 | [],_::_,L,h,_,_,_=>by unfold vF at h;cases h
 | _::_,[],L,h,_,_,_=>by unfold vF at h;cases h
 | _::_,none::_,L,h,_,_,_=>by unfold vF at h;cases h

def Cx.backN(C C1:Cx)(all:List Nat):Cx :=
 {ι:=fun j=>match idx all j 0 with | some p=>C1.ι p | none=>C.ι j
  κ:=fun j=>match idx all j 0 with | some p=>C1.κ p | none=>C.κ j
  F:=C1.F }

theorem bFf{ids news:List Nat}{r y:AV}{L:Upd}{C1:Cx}{w':World}{u:Value}(hd:distinct 0 ids=true)(hda:distinct 0 (ids++news)=true)(hb:∀ i∈news,eW M i=true)
  (hs:rnM 0 ids (ids.map (at? M))=some M0) (hlv:∀ i∈ids,eF M i=true) (hU:vF (ids++news) (ids++news) M1=some L) (hy:mpA (bkN (ids++news)) r=some y)
  (hM:aR P C M w) (hF:Fr (C.rn 0 ids) M0 w C1 M1 w') (hM1:aR P C1 M1 w') (hr:Rep C1 M1 w' r u):Fr C M w (C.backN C1 (ids++news)) (upds M L) w'∧aR P (C.backN C1 (ids++news)) (upds M L) w'∧Rep (C.backN C1 (ids++news)) (upds M L) w' y u:=by
 obtain ⟨_,hnd⟩:=iD hd;obtain ⟨_,hna⟩:=iD hda;obtain ⟨hM0,hmp,hsrc⟩:=pW (k:=0) hM hd hs;have hlen:M0.length=ids.length:=by have:=(zM hs).1;simpa using this
 generalize hall:ids++news=all at *
 obtain ⟨hl1,hup⟩:=aFf hU hna;obtain ⟨u1,u4⟩:=hup M;have hL:=hM0.le hF;have inA:∀ (p i:Nat),ids[p]? = some i→all[p]? = some i:=fun p i h=>by
  rw [← hall,aAy (kQ3.1 h).1];exact h
 have memA:∀ i,i∈all↔i∈ids∨i∈news:=fun i=>by rw [← hall];simp
 have newF:∀ (p i:Nat),all[p]? = some i→i∉ids→eW M i=true:=fun p i h hn=>by
  rcases (memA i).1 (kQ5 h) with h | h
  ·exact absurd h hn
  ·exact hb i h
 have oldP:∀ (p i:Nat),all[p]? = some i→i∈ids→ids[p]? = some i:=fun p i h hn=>by
  obtain ⟨q,hq,he⟩:=List.mem_iff_getElem.1 hn;have h2:ids[q]? = some i:=by rw [kQ0 hq,he]
  have e1:=oZ hna 0 h;have e2:=oZ hna 0 (inA q i h2);rw [e1] at e2
  have:p=q:=by simpa using e2
  rw [this];exact h2
 have rnp:∀ p i,ids[p]? = some i→rnI 0 ids i=some p:=fun p i h=>by
  have:=oZ hnd 0 h;unfold rnI;rw [show Nat.blt i 0=false from rfl,this,gE]
 have shown0:∀ p i,ids[p]? = some i→∃ o o0,M[i]? = some (some o)∧o.live=true∧M0[p]? = some (some o0)∧o0.live=true∧(C.rn 0 ids).ι p=C.ι i∧(C.rn 0 ids).κ p=C.κ i:=fun p i hp=>by
  obtain ⟨o,h1,h2⟩:=dL (hlv i (kQ5 hp));obtain ⟨o0,h3,h4⟩:=hmp.fw _ _ _ (rnp p i hp) h1;exact ⟨o,o0,h1,h2,h3,by rw [bK h4];exact h2,hmp.at_ _ _ (rnp p i hp)⟩
 have sh_of:∀ (p:Nat) (o0:AO),M0[p]? = some (some o0)→∃ i o,ids[p]? = some i∧M[i]? = some (some o)∧o.live=true∧o0.live=true∧(C.rn 0 ids).ι p=C.ι i:=fun p o0 hp=>by
  obtain ⟨hl,_⟩:=kQ3.1 hp;have hp':ids[p]? = some ids[p]:=kQ0 (by omega)
  obtain ⟨o,o1,h1,h2,h3,h4,h5,_⟩:=shown0 p _ hp';rw [hp] at h3;cases h3
  exact ⟨_,o,hp',h1,h2,h4,h5⟩
 have apart:∀ (j:Nat) (o:AO) (b:Nat),j∉ids→M[j]? = some (some o)→o.live=true→C.ι j=some b→w'.heap[b]? = w.heap[b]? ∧ ¬ C1.F b∧∀ (p:Nat) (o1:AO),M1[p]? = some (some o1)→o1.live=true→C1.ι p≠some b:=fun j o b hj h1 h2 h3=>by
  have hb1:=hM.lt j o b h1 h2 h3;have no0:∀ (p:Nat) (o0:AO),M0[p]? = some (some o0)→o0.live=true→(C.rn 0 ids).ι p≠some b:=fun p o0 hp _ he=>by
   obtain ⟨i,o2,q1,q2,q3,_,q4⟩:=sh_of p o0 hp;rw [q4] at he
   have:=hM.inj j i o o2 b h1 h2 q2 q3 h3 he;subst this;exact hj (kQ5 q1)
  refine ⟨hF.keep b hb1 no0,fun hf => ?_,fun p o1 hp hl he => ?_⟩
  ·rcases hF.F2 b hf with q | q | ⟨p,o0,q1,q2,q3⟩
   ·exact hM.nF j o b h1 h2 h3 q
   ·omega
   ·exact no0 p o0 q1 q2 q3
  ·rcases hF.new p o1 b hp hl he with q | ⟨p0,o0,q1,q2,q3⟩
   ·omega
   ·exact no0 p0 o0 q1 q2 q3
 have ix:∀ j,(j∈all→∃ p,idx all j 0=some p∧all[p]? = some j)∧(j∉all→idx all j 0=none):=fun j=>by
  refine ⟨fun hj => ?_,fun hj => ?_⟩
  ·obtain ⟨p,hp,he⟩:=List.mem_iff_getElem.1 hj
   have:all[p]? = some j:=by rw [kQ0 hp,he]
   exact ⟨p,by simpa using oZ hna 0 this,this⟩
  ·cases h1:idx all j 0 with
   | none=>rfl
   | some p =>
    obtain ⟨_,h2⟩:=tR _ _ _ _ h1;exact absurd (kQ5 h2) hj
 have cls:∀ (j:Nat) (o':AO),(upds M L)[j]? = some (some o')→(∃ p o1,all[p]? = some j∧M1[p]? = some (some o1)∧mpO (bkN all) o1=some o'∧(C.backN C1 all).ι j=C1.ι p∧(C.backN C1 all).κ j=C1.κ p) ∨
   (j∉ids∧j∉all∧M[j]? = some (some o')∧(C.backN C1 all).ι j=C.ι j∧(C.backN C1 all).κ j=C.κ j):=fun j o' hj=>by
  rw [← bD] at hj
  by_cases hm:j∈all
  ·obtain ⟨p,hp1,hp2⟩:=(ix j).1 hm
   obtain ⟨o1,h1,h2⟩:=(u1 p j o' hp2).1 hj;exact .inl ⟨p,o1,hp2,h1,h2,by simp [Cx.backN,hp1],by simp [Cx.backN,hp1]⟩
  ·have hn:=(ix j).2 hm
   rw [u4 j hm] at hj
   exact .inr ⟨fun h=>hm ((memA j).2 (.inl h)),hm,bD.1 hj,by simp [Cx.backN,hn],by simp [Cx.backN,hn]⟩
 have hF2:Fr C M w (C.backN C1 all) (upds M L) w':=by
  refine ⟨hF.os,hF.tape,hF.out,hF.size,fun b hb1 hn => ?_,fun i o ho => ?_,fun i o ho ty n cs hx => ?_,fun i o ho o' hx hl => ?_,fun j o b hj hl hjb => ?_,fun b hb=>hF.F1 b hb,fun b hb => ?_⟩
  ·exact hF.keep b hb1 fun p o0 hp hl he=>by
    obtain ⟨i,o2,q1,q2,q3,_,q4⟩:=sh_of p o0 hp;rw [q4] at he
    exact hn i o2 q2 q3 he
  ·by_cases hm:i∈all
   ·obtain ⟨p,hp1,hp2⟩:=(ix i).1 hm
    have hmi:i∈ids:=Classical.byContradiction fun hni=>cP (newF p i hp2 hni) o ho
    obtain ⟨_,o0,_,_,h3,h4,h5,h6⟩:=shown0 p i (oldP p i hp2 hmi);obtain ⟨⟨o1,q1⟩,q2,q3⟩:=hF.ids p o0 h3;refine ⟨?_,by simp only [Cx.backN,hp1];rw [q2,h5],by simp only [Cx.backN,hp1];rw [q3,h6]⟩
    obtain ⟨o',hq⟩:=aCb hU p o1 q1;exact ⟨o',bD.1 ((u1 p i o' hp2).2 ⟨o1,q1,hq⟩)⟩
   ·refine ⟨⟨o,bD.1 (by rw [u4 i hm];exact bD.2 ho)⟩,by simp [Cx.backN,(ix i).2 hm],by simp [Cx.backN,(ix i).2 hm]⟩
  ·rcases cls i _ hx with ⟨p,o1,q1,q2,q3,_⟩ | ⟨_,_,q3,_⟩
   ·have hmi:i∈ids:=Classical.byContradiction fun hni=>cP (newF p i q1 hni) o ho
    have q1:=oldP p i q1 hmi;rw [kL q3] at q2
    obtain ⟨o2,o0,h1,_,h3,_⟩:=shown0 p i q1;obtain ⟨cs',h5⟩:=hF.row p o0 h3 _ _ _ q2;obtain ⟨o4,h6,h7⟩:=hmp.bk _ _ _ (rnp p i q1) h5;rw [kL h7] at h6
    exact ⟨cs',h6⟩
   ·exact ⟨cs,q3⟩
  ·rcases cls i _ hx with ⟨p,o1,q1,q2,q3,_⟩ | ⟨_,_,q3,_⟩
   ·have hmi:i∈ids:=Classical.byContradiction fun hni=>cP (newF p i q1 hni) o ho
    obtain ⟨o2,o0,h1,h2,h3,_⟩:=shown0 p i (oldP p i q1 hmi);rw [ho] at h1;cases h1
    exact h2
   ·rw [ho] at q3;cases q3;exact hl
  ·have fin:∀ (p:Nat) (o1:AO),M1[p]? = some (some o1)→o1.live=true→C1.ι p=some b→w.heap.size≤b∨∃ (id0:Nat) (o0:AO),M[id0]? = some (some o0)∧o0.live=true∧C.ι id0=some b:=fun p o1 h1 h2 h3=>by
    rcases hF.new p o1 b h1 h2 h3 with q | ⟨p0,o0,q1,q2,q3⟩
    ·exact .inl q
    ·obtain ⟨i,o2,r1,r2,r3,_,r4⟩:=sh_of p0 o0 q1
     rw [r4] at q3
     exact .inr ⟨i,o2,r2,r3,q3⟩
   rcases cls j _ hj with ⟨p,o1,q1,q2,q3,q4,_⟩ | ⟨_,_,q3,q4,_⟩
   ·rw [q4] at hjb
    exact fin p o1 q2 (by rw [← bK q3];exact hl) hjb
   ·rw [q4] at hjb
    exact .inr ⟨j,o,q3,hl,hjb⟩
  ·rcases hF.F2 b hb with q | q | ⟨p,o0,q1,q2,q3⟩
   ·exact .inl q
   ·exact .inr (.inl q)
   ·obtain ⟨i,o2,r1,r2,r3,_,r4⟩:=sh_of p o0 q1
    rw [r4] at q3
    exact .inr (.inr ⟨i,o2,r2,r3,q3⟩)
 have hL2:=hM.le hF2;have hbk:aUg (bkN all) C1 (C.backN C1 all) M1 (upds M L):=by
  refine ⟨fun i j o' hij hj=>(u1 i j o' hij).1 (bD.2 hj),fun i j o hij hi => ?_,fun i j hij => ?_,fun _ h=>h⟩
  ·obtain ⟨o',hq⟩:=aCb hU i o hi
   exact ⟨o',bD.1 ((u1 i j o' hij).2 ⟨o,hi,hq⟩),hq⟩
  ·have:=oZ hna 0 hij
   rw [gE] at this
   simp [Cx.backN,this]
 refine ⟨hF2,⟨fun j ty n cs h => ?_,fun j ty cs h => ?_,fun j es cl h => ?_,fun j j' o1 o2 b q1 l1 q2 l2 e1 e2 => ?_,fun j o b h hl hb => ?_,hM1.Fs,fun j o b h hl hb => ?_⟩,rF hbk hr hy⟩
 ·rcases cls j _ h with ⟨p,o1,q1,q2,q3,q4,q5⟩ | ⟨q1,_,q3,q4,q5⟩
  ·rw [kL q3] at q2
   rw [q4,q5];exact hM1.row _ _ _ _ q2
  ·rw [q4,q5]
   rcases hM.row _ _ _ _ q3 with q | ⟨b,arr,inf,p0,p1,p2,p3,p4,p5,p6,p7,p8⟩
   ·exact .inl q
   ·exact .inr ⟨b,arr,inf,p0,by rw [(apart j _ b q1 q3 rfl p0).1];exact p1,p2,p3,p4,p5,p6,fun i hi=>(p7 i hi).mono hL2.F hL2.fz,p8⟩
 ·rcases cls j _ h with ⟨p,o1,q1,q2,q3,q4,q5⟩ | ⟨q1,_,q3,q4,q5⟩
  ·cases o1 with
   | box ty' l =>
    simp only [mpO,kC] at q3
    obtain ⟨l',hl',e⟩:=q3;cases e;obtain ⟨b,arr,p0,p1,p2,p3,p4⟩:=hM1.box _ _ _ q2;obtain ⟨n1,n2⟩:=fV hbk (w:=w') (us:=fun j=>arr.getD j undef) p3 hl'
    exact ⟨b,arr,by rw [q4];exact p0,p1,by omega,n2,fun j hj=>p4 j (by omega)⟩
   | row=>simp [mpO] at q3
   | mp=>simp [mpO] at q3
   | pk=>simp [mpO] at q3
   | dead=>simp [mpO] at q3
  ·obtain ⟨b,arr,p0,p1,p2,p3,p4⟩:=hM.box _ _ _ q3
   exact ⟨b,arr,by rw [q4];exact p0,by rw [(apart j _ b q1 q3 rfl p0).1];exact p1,p2,fun i hi=>(p3 i hi).mono hL2,p4⟩
 ·rcases cls j _ h with ⟨p,o1,q1,q2,q3,q4,q5⟩ | ⟨q1,_,q3,q4,q5⟩
  ·cases o1 with
   | mp es' cl' =>
    simp only [mpO,Option.some.injEq] at q3
    cases q3;obtain ⟨b,arr,p0,p1,p2,p3⟩:=hM1.mp _ _ _ q2;refine ⟨b,arr,by rw [q4];exact p0,p1,p2,fun j hj => ?_⟩
    obtain ⟨en,s1,s2,s3,s4⟩:=p3 j hj;exact ⟨en,s1,s2,s3,s4.mono hbk.F (fun _ _=>rfl)⟩
   | row=>simp [mpO] at q3
   | box=>simp [mpO] at q3
   | pk=>simp [mpO] at q3
   | dead=>simp [mpO] at q3
  ·obtain ⟨b,arr,p0,p1,p2,p3⟩:=hM.mp _ _ _ q3
   refine ⟨b,arr,by rw [q4];exact p0,by rw [(apart j _ b q1 q3 rfl p0).1];exact p1,p2,fun i hi => ?_⟩
   obtain ⟨en,s1,s2,s3,s4⟩:=p3 i hi;exact ⟨en,s1,s2,s3,s4.mono hL2.F hL2.fz⟩
 ·rcases cls j _ q1 with ⟨p,a1,r1,r2,r3,r4,_⟩ | ⟨r1,rb,r3,r4,_⟩ <;> rcases cls j' _ q2 with ⟨p',a2,t1,t2,t3,t4,_⟩ | ⟨t1,tb,t3,t4,_⟩
  all_goals (rw [r4] at e1;rw [t4] at e2)
  ·have:=hM1.inj p p' a1 a2 b r2 (by rw [← bK r3];exact l1) t2 (by rw [← bK t3];exact l2) e1 e2
   subst this;rw [r1] at t1;cases t1;rfl
  ·exact absurd e1 ((apart j' o2 b t1 t3 l2 e2).2.2 p a1 r2 (by rw [← bK r3];exact l1))
  ·exact absurd e2 ((apart j o1 b r1 r3 l1 e1).2.2 p' a2 t2 (by rw [← bK t3];exact l2))
  ·exact hM.inj j j' o1 o2 b r3 l1 t3 l2 e1 e2
 ·rcases cls j _ h with ⟨p,o1,q1,q2,q3,q4,q5⟩ | ⟨q1,_,q3,q4,q5⟩
  ·rw [q4] at hb
   exact hM1.nF _ _ b q2 (by rw [← bK q3];exact hl) hb
  ·rw [q4] at hb
   exact (apart j o b q1 q3 hl hb).2.1
 ·rcases cls j _ h with ⟨p,o1,q1,q2,q3,q4,q5⟩ | ⟨q1,_,q3,q4,q5⟩
  ·rw [q4] at hb
   exact hM1.lt _ _ b q2 (by rw [← bK q3];exact hl) hb
  ·rw [q4] at hb
   exact kQ8 (hM.lt j o b q3 hl hb) hF.size

def bFg(ids news:List Nat)(args:List AV)(bs:Upd)(M1:Mem)(r:AV):Option (List AV × Mem × AV × Upd):=match distinct 0 ids && distinct 0 (ids++news) && ids.all (eF (upds [] bs)) with
 | true=>match rnM 0 ids (ids.map (at? (upds [] bs))) with
  | some M0=>match rnL 0 ids args with
   | some args0=>match vF (ids++news) (ids++news) M1 with
    | some L=>match mpA (bkN (ids++news)) r with
     | some y=>some (args0,M0,y,L)
     | none=>none
    | none=>none
   | none=>none
  | none=>none
 | false=>none
theorem FMM.fcN{f base k:Nat}(hk:Nat.ble k 8=true){ids:List Nat}{args args0:List AV}{bs:Upd}{r y:AV}{L:Upd}(h:FMM P f args0 M0 r M1)(hs:bFg ids ((List.range k).map (base + ·)) args bs M1 r=some (args0,M0,y,L)):FC P f args bs base y L:=fun M hb hf hf2=>by
 unfold bFg at hs
 have hsub:aMe (upds [] bs) M:=fun id o ho=>by
  rcases pU bs [] id o ho with h5 | h5
  ·exact hb _ h5
  ·simp [bS] at h5
 split at hs
 ·rename_i hd
  rw [kQ6,kQ6,gW] at hd
  obtain ⟨⟨hd1,hd2⟩,hd3⟩:=hd;have hlv:∀ i∈ids,∃ o,bS (upds [] bs) i=some o∧bS M i=some o∧o.live=true:=fun i hi=>by
   obtain ⟨o,h1,h2⟩:=dL (hd3 i hi);exact ⟨o,bD.2 h1,hsub _ _ (bD.2 h1),h2⟩
  split at hs
  ·rename_i h1
   split at hs
   ·rename_i h2
    split at hs
    ·rename_i h3
     split at hs
     ·rename_i h4
      cases hs;have he:ids.map (at? M)=ids.map (at? (upds [] bs)):=yN fun i hi=>by
       obtain ⟨o,q1,q2,_⟩:=hlv i hi;unfold at?
       rw [q1,q2]
      intro C w us hus hM n;have h1':rnM 0 ids (ids.map (at? M))=some M0:=by rw [he];exact h1
      obtain ⟨hM0,hmp,_⟩:=pW (k:=0) hM hd1 h1';refine (h (C.rn 0 ids) w us (aGz hmp hus h2) hM0 n).mono ?_;rintro e w' ⟨u,rfl,C1,hF,hM1,hr⟩;exact ⟨u,rfl,C.backN C1 (ids++(List.range k).map (base + ·)),bFf hd1 hd2 (fun i hi=>by
       obtain ⟨j,hj,rfl⟩:=eK.1 hi;have hj:=rV.1 hj;have hk:=Nat.le_of_ble_eq_true hk;exact hf2 j (by omega)) h1' (fun i hi=>by
       obtain ⟨o,_,q2,q3⟩:=hlv i hi;exact iN (bD.1 q2) q3) h3 h4 hM hF hM1 hr⟩
     ·cases hs
    ·cases hs
   ·cases hs
  ·cases hs
 ·cases hs
end
section
variable {dl:Int}{sk dc:Lqq}

noncomputable abbrev eA:Code:=sub (cd Tryz.f134) [1,1,0,1,0,0]
noncomputable abbrev nE:Code:=sub (cd Tryz.f83) [1,1,1,0,1,0,0]
theorem bEa:0≤(0:Int)∧(0:Int)<5:=by first | decide | simp
theorem bEb:0≤(1:Int)∧(1:Int)<5:=by first | decide | simp
theorem bEc:0≤(2:Int)∧(2:Int)<5:=by first | decide | simp
theorem bEd:0≤(3:Int)∧(3:Int)<5:=by first | decide | simp
theorem bEe:0≤(4:Int)∧(4:Int)<5:=by first | decide | simp
abbrev yO(dl:Int)(sk dc:Lqq)(ov:PV)(x:List Int)(bib:Int)(b:Bool)(T T2:Lqb):Prop:=FMM Tp 136 [fU,.p (.agg (x.map aA)),.p (aA bib)] (cW dl sk dc ov T) (pB b) (cW dl sk dc ov T2)
abbrev aDd(dl:Int)(sk dc:Lqq)(ov:PV)(s:List Int)(n:Int)(b:Bool)(T T2:Lqb):Prop:=FMM Tp 134 [pQ dl sk dc,.p (.agg (s.map aA)),fU] (cW dl sk dc ov T) (.tup [.p (aA n),.p (blP b)]) (cW dl sk dc ov T2)
abbrev bJs(g:Nat)(dl:Int)(sk dc:Lqq)(ov:PV)(x:List Int)(b:Bool)(T T2:Lqb):Prop:=FMM Tp g [pQ dl sk dc,fU,.p (.agg (x.map aA))] (cW dl sk dc ov T) (pB b) (cW dl sk dc ov T2)
theorem bQo{ov:PV}{T:Lqb}{x0 x1 x2 x3 x4 x5 bib:Int}{b0:Bool}{T1:Lqb}(h0:(decide (x1≤4))=true)(h1:x3=bib)(h2:pT dl sk dc ov [x0,x1,x2,x3,x4,x5] b0 T T1)(h3:b0=true)(h4:x1≠4):FMM Tp 136 [fU,(.p (dcE x0 x1 x2 x3 x4 x5)),(pI bib)] (cW dl sk dc ov T) (pB true) (cW dl sk dc ov T1):=by
 exact FMM.fin (k:=7) (g:=⟨[],[],[],[]⟩) rfl Tryz.func136 rfl (o:=[.c (pB (decide (x1≤4))) [],bT,bT,bT,bT,bT,bT,bT,bT,bT,.c (pB b0) (vU dl sk dc ov T1),bT,bT,bT,bT,bT,bT,bT,bT,bT,bT,bT,bT]) (l:=[_,_,_,_,_,_,_,_,_,_,_,_,FC Tp 154 [(.p (dcE x0 x1 x2 x3 x4 x5)),(.ptr 4 0),(.ptr 5 0),(.ptr 0 0),(.ptr 2 0)] [(4,(.box 207 [(.mp 3)])),(5,(vB5 dl sk dc)),(0,(vB0 dl sk dc)),(2,vB2),(3,(.mp (aE T) T.length)),(6,vB6),(1,(.box 33 [(.p ov)]))] 9 (pB b0) (vU dl sk dc ov T1),_,_,_,_,_,_,_,_,_,_]) (by kernel_rfl) (gc h3 (gc (nX h4) (gc h3 (g4c (nX h4) (g4c h3 (gc (dR h1) (gc (FMM.fc (ids:=[0,1,2,3,4,5,6]) h2 (by kernel_rfl)) (g4c (dR h1) (g5c h0 (gc (fk 9 (eG x1) rfl) gn))))))))))
theorem bQp{ov:PV}{T:Lqb}{x0 x1 x2 x3 x4 x5 bib:Int}{b0:Bool}{T1:Lqb}{b2:Bool}{T3:Lqb}(h0:(decide (x1≤4))=true)(h1:x3=bib)(h2:pT dl sk dc ov [x0,x1,x2,x3,x4,x5] b0 T T1)(h3:b0=true)(h4:x1=4)(h5:bJv dl sk dc ov [x0,x1,x2,x3,x4,x5] b2 T1 T3):FMM Tp 136 [fU,(.p (dcE x0 x1 x2 x3 x4 x5)),(pI bib)] (cW dl sk dc ov T) (pB b2) (cW dl sk dc ov T3):=by
 exact FMM.fin (k:=7) (g:=⟨[],[],[],[]⟩) rfl Tryz.func136 rfl (o:=[.c (pB (decide (x1≤4))) [],bT,bT,bT,bT,bT,bT,bT,bT,bT,.c (pB b0) (vU dl sk dc ov T1),bT,bT,bT,bT,bT,bF,bF,bF,bF,.c (pB b2) (vU dl sk dc ov T3),bT,bF,bT]) (l:=[_,_,_,FC Tp 157 [(.p (dcE x0 x1 x2 x3 x4 x5)),(.ptr 2 0),(.ptr 1 0)] [(2,vB2),(1,(.box 33 [(.p ov)])),(4,(.box 207 [(.mp 3)])),(5,(vB5 dl sk dc)),(0,(vB0 dl sk dc)),(6,vB6),(3,(.mp (aE T1) T1.length))] 9 (pB b2) (vU dl sk dc ov T3),_,_,_,_,_,_,_,_,_,FC Tp 154 [(.p (dcE x0 x1 x2 x3 x4 x5)),(.ptr 4 0),(.ptr 5 0),(.ptr 0 0),(.ptr 2 0)] [(4,(.box 207 [(.mp 3)])),(5,(vB5 dl sk dc)),(0,(vB0 dl sk dc)),(2,vB2),(3,(.mp (aE T) T.length)),(6,vB6),(1,(.box 33 [(.p ov)]))] 9 (pB b0) (vU dl sk dc ov T1),_,_,_,_,_,_,_,_,_,_]) (by kernel_rfl) (gc h3 (gc (cG h4) (gc h3 (gc (FMM.fc (ids:=[0,1,2,3,4,5,6]) h5 (by kernel_rfl)) (g4c (cG h4) (g4c h3 (gc (dR h1) (gc (FMM.fc (ids:=[0,1,2,3,4,5,6]) h2 (by kernel_rfl)) (g4c (dR h1) (g5c h0 (gc (fk 9 (eG x1) rfl) gn)))))))))))
theorem bQq{ov:PV}{T:Lqb}{x0 x1 x2 x3 x4 x5 bib:Int}{b0:Bool}{T1:Lqb}(h0:(decide (x1≤4))=true)(h1:x3=bib)(h2:pT dl sk dc ov [x0,x1,x2,x3,x4,x5] b0 T T1)(h3:b0=false):FMM Tp 136 [fU,(.p (dcE x0 x1 x2 x3 x4 x5)),(pI bib)] (cW dl sk dc ov T) (pB false) (cW dl sk dc ov T1):=by
 exact FMM.fin (k:=7) (g:=⟨[],[],[],[]⟩) rfl Tryz.func136 rfl (o:=[.c (pB (decide (x1≤4))) [],bT,bT,bT,bT,bT,bT,bT,bT,bT,.c (pB b0) (vU dl sk dc ov T1),bT,bF,bF,bF,bF,bF,bF]) (l:=[_,_,_,_,_,_,_,FC Tp 154 [(.p (dcE x0 x1 x2 x3 x4 x5)),(.ptr 4 0),(.ptr 5 0),(.ptr 0 0),(.ptr 2 0)] [(4,(.box 207 [(.mp 3)])),(5,(vB5 dl sk dc)),(0,(vB0 dl sk dc)),(2,vB2),(3,(.mp (aE T) T.length)),(6,vB6),(1,(.box 33 [(.p ov)]))] 9 (pB b0) (vU dl sk dc ov T1),_,_,_,_,_,_,_,_,_,_]) (by kernel_rfl) (g6c h3 (gc (dR h1) (gc (FMM.fc (ids:=[0,1,2,3,4,5,6]) h2 (by kernel_rfl)) (g4c (dR h1) (g5c h0 (gc (fk 9 (eG x1) rfl) gn))))))
theorem bQr{ov:PV}{T:Lqb}{x0 x1 x2 x3 x4 x5 bib:Int}(h0:(decide (x1≤4))=true)(h1:x3≠bib):FMM Tp 136 [fU,(.p (dcE x0 x1 x2 x3 x4 x5)),(pI bib)] (cW dl sk dc ov T) (pB false) (cW dl sk dc ov T):=by
 exact FMM.fin (k:=7) (g:=⟨[],[],[],[]⟩) rfl Tryz.func136 rfl (o:=[.c (pB (decide (x1≤4))) [],bT,bT,bT,bT,bT,bF,bF,bF,bF,bF]) (l:=[_,_,_,_,_,_,_,_,_,_,_]) (by kernel_rfl) (g5c (bI h1) (g5c h0 (gc (fk 9 (eG x1) rfl) gn)))
theorem bQs{ov:PV}{T:Lqb}{x0 x1 x2 x3 x4 x5 bib:Int}(h0:(decide (x1≤4))=false):FMM Tp 136 [fU,(.p (dcE x0 x1 x2 x3 x4 x5)),(pI bib)] (cW dl sk dc ov T) (pB false) (cW dl sk dc ov T):=by
 exact FMM.fin (k:=7) (g:=⟨[],[],[],[]⟩) rfl Tryz.func136 rfl (o:=[.c (pB (decide (x1≤4))) [],bF,bF,bF,bF,bF]) (l:=[_,_,_,_,_,_]) (by kernel_rfl) (g5c h0 (gc (fk 9 (eG x1) rfl) gn))
theorem bQt{a b r0:Int}(h0:inR (a+b))(er0:r0=(a+b)){base:Nat}:FV Tp 212 [(pI a),(pI b)] base (pI r0) []:=by
 subst er0;exact FV.fin Tryz.func212 rfl (o:=[]) (l:=[_]) (by kernel_rfl) (gc h0 gn)
theorem bQu{a b r0:Int}(h0:inR (a-b))(er0:r0=(a-b)){base:Nat}:FV Tp 213 [(pI a),(pI b)] base (pI r0) []:=by
 subst er0;exact FV.fin Tryz.func213 rfl (o:=[]) (l:=[_]) (by kernel_rfl) (gc h0 gn)
theorem bQv{a b r0:Int}(h0:inR ((1200:Int)*b))(h1:inR (a+((1200:Int)*b)))(er0:r0=(a+((1200:Int)*b))){base:Nat}:FV Tp 214 [(pI a),(pI b)] base (pI r0) []:=by
 subst er0;exact FV.fin Tryz.func214 rfl (o:=[]) (l:=[_,_]) (by kernel_rfl) (gc h1 (gc h0 gn))
theorem bQw{a b:Int}{base:Nat}:FV Tp 215 [(pI a),(pI b)] base (pI a) []:=by
 exact FV.fin Tryz.func215 rfl (o:=[]) (l:=[]) (by kernel_rfl) (gn)
theorem aHg(a b:Int)(h:inR (a+b)){base:Nat}:FV Tp 212 [.p (aA a),.p (aA b)] base (pI (a+b)) []:=bQt h rfl
theorem bEf(a b:Int)(h:inR (a-b)){base:Nat}:FV Tp 213 [.p (aA a),.p (aA b)] base (pI (a-b)) []:=bQu h rfl
theorem bEg(a b:Int)(h:inR (1200*b)∧inR (a+1200*b)){base:Nat}:FV Tp 214 [.p (aA a),.p (aA b)] base (pI (a+1200*b)) []:=bQv h.1 h.2 rfl
theorem bEh(a b:Int){base:Nat}:FV Tp 215 [.p (aA a),.p (aA b)] base (pI a) []:=bQw
theorem nG{base:Nat}:FV Tp 183 [] base (.agg [(.fn 212 [] []),(.fn 213 [] []),(.fn 214 [] []),(.fn 215 [] []),(.fn 212 [] [])]) []:=by
 exact FV.fin Tryz.func183 rfl (o:=[]) (l:=[]) (by kernel_rfl) (gn)
def pE(l:List Int)(m:Int)(i:Nat):St:=⟨fr 18 [(0,(pI m)),(4,(pI 0)),(7,(.p (aG l))),(8,(pI (l.length:Int))),(9,(pI (i:Int)))],[]⟩
theorem bQx{a:Int}{l:List Int}{m'0:Int}{i'1:Nat}(hl0:aI Tp 0 (sub (cd Tryz.f184) [1,0,1,0,0]) (pE l a 0) (.exit 0) (pE l m'0 i'1)){base:Nat}:FV Tp 184 [(pI a),(.p (aG l))] base (pI m'0) []:=by
 exact FV.fin Tryz.func184 rfl (o:=[.k 6 ⟨(rng [(1,3),(5,2),(10,7)]),[],[],[]⟩ (.exit 0) (pE l m'0 i'1)]) (l:=[_]) (by kernel_rfl) (gc hl0.code gn)
theorem aXi{l:List Int}{m:Int}{i:Nat}{x100 m':Int}{i':Nat}(h0:(i:Int)<(l.length:Int))(h1:l[i]? = some x100)(h2:inR (((i+1):Nat):Int))(em':m'=(if x100 > m then x100 else m))(ei':i'=(i+1)):aC Tp 0 (sub (cd Tryz.f184) [1,0,1,0,0]) (pE l m i) .normal (pE l m' i'):=by
 subst em' ei';exact aC.fin (g:=⟨(rng [(1,3),(5,2),(10,7)]),[],[],[]⟩) (o:=[bT,.x (aA x100)]) (l:=[_,_,_,_]) (by kernel_rfl) (gc h2 (gc (atm aA h1) (gc (ixn aA h1) (gc (aY h0) gn))))
theorem aXj{l:List Int}{m:Int}{i:Nat}(h0:(l.length:Int)≤(i:Int)):aC Tp 0 (sub (cd Tryz.f184) [1,0,1,0,0]) (pE l m i) (.exit 0) (pE l m i):=by
 exact aC.fin (g:=⟨(rng [(1,3),(5,2),(10,7)]),[],[],[]⟩) (o:=[bF]) (l:=[_]) (by kernel_rfl) (gc (bG h0) gn)
def yP(a:Int)(l:List Int):Int:=l.foldl (fun m x=>if x > m then x else m) a
theorem aPd(a:Int)(l:List Int)(hl:l.length≤1000){base:Nat}:FV Tp 184 [.p (aA a),.p (aG l)] base (pI (yP a l)) [] :=
 bQx (aI.range (P:=Tp) (k:=0) (e := .exit 0) (fun i m=>pE l m i) (fun m=>pE l m l.length) (fun m x=>if x > m then x else m) (fun _ _=>True) (by simp) l trivial
  (fun i x acc hx _=>⟨trivial,aXi (by have:=bC hx;omega) hx (aO (by have:=bC hx;omega)) rfl rfl⟩) (fun acc _=>aXj (by omega)))
def bM(dl:Int)(sk:Lqq)(dc:Lqq)(ov:PV)(s0:Int)(s1:Int)(out:Bool)(tot:Int)(i:Nat)(te:List (Value × PV))(tk:Nat):St:=⟨fr 54 [(4,(.ptr 7 0)),(5,(.ptr 8 0)),(6,(pI 0)),(7,(.kb false)),(8,(pB out)),(9,(pI tot)),(21,(.p (fS dc))),(22,(pI (dc.length:Int))),(23,(pI (i:Int)))],[some (vB0 dl sk dc),some (.box 33 [(.p ov)]),some vB2,some (.mp te tk),some (.box 207 [(.mp 3)]),some (vB5 dl sk dc),some vB6,some (.box 31 [(pI s0),(pI s1)]),some vB2]⟩
theorem bQy{ov:PV}{T:Lqb}{s0 s1:Int}{out'0:Bool}{tot'1:Int}{i'2:Nat}{t'3:Lqb}(hl0:aI Tp 7 eA (bM dl sk dc ov s0 s1 (s1 == (-1:Int)) s1 0 (aE T) T.length) (.exit 0) (bM dl sk dc ov s0 s1 out'0 tot'1 i'2 (aE t'3) t'3.length))(h1:out'0=true):FMM Tp 134 [(.rp (aH dl sk dc) 0),(.p (.agg [(aA s0),(aA s1)])),fU] (cW dl sk dc ov T) (.tup [(pI 0),(pB true)]) (cW dl sk dc ov t'3):=by
 exact FMM.fin (k:=7) (g:=⟨[],[],[],[]⟩) rfl Tryz.func134 rfl (o:=[.x (fS dc),.k 1 ⟨(rng [(0,4),(10,11),(24,26)]),[7,8],[],[]⟩ (.exit 0) (bM dl sk dc ov s0 s1 out'0 tot'1 i'2 (aE t'3) t'3.length),bT]) (l:=[_,_,(aH dl sk dc)[2]? = some (fS dc)]) (by kernel_rfl) (gc h1 (gc hl0.code (gc rfl gn)))
theorem bQz{ov:PV}{T:Lqb}{s0 s1:Int}{out'0:Bool}{tot'1:Int}{i'2:Nat}{t'3:Lqb}{r0:Int}(hl0:aI Tp 7 eA (bM dl sk dc ov s0 s1 (s1 == (-1:Int)) s1 0 (aE T) T.length) (.exit 0) (bM dl sk dc ov s0 s1 out'0 tot'1 i'2 (aE t'3) t'3.length))(h1:out'0=false)(h2:([tot'1]:List Int).length≤1000)(er0:r0=(yP (0:Int) ([tot'1]:List Int))):FMM Tp 134 [(.rp (aH dl sk dc) 0),(.p (.agg [(aA s0),(aA s1)])),fU] (cW dl sk dc ov T) (.tup [(pI r0),(pB false)]) (cW dl sk dc ov t'3):=by
 subst er0;exact FMM.fin (k:=7) (g:=⟨[],[],[],[]⟩) rfl Tryz.func134 rfl (o:=[.x (fS dc),.k 1 ⟨(rng [(0,4),(10,11),(24,26)]),[7,8],[],[]⟩ (.exit 0) (bM dl sk dc ov s0 s1 out'0 tot'1 i'2 (aE t'3) t'3.length),bF,.c (pI (yP (0:Int) ([tot'1]:List Int))) []]) (l:=[FC Tp 184 [(pI 0),(.own 9)] [(9,(.row 3 1 [(aA tot'1)]))] 10 (pI (yP (0:Int) ([tot'1]:List Int))) [],_,_,(aH dl sk dc)[2]? = some (fS dc)]) (by kernel_rfl) (gc (fv (aPd (0:Int) ([tot'1]:List Int) h2)) (gc h1 (gc hl0.code (gc rfl gn))))
theorem aXk{ov:PV}{s0 s1:Int}{out:Bool}{tot:Int}{i:Nat}{t:Lqb}{y100 y102 y103 y104 y105:Int}{b106:Bool}{T107:Lqb}{m108:Int}{T109:Lqb}{tot':Int}{i':Nat}{t':Lqb}(h0:(i:Int)<(dc.length:Int))(h1:dc[i]? = some [y100,(0:Int),y102,y103,y104,y105])(h2:uni 6 dc)(h3:yO dl sk dc ov [y100,(0:Int),y102,y103,y104,y105] s0 b106 t T107)(h4:b106=true)(h5:out=true)(h6:yQ dl sk dc ov [y100,(0:Int),y102,y103,y104,y105] m108 T107 T109)(h7:inR (tot+m108))(h8:inR (((i+1):Nat):Int))(etot':tot'=(tot+m108))(ei':i'=(i+1))(et'e:aE t'=(aE T109))(et'k:t'.length=T109.length):aC Tp 7 eA (bM dl sk dc ov s0 s1 out tot i (aE t) t.length) .normal (bM dl sk dc ov s0 s1 true tot' i' (aE t') t'.length):=by
 subst etot' ei';have raw:aC Tp 7 eA (bM dl sk dc ov s0 s1 out tot i (aE t) t.length) .normal (bM dl sk dc ov s0 s1 true (tot+m108) (i+1) (aE T109) T109.length):=aC.fin (g:=⟨(rng [(0,4),(10,11),(24,26)]),[7,8],[],[(8,0)]⟩) (o:=[bT,.x (dcE y100 0 y102 y103 y104 y105),.c (pB b106) (vU dl sk dc ov T107),bT,bT,bT,bT,bT,.c (.agg [(.fn 212 [] []),(.fn 213 [] []),(.fn 214 [] []),(.fn 215 [] []),(.fn 212 [] [])]) [],.c (pI m108) (vU dl sk dc ov T109),.c (pI (tot+m108)) []]) (l:=[_,_,FC Tp 160 [(.p (dcE y100 0 y102 y103 y104 y105)),(.ptr 2 0)] [(2,vB2),(4,(.box 207 [(.mp 3)])),(5,(vB5 dl sk dc)),(0,(vB0 dl sk dc)),(6,vB6),(1,(.box 33 [(.p ov)])),(3,(.mp (aE T107) T107.length))] 18 (pI m108) (vU dl sk dc ov T109),_,FC Tp 183 [] [] 10 (.agg [(.fn 212 [] []),(.fn 213 [] []),(.fn 214 [] []),(.fn 215 [] []),(.fn 212 [] [])]) [],_,_,_,_,_,FC Tp 136 [fU,(.p (dcE y100 0 y102 y103 y104 y105)),(pI s0)] [(4,(.box 207 [(.mp 3)])),(5,(vB5 dl sk dc)),(0,(vB0 dl sk dc)),(2,vB2),(6,vB6),(1,(.box 33 [(.p ov)])),(3,(.mp (aE t) t.length))] 10 (pB b106) (vU dl sk dc ov T107),_,_,0≤(i:Int)∧(i:Int)<(dc.length:Int)∧(i*6)<(dc.flatten.map aA).length,_]) (by kernel_rfl) (gc h8 (gc (fk 26 (aHg tot m108 h7) rfl) (gc (FMM.fc (ids:=[0,1,2,3,4,5,6]) h6 (by kernel_rfl)) (gc bEa (gc (FV.fc nG (by kernel_rfl)) (g4c h5 (gc h4 (gc (FMM.fc (ids:=[0,1,2,3,4,5,6]) h3 (by kernel_rfl)) (gc (aS (i:=i) h2 h1) (gc (bH (i:=i) h2 h1) (gc (bR (k:=6) (i:=(i:Int)) (by decide) h2 (kQ2 _) h1) (gc (aY h0) gn))))))))))))
 exact raw.cast (by rw [et'e,et'k])
theorem aXl{ov:PV}{s0 s1:Int}{out:Bool}{tot:Int}{i:Nat}{t:Lqb}{y100 y102 y103 y104 y105:Int}{b106:Bool}{T107:Lqb}{m108:Int}{T109:Lqb}{out':Bool}{tot':Int}{i':Nat}{t':Lqb}(h0:(i:Int)<(dc.length:Int))(h1:dc[i]? = some [y100,(0:Int),y102,y103,y104,y105])(h2:uni 6 dc)(h3:yO dl sk dc ov [y100,(0:Int),y102,y103,y104,y105] s0 b106 t T107)(h4:b106=true)(h5:out=false)(h6:yQ dl sk dc ov [y100,(0:Int),y102,y103,y104,y105] m108 T107 T109)(h7:inR (tot+m108))(h8:inR (((i+1):Nat):Int))(eout':out'=((0:Int) == (3:Int)))(etot':tot'=(tot+m108))(ei':i'=(i+1))(et'e:aE t'=(aE T109))(et'k:t'.length=T109.length):aC Tp 7 eA (bM dl sk dc ov s0 s1 out tot i (aE t) t.length) .normal (bM dl sk dc ov s0 s1 out' tot' i' (aE t') t'.length):=by
 subst eout' etot' ei';have raw:aC Tp 7 eA (bM dl sk dc ov s0 s1 out tot i (aE t) t.length) .normal (bM dl sk dc ov s0 s1 ((0:Int) == (3:Int)) (tot+m108) (i+1) (aE T109) T109.length):=aC.fin (g:=⟨(rng [(0,4),(10,11),(24,26)]),[7,8],[],[]⟩) (o:=[bT,.x (dcE y100 0 y102 y103 y104 y105),.c (pB b106) (vU dl sk dc ov T107),bT,bF,bF,bF,bF,.c (.agg [(.fn 212 [] []),(.fn 213 [] []),(.fn 214 [] []),(.fn 215 [] []),(.fn 212 [] [])]) [],.c (pI m108) (vU dl sk dc ov T109),.c (pI (tot+m108)) []]) (l:=[_,_,FC Tp 160 [(.p (dcE y100 0 y102 y103 y104 y105)),(.ptr 2 0)] [(2,vB2),(4,(.box 207 [(.mp 3)])),(5,(vB5 dl sk dc)),(0,(vB0 dl sk dc)),(6,vB6),(1,(.box 33 [(.p ov)])),(3,(.mp (aE T107) T107.length))] 18 (pI m108) (vU dl sk dc ov T109),_,FC Tp 183 [] [] 10 (.agg [(.fn 212 [] []),(.fn 213 [] []),(.fn 214 [] []),(.fn 215 [] []),(.fn 212 [] [])]) [],_,_,_,_,_,FC Tp 136 [fU,(.p (dcE y100 0 y102 y103 y104 y105)),(pI s0)] [(4,(.box 207 [(.mp 3)])),(5,(vB5 dl sk dc)),(0,(vB0 dl sk dc)),(2,vB2),(6,vB6),(1,(.box 33 [(.p ov)])),(3,(.mp (aE t) t.length))] 10 (pB b106) (vU dl sk dc ov T107),_,_,0≤(i:Int)∧(i:Int)<(dc.length:Int)∧(i*6)<(dc.flatten.map aA).length,_]) (by kernel_rfl) (gc h8 (gc (fk 26 (aHg tot m108 h7) rfl) (gc (FMM.fc (ids:=[0,1,2,3,4,5,6]) h6 (by kernel_rfl)) (gc bEa (gc (FV.fc nG (by kernel_rfl)) (g4c h5 (gc h4 (gc (FMM.fc (ids:=[0,1,2,3,4,5,6]) h3 (by kernel_rfl)) (gc (aS (i:=i) h2 h1) (gc (bH (i:=i) h2 h1) (gc (bR (k:=6) (i:=(i:Int)) (by decide) h2 (kQ2 _) h1) (gc (aY h0) gn))))))))))))
 exact raw.cast (by rw [et'e,et'k])
theorem aXm{ov:PV}{s0 s1:Int}{out:Bool}{tot:Int}{i:Nat}{t:Lqb}{y100 y102 y103 y104 y105:Int}{b106:Bool}{T107:Lqb}{m108:Int}{T109:Lqb}{tot':Int}{i':Nat}{t':Lqb}(h0:(i:Int)<(dc.length:Int))(h1:dc[i]? = some [y100,(1:Int),y102,y103,y104,y105])(h2:uni 6 dc)(h3:yO dl sk dc ov [y100,(1:Int),y102,y103,y104,y105] s0 b106 t T107)(h4:b106=true)(h5:out=true)(h6:yQ dl sk dc ov [y100,(1:Int),y102,y103,y104,y105] m108 T107 T109)(h7:inR (tot-m108))(h8:inR (((i+1):Nat):Int))(etot':tot'=(tot-m108))(ei':i'=(i+1))(et'e:aE t'=(aE T109))(et'k:t'.length=T109.length):aC Tp 7 eA (bM dl sk dc ov s0 s1 out tot i (aE t) t.length) .normal (bM dl sk dc ov s0 s1 true tot' i' (aE t') t'.length):=by
 subst etot' ei';have raw:aC Tp 7 eA (bM dl sk dc ov s0 s1 out tot i (aE t) t.length) .normal (bM dl sk dc ov s0 s1 true (tot-m108) (i+1) (aE T109) T109.length):=aC.fin (g:=⟨(rng [(0,4),(10,11),(24,26)]),[7,8],[],[(8,0)]⟩) (o:=[bT,.x (dcE y100 1 y102 y103 y104 y105),.c (pB b106) (vU dl sk dc ov T107),bT,bT,bT,bT,bT,.c (.agg [(.fn 212 [] []),(.fn 213 [] []),(.fn 214 [] []),(.fn 215 [] []),(.fn 212 [] [])]) [],.c (pI m108) (vU dl sk dc ov T109),.c (pI (tot-m108)) []]) (l:=[_,_,FC Tp 160 [(.p (dcE y100 1 y102 y103 y104 y105)),(.ptr 2 0)] [(2,vB2),(4,(.box 207 [(.mp 3)])),(5,(vB5 dl sk dc)),(0,(vB0 dl sk dc)),(6,vB6),(1,(.box 33 [(.p ov)])),(3,(.mp (aE T107) T107.length))] 18 (pI m108) (vU dl sk dc ov T109),_,FC Tp 183 [] [] 10 (.agg [(.fn 212 [] []),(.fn 213 [] []),(.fn 214 [] []),(.fn 215 [] []),(.fn 212 [] [])]) [],_,_,_,_,_,FC Tp 136 [fU,(.p (dcE y100 1 y102 y103 y104 y105)),(pI s0)] [(4,(.box 207 [(.mp 3)])),(5,(vB5 dl sk dc)),(0,(vB0 dl sk dc)),(2,vB2),(6,vB6),(1,(.box 33 [(.p ov)])),(3,(.mp (aE t) t.length))] 10 (pB b106) (vU dl sk dc ov T107),_,_,0≤(i:Int)∧(i:Int)<(dc.length:Int)∧(i*6)<(dc.flatten.map aA).length,_]) (by kernel_rfl) (gc h8 (gc (fk 26 (bEf tot m108 h7) rfl) (gc (FMM.fc (ids:=[0,1,2,3,4,5,6]) h6 (by kernel_rfl)) (gc bEb (gc (FV.fc nG (by kernel_rfl)) (g4c h5 (gc h4 (gc (FMM.fc (ids:=[0,1,2,3,4,5,6]) h3 (by kernel_rfl)) (gc (aS (i:=i) h2 h1) (gc (bH (i:=i) h2 h1) (gc (bR (k:=6) (i:=(i:Int)) (by decide) h2 (kQ2 _) h1) (gc (aY h0) gn))))))))))))
 exact raw.cast (by rw [et'e,et'k])
theorem aXn{ov:PV}{s0 s1:Int}{out:Bool}{tot:Int}{i:Nat}{t:Lqb}{y100 y102 y103 y104 y105:Int}{b106:Bool}{T107:Lqb}{m108:Int}{T109:Lqb}{out':Bool}{tot':Int}{i':Nat}{t':Lqb}(h0:(i:Int)<(dc.length:Int))(h1:dc[i]? = some [y100,(1:Int),y102,y103,y104,y105])(h2:uni 6 dc)(h3:yO dl sk dc ov [y100,(1:Int),y102,y103,y104,y105] s0 b106 t T107)(h4:b106=true)(h5:out=false)(h6:yQ dl sk dc ov [y100,(1:Int),y102,y103,y104,y105] m108 T107 T109)(h7:inR (tot-m108))(h8:inR (((i+1):Nat):Int))(eout':out'=((1:Int) == (3:Int)))(etot':tot'=(tot-m108))(ei':i'=(i+1))(et'e:aE t'=(aE T109))(et'k:t'.length=T109.length):aC Tp 7 eA (bM dl sk dc ov s0 s1 out tot i (aE t) t.length) .normal (bM dl sk dc ov s0 s1 out' tot' i' (aE t') t'.length):=by
 subst eout' etot' ei';have raw:aC Tp 7 eA (bM dl sk dc ov s0 s1 out tot i (aE t) t.length) .normal (bM dl sk dc ov s0 s1 ((1:Int) == (3:Int)) (tot-m108) (i+1) (aE T109) T109.length):=aC.fin (g:=⟨(rng [(0,4),(10,11),(24,26)]),[7,8],[],[]⟩) (o:=[bT,.x (dcE y100 1 y102 y103 y104 y105),.c (pB b106) (vU dl sk dc ov T107),bT,bF,bF,bF,bF,.c (.agg [(.fn 212 [] []),(.fn 213 [] []),(.fn 214 [] []),(.fn 215 [] []),(.fn 212 [] [])]) [],.c (pI m108) (vU dl sk dc ov T109),.c (pI (tot-m108)) []]) (l:=[_,_,FC Tp 160 [(.p (dcE y100 1 y102 y103 y104 y105)),(.ptr 2 0)] [(2,vB2),(4,(.box 207 [(.mp 3)])),(5,(vB5 dl sk dc)),(0,(vB0 dl sk dc)),(6,vB6),(1,(.box 33 [(.p ov)])),(3,(.mp (aE T107) T107.length))] 18 (pI m108) (vU dl sk dc ov T109),_,FC Tp 183 [] [] 10 (.agg [(.fn 212 [] []),(.fn 213 [] []),(.fn 214 [] []),(.fn 215 [] []),(.fn 212 [] [])]) [],_,_,_,_,_,FC Tp 136 [fU,(.p (dcE y100 1 y102 y103 y104 y105)),(pI s0)] [(4,(.box 207 [(.mp 3)])),(5,(vB5 dl sk dc)),(0,(vB0 dl sk dc)),(2,vB2),(6,vB6),(1,(.box 33 [(.p ov)])),(3,(.mp (aE t) t.length))] 10 (pB b106) (vU dl sk dc ov T107),_,_,0≤(i:Int)∧(i:Int)<(dc.length:Int)∧(i*6)<(dc.flatten.map aA).length,_]) (by kernel_rfl) (gc h8 (gc (fk 26 (bEf tot m108 h7) rfl) (gc (FMM.fc (ids:=[0,1,2,3,4,5,6]) h6 (by kernel_rfl)) (gc bEb (gc (FV.fc nG (by kernel_rfl)) (g4c h5 (gc h4 (gc (FMM.fc (ids:=[0,1,2,3,4,5,6]) h3 (by kernel_rfl)) (gc (aS (i:=i) h2 h1) (gc (bH (i:=i) h2 h1) (gc (bR (k:=6) (i:=(i:Int)) (by decide) h2 (kQ2 _) h1) (gc (aY h0) gn))))))))))))
 exact raw.cast (by rw [et'e,et'k])
theorem aXo{ov:PV}{s0 s1:Int}{out:Bool}{tot:Int}{i:Nat}{t:Lqb}{y100 y102 y103 y104 y105:Int}{b106:Bool}{T107:Lqb}{m108:Int}{T109:Lqb}{tot':Int}{i':Nat}{t':Lqb}(h0:(i:Int)<(dc.length:Int))(h1:dc[i]? = some [y100,(2:Int),y102,y103,y104,y105])(h2:uni 6 dc)(h3:yO dl sk dc ov [y100,(2:Int),y102,y103,y104,y105] s0 b106 t T107)(h4:b106=true)(h5:out=true)(h6:yQ dl sk dc ov [y100,(2:Int),y102,y103,y104,y105] m108 T107 T109)(h7:inR (1200*m108)∧inR (tot+1200*m108))(h8:inR (((i+1):Nat):Int))(etot':tot'=(tot+1200*m108))(ei':i'=(i+1))(et'e:aE t'=(aE T109))(et'k:t'.length=T109.length):aC Tp 7 eA (bM dl sk dc ov s0 s1 out tot i (aE t) t.length) .normal (bM dl sk dc ov s0 s1 true tot' i' (aE t') t'.length):=by
 subst etot' ei';have raw:aC Tp 7 eA (bM dl sk dc ov s0 s1 out tot i (aE t) t.length) .normal (bM dl sk dc ov s0 s1 true (tot+1200*m108) (i+1) (aE T109) T109.length):=aC.fin (g:=⟨(rng [(0,4),(10,11),(24,26)]),[7,8],[],[(8,0)]⟩) (o:=[bT,.x (dcE y100 2 y102 y103 y104 y105),.c (pB b106) (vU dl sk dc ov T107),bT,bT,bT,bT,bT,.c (.agg [(.fn 212 [] []),(.fn 213 [] []),(.fn 214 [] []),(.fn 215 [] []),(.fn 212 [] [])]) [],.c (pI m108) (vU dl sk dc ov T109),.c (pI (tot+1200*m108)) []]) (l:=[_,_,FC Tp 160 [(.p (dcE y100 2 y102 y103 y104 y105)),(.ptr 2 0)] [(2,vB2),(4,(.box 207 [(.mp 3)])),(5,(vB5 dl sk dc)),(0,(vB0 dl sk dc)),(6,vB6),(1,(.box 33 [(.p ov)])),(3,(.mp (aE T107) T107.length))] 18 (pI m108) (vU dl sk dc ov T109),_,FC Tp 183 [] [] 10 (.agg [(.fn 212 [] []),(.fn 213 [] []),(.fn 214 [] []),(.fn 215 [] []),(.fn 212 [] [])]) [],_,_,_,_,_,FC Tp 136 [fU,(.p (dcE y100 2 y102 y103 y104 y105)),(pI s0)] [(4,(.box 207 [(.mp 3)])),(5,(vB5 dl sk dc)),(0,(vB0 dl sk dc)),(2,vB2),(6,vB6),(1,(.box 33 [(.p ov)])),(3,(.mp (aE t) t.length))] 10 (pB b106) (vU dl sk dc ov T107),_,_,0≤(i:Int)∧(i:Int)<(dc.length:Int)∧(i*6)<(dc.flatten.map aA).length,_]) (by kernel_rfl) (gc h8 (gc (fk 26 (bEg tot m108 h7) rfl) (gc (FMM.fc (ids:=[0,1,2,3,4,5,6]) h6 (by kernel_rfl)) (gc bEc (gc (FV.fc nG (by kernel_rfl)) (g4c h5 (gc h4 (gc (FMM.fc (ids:=[0,1,2,3,4,5,6]) h3 (by kernel_rfl)) (gc (aS (i:=i) h2 h1) (gc (bH (i:=i) h2 h1) (gc (bR (k:=6) (i:=(i:Int)) (by decide) h2 (kQ2 _) h1) (gc (aY h0) gn))))))))))))
 exact raw.cast (by rw [et'e,et'k])
theorem aXp{ov:PV}{s0 s1:Int}{out:Bool}{tot:Int}{i:Nat}{t:Lqb}{y100 y102 y103 y104 y105:Int}{b106:Bool}{T107:Lqb}{m108:Int}{T109:Lqb}{out':Bool}{tot':Int}{i':Nat}{t':Lqb}(h0:(i:Int)<(dc.length:Int))(h1:dc[i]? = some [y100,(2:Int),y102,y103,y104,y105])(h2:uni 6 dc)(h3:yO dl sk dc ov [y100,(2:Int),y102,y103,y104,y105] s0 b106 t T107)(h4:b106=true)(h5:out=false)(h6:yQ dl sk dc ov [y100,(2:Int),y102,y103,y104,y105] m108 T107 T109)(h7:inR (1200*m108)∧inR (tot+1200*m108))(h8:inR (((i+1):Nat):Int))(eout':out'=((2:Int) == (3:Int)))(etot':tot'=(tot+1200*m108))(ei':i'=(i+1))(et'e:aE t'=(aE T109))(et'k:t'.length=T109.length):aC Tp 7 eA (bM dl sk dc ov s0 s1 out tot i (aE t) t.length) .normal (bM dl sk dc ov s0 s1 out' tot' i' (aE t') t'.length):=by
 subst eout' etot' ei';have raw:aC Tp 7 eA (bM dl sk dc ov s0 s1 out tot i (aE t) t.length) .normal (bM dl sk dc ov s0 s1 ((2:Int) == (3:Int)) (tot+1200*m108) (i+1) (aE T109) T109.length):=aC.fin (g:=⟨(rng [(0,4),(10,11),(24,26)]),[7,8],[],[]⟩) (o:=[bT,.x (dcE y100 2 y102 y103 y104 y105),.c (pB b106) (vU dl sk dc ov T107),bT,bF,bF,bF,bF,.c (.agg [(.fn 212 [] []),(.fn 213 [] []),(.fn 214 [] []),(.fn 215 [] []),(.fn 212 [] [])]) [],.c (pI m108) (vU dl sk dc ov T109),.c (pI (tot+1200*m108)) []]) (l:=[_,_,FC Tp 160 [(.p (dcE y100 2 y102 y103 y104 y105)),(.ptr 2 0)] [(2,vB2),(4,(.box 207 [(.mp 3)])),(5,(vB5 dl sk dc)),(0,(vB0 dl sk dc)),(6,vB6),(1,(.box 33 [(.p ov)])),(3,(.mp (aE T107) T107.length))] 18 (pI m108) (vU dl sk dc ov T109),_,FC Tp 183 [] [] 10 (.agg [(.fn 212 [] []),(.fn 213 [] []),(.fn 214 [] []),(.fn 215 [] []),(.fn 212 [] [])]) [],_,_,_,_,_,FC Tp 136 [fU,(.p (dcE y100 2 y102 y103 y104 y105)),(pI s0)] [(4,(.box 207 [(.mp 3)])),(5,(vB5 dl sk dc)),(0,(vB0 dl sk dc)),(2,vB2),(6,vB6),(1,(.box 33 [(.p ov)])),(3,(.mp (aE t) t.length))] 10 (pB b106) (vU dl sk dc ov T107),_,_,0≤(i:Int)∧(i:Int)<(dc.length:Int)∧(i*6)<(dc.flatten.map aA).length,_]) (by kernel_rfl) (gc h8 (gc (fk 26 (bEg tot m108 h7) rfl) (gc (FMM.fc (ids:=[0,1,2,3,4,5,6]) h6 (by kernel_rfl)) (gc bEc (gc (FV.fc nG (by kernel_rfl)) (g4c h5 (gc h4 (gc (FMM.fc (ids:=[0,1,2,3,4,5,6]) h3 (by kernel_rfl)) (gc (aS (i:=i) h2 h1) (gc (bH (i:=i) h2 h1) (gc (bR (k:=6) (i:=(i:Int)) (by decide) h2 (kQ2 _) h1) (gc (aY h0) gn))))))))))))
 exact raw.cast (by rw [et'e,et'k])
theorem aXq{ov:PV}{s0 s1:Int}{out:Bool}{tot:Int}{i:Nat}{t:Lqb}{y100 y102 y103 y104 y105:Int}{b106:Bool}{T107:Lqb}{m108:Int}{T109:Lqb}{i':Nat}{t':Lqb}(h0:(i:Int)<(dc.length:Int))(h1:dc[i]? = some [y100,(3:Int),y102,y103,y104,y105])(h2:uni 6 dc)(h3:yO dl sk dc ov [y100,(3:Int),y102,y103,y104,y105] s0 b106 t T107)(h4:b106=true)(h5:out=true)(h6:yQ dl sk dc ov [y100,(3:Int),y102,y103,y104,y105] m108 T107 T109)(h7:inR (((i+1):Nat):Int))(ei':i'=(i+1))(et'e:aE t'=(aE T109))(et'k:t'.length=T109.length):aC Tp 7 eA (bM dl sk dc ov s0 s1 out tot i (aE t) t.length) .normal (bM dl sk dc ov s0 s1 true tot i' (aE t') t'.length):=by
 subst ei';have raw:aC Tp 7 eA (bM dl sk dc ov s0 s1 out tot i (aE t) t.length) .normal (bM dl sk dc ov s0 s1 true tot (i+1) (aE T109) T109.length):=aC.fin (g:=⟨(rng [(0,4),(10,11),(24,26)]),[7,8],[],[(8,0)]⟩) (o:=[bT,.x (dcE y100 3 y102 y103 y104 y105),.c (pB b106) (vU dl sk dc ov T107),bT,bT,bT,bT,bT,.c (.agg [(.fn 212 [] []),(.fn 213 [] []),(.fn 214 [] []),(.fn 215 [] []),(.fn 212 [] [])]) [],.c (pI m108) (vU dl sk dc ov T109),.c (pI tot) []]) (l:=[_,_,FC Tp 160 [(.p (dcE y100 3 y102 y103 y104 y105)),(.ptr 2 0)] [(2,vB2),(4,(.box 207 [(.mp 3)])),(5,(vB5 dl sk dc)),(0,(vB0 dl sk dc)),(6,vB6),(1,(.box 33 [(.p ov)])),(3,(.mp (aE T107) T107.length))] 18 (pI m108) (vU dl sk dc ov T109),_,FC Tp 183 [] [] 10 (.agg [(.fn 212 [] []),(.fn 213 [] []),(.fn 214 [] []),(.fn 215 [] []),(.fn 212 [] [])]) [],_,_,_,_,_,FC Tp 136 [fU,(.p (dcE y100 3 y102 y103 y104 y105)),(pI s0)] [(4,(.box 207 [(.mp 3)])),(5,(vB5 dl sk dc)),(0,(vB0 dl sk dc)),(2,vB2),(6,vB6),(1,(.box 33 [(.p ov)])),(3,(.mp (aE t) t.length))] 10 (pB b106) (vU dl sk dc ov T107),_,_,0≤(i:Int)∧(i:Int)<(dc.length:Int)∧(i*6)<(dc.flatten.map aA).length,_]) (by kernel_rfl) (gc h7 (gc (fk 26 (bEh tot m108) rfl) (gc (FMM.fc (ids:=[0,1,2,3,4,5,6]) h6 (by kernel_rfl)) (gc bEd (gc (FV.fc nG (by kernel_rfl)) (g4c h5 (gc h4 (gc (FMM.fc (ids:=[0,1,2,3,4,5,6]) h3 (by kernel_rfl)) (gc (aS (i:=i) h2 h1) (gc (bH (i:=i) h2 h1) (gc (bR (k:=6) (i:=(i:Int)) (by decide) h2 (kQ2 _) h1) (gc (aY h0) gn))))))))))))
 exact raw.cast (by rw [et'e,et'k])
theorem aXr{ov:PV}{s0 s1:Int}{out:Bool}{tot:Int}{i:Nat}{t:Lqb}{y100 y102 y103 y104 y105:Int}{b106:Bool}{T107:Lqb}{m108:Int}{T109:Lqb}{out':Bool}{i':Nat}{t':Lqb}(h0:(i:Int)<(dc.length:Int))(h1:dc[i]? = some [y100,(3:Int),y102,y103,y104,y105])(h2:uni 6 dc)(h3:yO dl sk dc ov [y100,(3:Int),y102,y103,y104,y105] s0 b106 t T107)(h4:b106=true)(h5:out=false)(h6:yQ dl sk dc ov [y100,(3:Int),y102,y103,y104,y105] m108 T107 T109)(h7:inR (((i+1):Nat):Int))(eout':out'=((3:Int) == (3:Int)))(ei':i'=(i+1))(et'e:aE t'=(aE T109))(et'k:t'.length=T109.length):aC Tp 7 eA (bM dl sk dc ov s0 s1 out tot i (aE t) t.length) .normal (bM dl sk dc ov s0 s1 out' tot i' (aE t') t'.length):=by
 subst eout' ei';have raw:aC Tp 7 eA (bM dl sk dc ov s0 s1 out tot i (aE t) t.length) .normal (bM dl sk dc ov s0 s1 ((3:Int) == (3:Int)) tot (i+1) (aE T109) T109.length):=aC.fin (g:=⟨(rng [(0,4),(10,11),(24,26)]),[7,8],[],[]⟩) (o:=[bT,.x (dcE y100 3 y102 y103 y104 y105),.c (pB b106) (vU dl sk dc ov T107),bT,bF,bF,bF,bF,.c (.agg [(.fn 212 [] []),(.fn 213 [] []),(.fn 214 [] []),(.fn 215 [] []),(.fn 212 [] [])]) [],.c (pI m108) (vU dl sk dc ov T109),.c (pI tot) []]) (l:=[_,_,FC Tp 160 [(.p (dcE y100 3 y102 y103 y104 y105)),(.ptr 2 0)] [(2,vB2),(4,(.box 207 [(.mp 3)])),(5,(vB5 dl sk dc)),(0,(vB0 dl sk dc)),(6,vB6),(1,(.box 33 [(.p ov)])),(3,(.mp (aE T107) T107.length))] 18 (pI m108) (vU dl sk dc ov T109),_,FC Tp 183 [] [] 10 (.agg [(.fn 212 [] []),(.fn 213 [] []),(.fn 214 [] []),(.fn 215 [] []),(.fn 212 [] [])]) [],_,_,_,_,_,FC Tp 136 [fU,(.p (dcE y100 3 y102 y103 y104 y105)),(pI s0)] [(4,(.box 207 [(.mp 3)])),(5,(vB5 dl sk dc)),(0,(vB0 dl sk dc)),(2,vB2),(6,vB6),(1,(.box 33 [(.p ov)])),(3,(.mp (aE t) t.length))] 10 (pB b106) (vU dl sk dc ov T107),_,_,0≤(i:Int)∧(i:Int)<(dc.length:Int)∧(i*6)<(dc.flatten.map aA).length,_]) (by kernel_rfl) (gc h7 (gc (fk 26 (bEh tot m108) rfl) (gc (FMM.fc (ids:=[0,1,2,3,4,5,6]) h6 (by kernel_rfl)) (gc bEd (gc (FV.fc nG (by kernel_rfl)) (g4c h5 (gc h4 (gc (FMM.fc (ids:=[0,1,2,3,4,5,6]) h3 (by kernel_rfl)) (gc (aS (i:=i) h2 h1) (gc (bH (i:=i) h2 h1) (gc (bR (k:=6) (i:=(i:Int)) (by decide) h2 (kQ2 _) h1) (gc (aY h0) gn))))))))))))
 exact raw.cast (by rw [et'e,et'k])
theorem aXs{ov:PV}{s0 s1:Int}{out:Bool}{tot:Int}{i:Nat}{t:Lqb}{y100 y102 y103 y104 y105:Int}{b106:Bool}{T107:Lqb}{m108:Int}{T109:Lqb}{tot':Int}{i':Nat}{t':Lqb}(h0:(i:Int)<(dc.length:Int))(h1:dc[i]? = some [y100,(4:Int),y102,y103,y104,y105])(h2:uni 6 dc)(h3:yO dl sk dc ov [y100,(4:Int),y102,y103,y104,y105] s0 b106 t T107)(h4:b106=true)(h5:out=true)(h6:yQ dl sk dc ov [y100,(4:Int),y102,y103,y104,y105] m108 T107 T109)(h7:inR (tot+m108))(h8:inR (((i+1):Nat):Int))(etot':tot'=(tot+m108))(ei':i'=(i+1))(et'e:aE t'=(aE T109))(et'k:t'.length=T109.length):aC Tp 7 eA (bM dl sk dc ov s0 s1 out tot i (aE t) t.length) .normal (bM dl sk dc ov s0 s1 true tot' i' (aE t') t'.length):=by
 subst etot' ei';have raw:aC Tp 7 eA (bM dl sk dc ov s0 s1 out tot i (aE t) t.length) .normal (bM dl sk dc ov s0 s1 true (tot+m108) (i+1) (aE T109) T109.length):=aC.fin (g:=⟨(rng [(0,4),(10,11),(24,26)]),[7,8],[],[(8,0)]⟩) (o:=[bT,.x (dcE y100 4 y102 y103 y104 y105),.c (pB b106) (vU dl sk dc ov T107),bT,bT,bT,bT,bT,.c (.agg [(.fn 212 [] []),(.fn 213 [] []),(.fn 214 [] []),(.fn 215 [] []),(.fn 212 [] [])]) [],.c (pI m108) (vU dl sk dc ov T109),.c (pI (tot+m108)) []]) (l:=[_,_,FC Tp 160 [(.p (dcE y100 4 y102 y103 y104 y105)),(.ptr 2 0)] [(2,vB2),(4,(.box 207 [(.mp 3)])),(5,(vB5 dl sk dc)),(0,(vB0 dl sk dc)),(6,vB6),(1,(.box 33 [(.p ov)])),(3,(.mp (aE T107) T107.length))] 18 (pI m108) (vU dl sk dc ov T109),_,FC Tp 183 [] [] 10 (.agg [(.fn 212 [] []),(.fn 213 [] []),(.fn 214 [] []),(.fn 215 [] []),(.fn 212 [] [])]) [],_,_,_,_,_,FC Tp 136 [fU,(.p (dcE y100 4 y102 y103 y104 y105)),(pI s0)] [(4,(.box 207 [(.mp 3)])),(5,(vB5 dl sk dc)),(0,(vB0 dl sk dc)),(2,vB2),(6,vB6),(1,(.box 33 [(.p ov)])),(3,(.mp (aE t) t.length))] 10 (pB b106) (vU dl sk dc ov T107),_,_,0≤(i:Int)∧(i:Int)<(dc.length:Int)∧(i*6)<(dc.flatten.map aA).length,_]) (by kernel_rfl) (gc h8 (gc (fk 26 (aHg tot m108 h7) rfl) (gc (FMM.fc (ids:=[0,1,2,3,4,5,6]) h6 (by kernel_rfl)) (gc bEe (gc (FV.fc nG (by kernel_rfl)) (g4c h5 (gc h4 (gc (FMM.fc (ids:=[0,1,2,3,4,5,6]) h3 (by kernel_rfl)) (gc (aS (i:=i) h2 h1) (gc (bH (i:=i) h2 h1) (gc (bR (k:=6) (i:=(i:Int)) (by decide) h2 (kQ2 _) h1) (gc (aY h0) gn))))))))))))
 exact raw.cast (by rw [et'e,et'k])
theorem aXt{ov:PV}{s0 s1:Int}{out:Bool}{tot:Int}{i:Nat}{t:Lqb}{y100 y102 y103 y104 y105:Int}{b106:Bool}{T107:Lqb}{m108:Int}{T109:Lqb}{out':Bool}{tot':Int}{i':Nat}{t':Lqb}(h0:(i:Int)<(dc.length:Int))(h1:dc[i]? = some [y100,(4:Int),y102,y103,y104,y105])(h2:uni 6 dc)(h3:yO dl sk dc ov [y100,(4:Int),y102,y103,y104,y105] s0 b106 t T107)(h4:b106=true)(h5:out=false)(h6:yQ dl sk dc ov [y100,(4:Int),y102,y103,y104,y105] m108 T107 T109)(h7:inR (tot+m108))(h8:inR (((i+1):Nat):Int))(eout':out'=((4:Int) == (3:Int)))(etot':tot'=(tot+m108))(ei':i'=(i+1))(et'e:aE t'=(aE T109))(et'k:t'.length=T109.length):aC Tp 7 eA (bM dl sk dc ov s0 s1 out tot i (aE t) t.length) .normal (bM dl sk dc ov s0 s1 out' tot' i' (aE t') t'.length):=by
 subst eout' etot' ei';have raw:aC Tp 7 eA (bM dl sk dc ov s0 s1 out tot i (aE t) t.length) .normal (bM dl sk dc ov s0 s1 ((4:Int) == (3:Int)) (tot+m108) (i+1) (aE T109) T109.length):=aC.fin (g:=⟨(rng [(0,4),(10,11),(24,26)]),[7,8],[],[]⟩) (o:=[bT,.x (dcE y100 4 y102 y103 y104 y105),.c (pB b106) (vU dl sk dc ov T107),bT,bF,bF,bF,bF,.c (.agg [(.fn 212 [] []),(.fn 213 [] []),(.fn 214 [] []),(.fn 215 [] []),(.fn 212 [] [])]) [],.c (pI m108) (vU dl sk dc ov T109),.c (pI (tot+m108)) []]) (l:=[_,_,FC Tp 160 [(.p (dcE y100 4 y102 y103 y104 y105)),(.ptr 2 0)] [(2,vB2),(4,(.box 207 [(.mp 3)])),(5,(vB5 dl sk dc)),(0,(vB0 dl sk dc)),(6,vB6),(1,(.box 33 [(.p ov)])),(3,(.mp (aE T107) T107.length))] 18 (pI m108) (vU dl sk dc ov T109),_,FC Tp 183 [] [] 10 (.agg [(.fn 212 [] []),(.fn 213 [] []),(.fn 214 [] []),(.fn 215 [] []),(.fn 212 [] [])]) [],_,_,_,_,_,FC Tp 136 [fU,(.p (dcE y100 4 y102 y103 y104 y105)),(pI s0)] [(4,(.box 207 [(.mp 3)])),(5,(vB5 dl sk dc)),(0,(vB0 dl sk dc)),(2,vB2),(6,vB6),(1,(.box 33 [(.p ov)])),(3,(.mp (aE t) t.length))] 10 (pB b106) (vU dl sk dc ov T107),_,_,0≤(i:Int)∧(i:Int)<(dc.length:Int)∧(i*6)<(dc.flatten.map aA).length,_]) (by kernel_rfl) (gc h8 (gc (fk 26 (aHg tot m108 h7) rfl) (gc (FMM.fc (ids:=[0,1,2,3,4,5,6]) h6 (by kernel_rfl)) (gc bEe (gc (FV.fc nG (by kernel_rfl)) (g4c h5 (gc h4 (gc (FMM.fc (ids:=[0,1,2,3,4,5,6]) h3 (by kernel_rfl)) (gc (aS (i:=i) h2 h1) (gc (bH (i:=i) h2 h1) (gc (bR (k:=6) (i:=(i:Int)) (by decide) h2 (kQ2 _) h1) (gc (aY h0) gn))))))))))))
 exact raw.cast (by rw [et'e,et'k])
theorem aPe{ov:PV}{s0 s1:Int}{out:Bool}{tot:Int}{i:Nat}{t:Lqb}{y100 y101 y102 y103 y104 y105:Int}{b106:Bool}{T107:Lqb}{i':Nat}{t':Lqb}(h0:(i:Int)<(dc.length:Int))(h1:dc[i]? = some [y100,y101,y102,y103,y104,y105])(h2:uni 6 dc)(h3:yO dl sk dc ov [y100,y101,y102,y103,y104,y105] s0 b106 t T107)(h4:b106=false)(h5:inR (((i+1):Nat):Int))(ei':i'=(i+1))(et'e:aE t'=(aE T107))(et'k:t'.length=T107.length):aC Tp 7 eA (bM dl sk dc ov s0 s1 out tot i (aE t) t.length) .normal (bM dl sk dc ov s0 s1 out tot i' (aE t') t'.length):=by
 subst ei';have raw:aC Tp 7 eA (bM dl sk dc ov s0 s1 out tot i (aE t) t.length) .normal (bM dl sk dc ov s0 s1 out tot (i+1) (aE T107) T107.length):=aC.fin (g:=⟨(rng [(0,4),(10,11),(24,26)]),[7,8],[],[]⟩) (o:=[bT,.x (dcE y100 y101 y102 y103 y104 y105),.c (pB b106) (vU dl sk dc ov T107),bF]) (l:=[_,_,FC Tp 136 [fU,(.p (dcE y100 y101 y102 y103 y104 y105)),(pI s0)] [(4,(.box 207 [(.mp 3)])),(5,(vB5 dl sk dc)),(0,(vB0 dl sk dc)),(2,vB2),(6,vB6),(1,(.box 33 [(.p ov)])),(3,(.mp (aE t) t.length))] 10 (pB b106) (vU dl sk dc ov T107),_,_,0≤(i:Int)∧(i:Int)<(dc.length:Int)∧(i*6)<(dc.flatten.map aA).length,_]) (by kernel_rfl) (gc h5 (gc h4 (gc (FMM.fc (ids:=[0,1,2,3,4,5,6]) h3 (by kernel_rfl)) (gc (aS (i:=i) h2 h1) (gc (bH (i:=i) h2 h1) (gc (bR (k:=6) (i:=(i:Int)) (by decide) h2 (kQ2 _) h1) (gc (aY h0) gn)))))))
 exact raw.cast (by rw [et'e,et'k])
theorem aPf{ov:PV}{s0 s1:Int}{out:Bool}{tot:Int}{i:Nat}{t:Lqb}(h0:(dc.length:Int)≤(i:Int)):aC Tp 7 eA (bM dl sk dc ov s0 s1 out tot i (aE t) t.length) (.exit 0) (bM dl sk dc ov s0 s1 out tot i (aE t) t.length):=by
 exact aC.fin (g:=⟨(rng [(0,4),(10,11),(24,26)]),[7,8],[],[]⟩) (o:=[bF]) (l:=[_]) (by kernel_rfl) (gc (bG h0) gn)
def eL(dl:Int)(sk:Lqq)(dc:Lqq)(on:Nat)(oc:List PV)(i:Nat)(te:List (Value × PV))(tk:Nat):St:=⟨fr 48 [(2,(.p bW)),(3,(.ptr 7 0)),(4,(.own 8)),(15,(.p (fS dc))),(16,(pI (dc.length:Int))),(17,(pI (i:Int)))],[some (vB0 dl sk dc),some (.box 33 [(.p bW)]),some vB2,some (.mp te tk),some (.box 207 [(.mp 3)]),some (vB5 dl sk dc),some vB6,some vB2,some (.row 3 on oc)]⟩
theorem bRa{o'0:List Int}{i'1:Nat}{t'2:Lqb}(hl0:aI Tp 0 nE (eL dl sk dc 0 [] 0 (aE ([]:Lqb)) 0) (.exit 0) (eL dl sk dc o'0.length (o'0.map aA) i'1 (aE t'2) t'2.length)){base:Nat}:FV Tp 83 [(.rp (aH dl sk dc) 0)] base (.own base) [(base,(.row 3 o'0.length (o'0.map aA)))]:=by
 exact FV.fin Tryz.func83 rfl (o:=[.c fU (vU dl sk dc bW ([]:Lqb)),.x (fS dc),.k 1 ⟨(rng [(0,2),(5,10),(18,29)]),[0,1,2,3,4,5,6,7,8],[],[(4,3)]⟩ (.exit 0) (eL dl sk dc o'0.length (o'0.map aA) i'1 (aE t'2) t'2.length)]) (l:=[_,(aH dl sk dc)[2]? = some (fS dc),FC Tp 87 [(.rp (aH dl sk dc) 0),(.p bW)] [] 0 fU (vU dl sk dc bW ([]:Lqb))]) (by kernel_rfl) (gc hl0.code (gc rfl (gc (FMM.fcN (k:=7) rfl (ids:=[]) (zA (dl:=dl) (sk:=sk) (dc:=dc)) (by kernel_rfl)) gn)))
theorem aXu{o:List Int}{i:Nat}{t:Lqb}{y100 y101 y102 y103 y104 y105 z106 z107 z108 z109 z110 z111:Int}{b112:Bool}{T113:Lqb}{b114:Bool}{T115:Lqb}{o':List Int}{i':Nat}{t':Lqb}(h0:(i:Int)<(dc.length:Int))(h1:dc[i]? = some [y100,y101,y102,y103,y104,y105])(h2:uni 6 dc)(h3:aKy dl sk dc bW [y100,y101,y102,y103,y104,y105] [z106,z107,z108,z109,z110,z111] b112 t T113)(h4:(gC y101)=true)(h5:pT dl sk dc bW [y100,y101,y102,y103,y104,y105] b114 T113 T115)(h6:b114=true)(h7:b112=false)(h8:[(aA y100)].length=1*1∧o.length+1≤1000000)(h9:inR (((i+1):Nat):Int))(eo'n:o'.length=(o.length+1))(eo'c:o'.map aA=((o.map aA)++[(aA y100)]))(ei':i'=(i+1))(et'e:aE t'=(aE T115))(et'k:t'.length=T115.length):aC Tp 0 nE (eL dl sk dc o.length (o.map aA) i (aE t) t.length) .normal (eL dl sk dc o'.length (o'.map aA) i' (aE t') t'.length):=by
 subst ei';have raw:aC Tp 0 nE (eL dl sk dc o.length (o.map aA) i (aE t) t.length) .normal (eL dl sk dc (o.length+1) ((o.map aA)++[(aA y100)]) (i+1) (aE T115) T115.length):=aC.fin (g:=⟨(rng [(0,2),(5,10),(18,29)]),[0,1,2,3,4,5,6,7,12],[],[]⟩) (o:=[bT,.x (dcE y100 y101 y102 y103 y104 y105),.c (.tup [(.p (dcE z106 z107 z108 z109 z110 z111)),(pB b112)]) (vU dl sk dc bW T113),.c (pB (gC y101)) [],bT,bT,bT,bT,.c (pB b114) (vU dl sk dc bW T115),bT,bT,bT,bT,bT]) (l:=[_,_,_,_,_,_,_,FC Tp 154 [(.p (dcE y100 y101 y102 y103 y104 y105)),(.ptr 4 0),(.ptr 5 0),(.ptr 0 0),(.ptr 2 0)] [(4,(.box 207 [(.mp 3)])),(5,(vB5 dl sk dc)),(0,(vB0 dl sk dc)),(2,vB2),(3,(.mp (aE T113) T113.length)),(6,vB6),(1,(.box 33 [(.p bW)]))] 11 (pB b114) (vU dl sk dc bW T115),_,_,_,_,_,FC Tp 156 [(.p (dcE y100 y101 y102 y103 y104 y105)),(.ptr 6 0)] [(6,vB6),(0,(vB0 dl sk dc)),(2,vB2),(4,(.box 207 [(.mp 3)])),(5,(vB5 dl sk dc)),(1,(.box 33 [(.p bW)])),(3,(.mp (aE t) t.length))] 10 (.tup [(.p (dcE z106 z107 z108 z109 z110 z111)),(pB b112)]) (vU dl sk dc bW T113),_,_,0≤(i:Int)∧(i:Int)<(dc.length:Int)∧(i*6)<(dc.flatten.map aA).length,_]) (by kernel_rfl) (gc h9 (gc h8 (gc (bU h7) (g3c h6 (gc h4 (gc (FMM.fc (ids:=[0,1,2,3,4,5,6]) h5 (by kernel_rfl)) (g4c h4 (gc (fk 11 (wL y101) rfl) (gc (FMM.fc (ids:=[0,1,2,3,4,5,6]) h3 (by kernel_rfl)) (gc (aS (i:=i) h2 h1) (gc (bH (i:=i) h2 h1) (gc (bR (k:=6) (i:=(i:Int)) (by decide) h2 (kQ2 _) h1) (gc (aY h0) gn)))))))))))))
 exact raw.cast (by rw [eo'n,eo'c,et'e,et'k])
theorem aXv{o:List Int}{i:Nat}{t:Lqb}{y100 y101 y102 y103 y104 y105 z106 z107 z108 z109 z110 z111:Int}{b112:Bool}{T113:Lqb}{b114:Bool}{T115:Lqb}{i':Nat}{t':Lqb}(h0:(i:Int)<(dc.length:Int))(h1:dc[i]? = some [y100,y101,y102,y103,y104,y105])(h2:uni 6 dc)(h3:aKy dl sk dc bW [y100,y101,y102,y103,y104,y105] [z106,z107,z108,z109,z110,z111] b112 t T113)(h4:(gC y101)=true)(h5:pT dl sk dc bW [y100,y101,y102,y103,y104,y105] b114 T113 T115)(h6:b114=true)(h7:b112=true)(h8:inR (((i+1):Nat):Int))(ei':i'=(i+1))(et'e:aE t'=(aE T115))(et'k:t'.length=T115.length):aC Tp 0 nE (eL dl sk dc o.length (o.map aA) i (aE t) t.length) .normal (eL dl sk dc o.length (o.map aA) i' (aE t') t'.length):=by
 subst ei';have raw:aC Tp 0 nE (eL dl sk dc o.length (o.map aA) i (aE t) t.length) .normal (eL dl sk dc o.length (o.map aA) (i+1) (aE T115) T115.length):=aC.fin (g:=⟨(rng [(0,2),(5,10),(18,29)]),[0,1,2,3,4,5,6,7,8],[],[]⟩) (o:=[bT,.x (dcE y100 y101 y102 y103 y104 y105),.c (.tup [(.p (dcE z106 z107 z108 z109 z110 z111)),(pB b112)]) (vU dl sk dc bW T113),.c (pB (gC y101)) [],bT,bT,bT,bT,.c (pB b114) (vU dl sk dc bW T115),bT,bT,bT,bT,bF]) (l:=[_,_,_,_,_,_,FC Tp 154 [(.p (dcE y100 y101 y102 y103 y104 y105)),(.ptr 4 0),(.ptr 5 0),(.ptr 0 0),(.ptr 2 0)] [(4,(.box 207 [(.mp 3)])),(5,(vB5 dl sk dc)),(0,(vB0 dl sk dc)),(2,vB2),(3,(.mp (aE T113) T113.length)),(6,vB6),(1,(.box 33 [(.p bW)]))] 11 (pB b114) (vU dl sk dc bW T115),_,_,_,_,_,FC Tp 156 [(.p (dcE y100 y101 y102 y103 y104 y105)),(.ptr 6 0)] [(6,vB6),(0,(vB0 dl sk dc)),(2,vB2),(4,(.box 207 [(.mp 3)])),(5,(vB5 dl sk dc)),(1,(.box 33 [(.p bW)])),(3,(.mp (aE t) t.length))] 10 (.tup [(.p (dcE z106 z107 z108 z109 z110 z111)),(pB b112)]) (vU dl sk dc bW T113),_,_,0≤(i:Int)∧(i:Int)<(dc.length:Int)∧(i*6)<(dc.flatten.map aA).length,_]) (by kernel_rfl) (gc h8 (gc (aV h7) (g3c h6 (gc h4 (gc (FMM.fc (ids:=[0,1,2,3,4,5,6]) h5 (by kernel_rfl)) (g4c h4 (gc (fk 11 (wL y101) rfl) (gc (FMM.fc (ids:=[0,1,2,3,4,5,6]) h3 (by kernel_rfl)) (gc (aS (i:=i) h2 h1) (gc (bH (i:=i) h2 h1) (gc (bR (k:=6) (i:=(i:Int)) (by decide) h2 (kQ2 _) h1) (gc (aY h0) gn))))))))))))
 exact raw.cast (by rw [et'e,et'k])
theorem aXw{o:List Int}{i:Nat}{t:Lqb}{y100 y101 y102 y103 y104 y105 z106 z107 z108 z109 z110 z111:Int}{b112:Bool}{T113:Lqb}{b114:Bool}{T115:Lqb}{i':Nat}{t':Lqb}(h0:(i:Int)<(dc.length:Int))(h1:dc[i]? = some [y100,y101,y102,y103,y104,y105])(h2:uni 6 dc)(h3:aKy dl sk dc bW [y100,y101,y102,y103,y104,y105] [z106,z107,z108,z109,z110,z111] b112 t T113)(h4:(gC y101)=true)(h5:pT dl sk dc bW [y100,y101,y102,y103,y104,y105] b114 T113 T115)(h6:b114=false)(h7:inR (((i+1):Nat):Int))(ei':i'=(i+1))(et'e:aE t'=(aE T115))(et'k:t'.length=T115.length):aC Tp 0 nE (eL dl sk dc o.length (o.map aA) i (aE t) t.length) .normal (eL dl sk dc o.length (o.map aA) i' (aE t') t'.length):=by
 subst ei';have raw:aC Tp 0 nE (eL dl sk dc o.length (o.map aA) i (aE t) t.length) .normal (eL dl sk dc o.length (o.map aA) (i+1) (aE T115) T115.length):=aC.fin (g:=⟨(rng [(0,2),(5,10),(18,29)]),[0,1,2,3,4,5,6,7,8],[],[]⟩) (o:=[bT,.x (dcE y100 y101 y102 y103 y104 y105),.c (.tup [(.p (dcE z106 z107 z108 z109 z110 z111)),(pB b112)]) (vU dl sk dc bW T113),.c (pB (gC y101)) [],bT,bT,bT,bT,.c (pB b114) (vU dl sk dc bW T115),bT,bF,bF,bF]) (l:=[_,_,_,_,_,FC Tp 154 [(.p (dcE y100 y101 y102 y103 y104 y105)),(.ptr 4 0),(.ptr 5 0),(.ptr 0 0),(.ptr 2 0)] [(4,(.box 207 [(.mp 3)])),(5,(vB5 dl sk dc)),(0,(vB0 dl sk dc)),(2,vB2),(3,(.mp (aE T113) T113.length)),(6,vB6),(1,(.box 33 [(.p bW)]))] 11 (pB b114) (vU dl sk dc bW T115),_,_,_,_,_,FC Tp 156 [(.p (dcE y100 y101 y102 y103 y104 y105)),(.ptr 6 0)] [(6,vB6),(0,(vB0 dl sk dc)),(2,vB2),(4,(.box 207 [(.mp 3)])),(5,(vB5 dl sk dc)),(1,(.box 33 [(.p bW)])),(3,(.mp (aE t) t.length))] 10 (.tup [(.p (dcE z106 z107 z108 z109 z110 z111)),(pB b112)]) (vU dl sk dc bW T113),_,_,0≤(i:Int)∧(i:Int)<(dc.length:Int)∧(i*6)<(dc.flatten.map aA).length,_]) (by kernel_rfl) (gc h7 (g3c h6 (gc h4 (gc (FMM.fc (ids:=[0,1,2,3,4,5,6]) h5 (by kernel_rfl)) (g4c h4 (gc (fk 11 (wL y101) rfl) (gc (FMM.fc (ids:=[0,1,2,3,4,5,6]) h3 (by kernel_rfl)) (gc (aS (i:=i) h2 h1) (gc (bH (i:=i) h2 h1) (gc (bR (k:=6) (i:=(i:Int)) (by decide) h2 (kQ2 _) h1) (gc (aY h0) gn)))))))))))
 exact raw.cast (by rw [et'e,et'k])
theorem aXx{o:List Int}{i:Nat}{t:Lqb}{y100 y101 y102 y103 y104 y105 z106 z107 z108 z109 z110 z111:Int}{b112:Bool}{T113:Lqb}{i':Nat}{t':Lqb}(h0:(i:Int)<(dc.length:Int))(h1:dc[i]? = some [y100,y101,y102,y103,y104,y105])(h2:uni 6 dc)(h3:aKy dl sk dc bW [y100,y101,y102,y103,y104,y105] [z106,z107,z108,z109,z110,z111] b112 t T113)(h4:(gC y101)=false)(h5:inR (((i+1):Nat):Int))(ei':i'=(i+1))(et'e:aE t'=(aE T113))(et'k:t'.length=T113.length):aC Tp 0 nE (eL dl sk dc o.length (o.map aA) i (aE t) t.length) .normal (eL dl sk dc o.length (o.map aA) i' (aE t') t'.length):=by
 subst ei';have raw:aC Tp 0 nE (eL dl sk dc o.length (o.map aA) i (aE t) t.length) .normal (eL dl sk dc o.length (o.map aA) (i+1) (aE T113) T113.length):=aC.fin (g:=⟨(rng [(0,2),(5,10),(18,29)]),[0,1,2,3,4,5,6,7,8],[],[]⟩) (o:=[bT,.x (dcE y100 y101 y102 y103 y104 y105),.c (.tup [(.p (dcE z106 z107 z108 z109 z110 z111)),(pB b112)]) (vU dl sk dc bW T113),.c (pB (gC y101)) [],bF,bF,bF,bF,bF]) (l:=[_,_,_,_,_,_,_,FC Tp 156 [(.p (dcE y100 y101 y102 y103 y104 y105)),(.ptr 6 0)] [(6,vB6),(0,(vB0 dl sk dc)),(2,vB2),(4,(.box 207 [(.mp 3)])),(5,(vB5 dl sk dc)),(1,(.box 33 [(.p bW)])),(3,(.mp (aE t) t.length))] 10 (.tup [(.p (dcE z106 z107 z108 z109 z110 z111)),(pB b112)]) (vU dl sk dc bW T113),_,_,0≤(i:Int)∧(i:Int)<(dc.length:Int)∧(i*6)<(dc.flatten.map aA).length,_]) (by kernel_rfl) (gc h5 (g5c h4 (gc (fk 11 (wL y101) rfl) (gc (FMM.fc (ids:=[0,1,2,3,4,5,6]) h3 (by kernel_rfl)) (gc (aS (i:=i) h2 h1) (gc (bH (i:=i) h2 h1) (gc (bR (k:=6) (i:=(i:Int)) (by decide) h2 (kQ2 _) h1) (gc (aY h0) gn))))))))
 exact raw.cast (by rw [et'e,et'k])
theorem aXy{o:List Int}{i:Nat}{t:Lqb}(h0:(dc.length:Int)≤(i:Int)):aC Tp 0 nE (eL dl sk dc o.length (o.map aA) i (aE t) t.length) (.exit 0) (eL dl sk dc o.length (o.map aA) i (aE t) t.length):=by
 exact aC.fin (g:=⟨(rng [(0,2),(5,10),(18,29)]),[0,1,2,3,4,5,6,7,8],[],[]⟩) (o:=[bF]) (l:=[_]) (by kernel_rfl) (gc (bG h0) gn)
end
section
def bDy(dl:Int)(oc:List Int)(dc:Lqq)(bib:Int)(x:List Int):Bool:=decide (dK x≤4) && (dB x == bib && (cU dl oc dc x && (!(dK x == 4) || aHm dl oc dc x)))
def byI(k t m:Int):Int:=if k=1 then t-m else if k=2 then t+1200*m else if k=3 then t else t+m
def bDz(dl:Int)(oc:List Int)(dc:Lqq)(bib:Int)(acc:Bool × Int)(x:List Int):Bool × Int:=if bDy dl oc dc bib x then (acc.1 || dK x == 3,byI (dK x) acc.2 (sG dl oc dc x)) else acc
def bQn(dl:Int)(oc:List Int)(dc:Lqq)(bib time:Int):Bool × Int:=dc.foldl (bDz dl oc dc bib) (time == -1,time)
def eU(dl:Int)(oc:List Int)(dc:Lqq)(bib time:Int):Int × Bool:=if (bQn dl oc dc bib time).1 then (0,true) else (max 0 (bQn dl oc dc bib time).2,false)
def pO(dl:Int)(dc:Lqq)(x:List Int):Bool:=gC (dK x) && (cU dl [] dc x && (tJ dl [] dc x).isNone)
def aP(dl:Int)(dc:Lqq):List Int:=(dc.filter (pO dl dc)).map dN
section
variable {dl:Int} {sk dc:Lqq} {oc:List Int} {ov:PV}
theorem bJq(hd:cI dc)(hov:∀ n,qT ov n (oc.contains n)){x:List Int}(hx:x∈dc){T:Lqb}(hT:cD dl oc dc T):∃ T' z0 z1 z2 z3 z4 z5,cD dl oc dc T'∧(tJ dl oc dc x).getD zero6=[z0,z1,z2,z3,z4,z5]∧aKy dl sk dc ov x [z0,z1,z2,z3,z4,z5] (tJ dl oc dc x).isSome T T':=by
 obtain ⟨T',h1,h2⟩:=bVu (sk:=sk) hd hov hx T hT;cases hr:tJ dl oc dc x with
 | none =>
  rw [hr] at h2
  exact ⟨T',0,0,0,0,0,0,h1,rfl,h2⟩
 | some z =>
  have hz:z.length=6:=by
   rw [aBu hd hx] at hr
   exact gX hd _ z (wC hr)
  obtain ⟨a,b,c,d,e,f,rfl⟩:=len6 hz;rw [hr] at h2
  exact ⟨T',a,b,c,d,e,f,h1,rfl,h2⟩
theorem aKx(hd:cI dc):∀ (n:Nat) (x:List Int),x∈dc→10000-dN x≤(n:Int)→0≤sG dl oc dc x∧sG dl oc dc x≤36000
 | 0,x,hx,h=>by have:=fP hd hx;omega
 | n+1,x,hx,h=>by
  rw [aSw hd hx];cases hr:aHn dl oc dc x with
  | none =>
   have h4:=(jR.1 (hd.rng x hx)).2.2.2;have:lU (x.getD 1 0)≤36000:=by unfold lU;split <;> omega
   show 0≤x.getD 4 0∧x.getD 4 0≤36000;omega
  | some z =>
   have hz:z∈bY dc (dN x):=by
    rw [aBv hd hx] at hr
    exact wC hr
   obtain ⟨a1,a2⟩:=qS hd hx hz;exact aKx hd n z a1 (by omega)
theorem bJr(hd:cI dc){x:List Int}(hx:x∈dc):0≤sG dl oc dc x∧sG dl oc dc x≤36000:=aKx hd 10000 x hx (by have:=fP hd hx;omega)
theorem bVt(hd:cI dc)(hov:∀ n,qT ov n (oc.contains n))(bib:Int){x:List Int}(hx:x∈dc){T:Lqb}(hT:cD dl oc dc T):∃ T',cD dl oc dc T'∧yO dl sk dc ov x bib (bDy dl oc dc bib x) T T':=by
 obtain ⟨T1,h1,c1⟩:=aYb (sk:=sk) hd hov hx T hT;obtain ⟨T2,h2,c2⟩:=bVw (sk:=sk) hd hov hx T1 h1;obtain ⟨a,k,c,d,e,f,rfl⟩:=len6 (hd.ud x hx);unfold bDy
 by_cases hk:k≤4
 ·have hk':decide (k≤4)=true:=decide_eq_true hk
  rw [show decide (dK [a,k,c,d,e,f]≤4)=true from hk',iJ]
  by_cases hb:d=bib
  ·rw [show (dB [a,k,c,d,e,f] == bib)=true by simpa using hb,iJ]
   cases hc:cU dl oc dc [a,k,c,d,e,f] with
   | false =>
    rw [hc] at c1
    exact ⟨T1,h1,bQq hk' hb c1 rfl⟩
   | true =>
    rw [hc] at c1
    rw [iJ]
    by_cases h4:k=4
    ·rw [show (dK [a,k,c,d,e,f] == 4)=true by simpa using h4,Bool.not_true,Bool.false_or]
     exact ⟨T2,h2,bQp hk' hb c1 rfl h4 c2⟩
    ·rw [show (dK [a,k,c,d,e,f] == 4)=false by simpa using h4,Bool.not_false,Bool.true_or]
     exact ⟨T1,h1,bQo hk' hb c1 rfl h4⟩
  ·rw [show (dB [a,k,c,d,e,f] == bib)=false by simpa using hb,Bool.false_and]
   exact ⟨T,hT,bQr hk' hb⟩
 ·have hk':decide (k≤4)=false:=decide_eq_false hk
  rw [show decide (dK [a,k,c,d,e,f]≤4)=false from hk',Bool.false_and]
  exact ⟨T,hT,bQs hk'⟩
theorem aXh(hd:cI dc)(hov:∀ n,qT ov n (oc.contains n))(s0 s1:Int)(hs : -1≤s1∧s1≤360000){T:Lqb}(hT:cD dl oc dc T):∃ T',cD dl oc dc T'∧aDd dl sk dc ov [s0,s1] (eU dl oc dc s0 s1).1 (eU dl oc dc s0 s1).2 T T':=by
 have hlen:=hd.len;obtain ⟨acc,⟨h1,h2,_⟩,h3⟩:=aI.ex (P:=Tp) (k:=7) (b:=sub (cd Tryz.f134) [1,1,0,1,0,0]) (e := .exit 0) (fun i (a:(Bool × Int) × Lqb)=>bM dl sk dc ov s0 s1 a.1.1 a.1.2 i (aE a.2) a.2.length)
  (fun a=>bM dl sk dc ov s0 s1 a.1.1 a.1.2 dc.length (aE a.2) a.2.length)
  (fun i a=>cD dl oc dc a.2∧a.1=(dc.take i).foldl (bDz dl oc dc s0) (s1 == -1,s1) ∧ -1-36000*(i:Int)≤a.1.2∧a.1.2≤360000+43200000*(i:Int)) (by simp) dc.length
  (fun i acc hi hI=>by
   obtain ⟨⟨out,tot⟩,T1⟩:=acc;obtain ⟨h1,h2,h3,h4⟩:=hI;dsimp only at h1 h2 h3 h4
   have hm:=eY hi;obtain ⟨a,k,c,d,e,f,hy⟩:=len6 (hd.ud _ hm);have hx:dc[i]? = some [a,k,c,d,e,f]:=by rw [kQ0 hi,hy]
   rw [hy] at hm
   have et:(dc.take (i+1)).foldl (bDz dl oc dc s0) (s1 == -1,s1)=bDz dl oc dc s0 (out,tot) [a,k,c,d,e,f]:=by
    rw [List.take_add_one,hx,aGw,← h2];rfl
   obtain ⟨T2,q1,q2⟩:=bVt (sk:=sk) hd hov s0 hm h1;rw [et];unfold bDz;cases hh:bDy dl oc dc s0 [a,k,c,d,e,f] with
   | false =>
    rw [hh] at q2
    exact ⟨((out,tot),T2),⟨q1,by simp,by dsimp only;omega,by dsimp only;omega⟩,aPe (by omega) hx hd.ud q2 rfl (aO (by omega)) rfl rfl rfl⟩
   | true =>
    rw [hh] at q2
    rw [if_pos rfl];obtain ⟨T3,q3,q4⟩:=bVx (sk:=sk) hd hov hm T2 q1;have hb:=bJr (dl:=dl) (oc:=oc) hd hm;revert q4 hb;generalize sG dl oc dc [a,k,c,d,e,f]=m;intro q4 hb;have hk:0≤k∧k≤4:=by
     have h5:=(jR.1 (hd.rng _ hm)).2.1;unfold bDy at hh
     rw [kQ6] at hh
     exact ⟨h5.1,of_decide_eq_true hh.1⟩
    have hk5:k=0∨k=1∨k=2∨k=3∨k=4:=by omega
    clear hh
    rcases hk5 with rfl | rfl | rfl | rfl | rfl
    ·have hI:∀ q:Bool,-1-36000*((i+1:Nat):Int)≤tot+m∧tot+m≤360000+43200000*((i+1:Nat):Int):=fun _=>by omega
     cases out with
     | true=>exact ⟨((true,tot+m),T3),⟨q3,rfl,(hI true).1,(hI true).2⟩,aXk (by omega) hx hd.ud q2 rfl rfl q4 (by show inR (tot+m);unfold inR;omega) (aO (by omega)) rfl rfl rfl rfl⟩
     | false=>exact ⟨((false,tot+m),T3),⟨q3,rfl,(hI true).1,(hI true).2⟩,aXl (by omega) hx hd.ud q2 rfl rfl q4 (by show inR (tot+m);unfold inR;omega) (aO (by omega)) rfl rfl rfl rfl rfl⟩
    ·have hI:∀ q:Bool,-1-36000*((i+1:Nat):Int)≤tot-m∧tot-m≤360000+43200000*((i+1:Nat):Int):=fun _=>by omega
     cases out with
     | true=>exact ⟨((true,tot-m),T3),⟨q3,rfl,(hI true).1,(hI true).2⟩,aXm (by omega) hx hd.ud q2 rfl rfl q4 (by show inR (tot-m);unfold inR;omega) (aO (by omega)) rfl rfl rfl rfl⟩
     | false=>exact ⟨((false,tot-m),T3),⟨q3,rfl,(hI true).1,(hI true).2⟩,aXn (by omega) hx hd.ud q2 rfl rfl q4 (by show inR (tot-m);unfold inR;omega) (aO (by omega)) rfl rfl rfl rfl rfl⟩
    ·have hI:∀ q:Bool,-1-36000*((i+1:Nat):Int)≤tot+1200*m∧tot+1200*m≤360000+43200000*((i+1:Nat):Int):=fun _=>by omega
     cases out with
     | true=>exact ⟨((true,tot+1200*m),T3),⟨q3,rfl,(hI true).1,(hI true).2⟩,aXo (by omega) hx hd.ud q2 rfl rfl q4 ⟨by show inR (1200*m);unfold inR;omega,by show inR (tot+1200*m);unfold inR;omega⟩ (aO (by omega)) rfl rfl rfl rfl⟩
     | false=>exact ⟨((false,tot+1200*m),T3),⟨q3,rfl,(hI true).1,(hI true).2⟩,aXp (by omega) hx hd.ud q2 rfl rfl q4 ⟨by show inR (1200*m);unfold inR;omega,by show inR (tot+1200*m);unfold inR;omega⟩ (aO (by omega)) rfl rfl rfl rfl rfl⟩
    ·have hI:∀ q:Bool,-1-36000*((i+1:Nat):Int)≤tot∧tot≤360000+43200000*((i+1:Nat):Int):=fun _=>by omega
     cases out with
     | true=>exact ⟨((true,tot),T3),⟨q3,rfl,(hI true).1,(hI true).2⟩,aXq (by omega) hx hd.ud q2 rfl rfl q4 (aO (by omega)) rfl rfl rfl⟩
     | false=>exact ⟨((true,tot),T3),⟨q3,rfl,(hI true).1,(hI true).2⟩,aXr (by omega) hx hd.ud q2 rfl rfl q4 (aO (by omega)) rfl rfl rfl rfl⟩
    ·have hI:∀ q:Bool,-1-36000*((i+1:Nat):Int)≤tot+m∧tot+m≤360000+43200000*((i+1:Nat):Int):=fun _=>by omega
     cases out with
     | true=>exact ⟨((true,tot+m),T3),⟨q3,rfl,(hI true).1,(hI true).2⟩,aXs (by omega) hx hd.ud q2 rfl rfl q4 (by show inR (tot+m);unfold inR;omega) (aO (by omega)) rfl rfl rfl rfl⟩
     | false=>exact ⟨((false,tot+m),T3),⟨q3,rfl,(hI true).1,(hI true).2⟩,aXt (by omega) hx hd.ud q2 rfl rfl q4 (by show inR (tot+m);unfold inR;omega) (aO (by omega)) rfl rfl rfl rfl rfl⟩)
  (fun acc hI=>aPf (by omega)) (acc:=((s1 == -1,s1),T)) ⟨hT,by simp,by dsimp only;omega,by dsimp only;omega⟩
 obtain ⟨⟨out,tot⟩,T1⟩:=acc;dsimp only at h1 h2 h3
 rw [List.take_length] at h2
 have e:bQn dl oc dc s0 s1=(out,tot):=h2.symm;unfold eU;rw [e];cases out with
 | true=>exact ⟨T1,h1,bQy h3 rfl⟩
 | false=>exact ⟨T1,h1,bQz h3 rfl (by simp) (by simp [yP];omega)⟩
theorem qR(hd:cI dc){base:Nat}:FV Tp 83 [pQ dl sk dc] base (.own base) [(base,.row 3 (aP dl dc).length ((aP dl dc).map aA))]:=by
 have hlen:=hd.len;have hov:=uY;obtain ⟨acc,⟨h1,h2⟩,h3⟩:=aI.ex (P:=Tp) (k:=0) (b:=sub (cd Tryz.f83) [1,1,1,0,1,0,0]) (e := .exit 0) (fun i (a:List Int × Lqb)=>eL dl sk dc a.1.length (a.1.map aA) i (aE a.2) a.2.length)
  (fun a=>eL dl sk dc a.1.length (a.1.map aA) dc.length (aE a.2) a.2.length)
  (fun i a=>cD dl [] dc a.2∧a.1=((dc.take i).filter (pO dl dc)).map dN) (by simp) dc.length
  (fun i acc hi hI=>by
   obtain ⟨o,T1⟩:=acc;obtain ⟨h1,h2⟩:=hI;dsimp only at h1 h2
   have hm:=eY hi;obtain ⟨a,k,c,d,e,f,hy⟩:=len6 (hd.ud _ hm);have hx:dc[i]? = some [a,k,c,d,e,f]:=by rw [kQ0 hi,hy]
   rw [hy] at hm
   have ho:o.length≤1000:=by
    rw [h2,kQ9];have:=wD (pO dl dc) (dc.take i);rw [mX] at this;omega
   have et:((dc.take (i+1)).filter (pO dl dc)).map dN=o++if pO dl dc [a,k,c,d,e,f] then [a] else []:=by
    rw [List.take_add_one,hx,rU,gI,← h2]
    congr 1
    show (List.filter (pO dl dc) [[a,k,c,d,e,f]]).map dN=_;cases hq:pO dl dc [a,k,c,d,e,f] <;> simp [hq]
   rw [et];obtain ⟨T2,z0,z1,z2,z3,z4,z5,q1,_,q2⟩:=bJq (sk:=sk) hd hov hm h1;obtain ⟨T3,q3,q4⟩:=aYb (sk:=sk) hd hov hm T2 q1;cases ha:gC k with
   | false =>
    have hb:pO dl dc [a,k,c,d,e,f]=false:=by unfold pO;rw [show gC (dK [a,k,c,d,e,f])=false from ha,Bool.false_and]
    rw [hb];exact ⟨(o,T2),⟨q1,by simp⟩,aXx (by omega) hx hd.ud q2 ha (aO (by omega)) rfl rfl rfl⟩
   | true =>
    have hb:pO dl dc [a,k,c,d,e,f]=(cU dl [] dc [a,k,c,d,e,f] && (tJ dl [] dc [a,k,c,d,e,f]).isNone):=by unfold pO;rw [show gC (dK [a,k,c,d,e,f])=true from ha,iJ]
    rw [hb];cases hc:cU dl [] dc [a,k,c,d,e,f] with
    | false =>
     rw [hc] at q4
     exact ⟨(o,T3),⟨q3,by simp⟩,aXw (by omega) hx hd.ud q2 ha q4 rfl (aO (by omega)) rfl rfl rfl⟩
    | true =>
     rw [hc] at q4
     cases hr:tJ dl [] dc [a,k,c,d,e,f] with
     | some z =>
      rw [hr] at q2
      exact ⟨(o,T3),⟨q3,by simp⟩,aXv (by omega) hx hd.ud q2 ha q4 rfl rfl (aO (by omega)) rfl rfl rfl⟩
     | none =>
      rw [hr] at q2
      exact ⟨(o++[a],T3),⟨q3,by simp⟩,aXu (o:=o) (o':=o++[a]) (by omega) hx hd.ud q2 ha q4 rfl rfl ⟨rfl,by omega⟩ (aO (by omega)) (by simp) (by simp) rfl rfl rfl⟩)
  (fun acc hI=>aXy (by omega)) (acc:=([],[])) ⟨cD.nil,by simp⟩
 obtain ⟨o,T1⟩:=acc;dsimp only at h1 h2 h3
 rw [List.take_length] at h2
 rw [show aP dl dc=o from h2.symm]
 exact bRa h3
end
end
section
structure bDh (sk:Lqq) (m0 mx:Int) (i:Nat):Prop where
 us:uni 2 sk
 len:sk.length=i
 deck:m0≤mx∧mx≤m0+2*(i:Int)
 mem:∀ x∈sk,skB x=true∧x.getD 0 0≤3*(i:Int)-2
 tim:∀ x∈sk,x.getD 1 0≤16000
 up:sk.Pairwise fun a b=>a.getD 0 0<b.getD 0 0
theorem bDh.snoc{sk:Lqq}{m0 mx:Int}{i:Nat}(h:bDh sk m0 mx i)(hi:i<100){t mx':Int}(ht : -1≤t∧t≤16000)(hm:mx≤mx'∧mx'≤mx+2):bDh (sk++[[3*(i:Int)+1,t]]) m0 mx' (i+1):=by
 obtain ⟨h1,h2,h3,h4,h6,h5⟩:=h;refine ⟨aBi h1 rfl,by simp [h2],by omega,fun x hx => ?_,fun x hx => ?_,?_⟩
 ·rcases iH.1 hx with hx | hx
  ·exact ⟨(h4 x hx).1,by have:=(h4 x hx).2;omega⟩
  ·rw [List.mem_singleton.1 hx]
   exact ⟨aHc.2 ⟨⟨show 1≤3*(i:Int)+1 by omega,show 3*(i:Int)+1≤999 by omega⟩,ht.1,show t≤360000 by omega⟩,show 3*(i:Int)+1≤_ by omega⟩
 ·rcases iH.1 hx with hx | hx
  ·exact h6 x hx
  ·rw [List.mem_singleton.1 hx]
   exact ht.2
 ·rw [List.pairwise_append]
  refine ⟨h5,List.pairwise_singleton _ _,fun x hx y hy => ?_⟩
  rw [List.mem_singleton.1 hy];have:=(h4 x hx).2;show x.getD 0 0<3*(i:Int)+1;omega
theorem bNx{nd:Int}{l:List Int}{r0 m1 t2:Int}(hr:0≤r0∧r0≤30)(hm:0≤m1∧m1≤1000):∃ sk mx tt,bDh sk m1 mx r0.toNat∧aI Tp 1 (sub (cd Tryz.f16) [1,1,0,1,0,0]) (gK nd l r0 0 0 [] m1 t2) (.exit 0) (gK nd l r0 r0.toNat sk.length (sk.flatten.map aA) mx tt):=by
 obtain ⟨A,hI,hL⟩:=aI.ex (P:=Tp) (k:=1) (b:=sub (cd Tryz.f16) [1,1,0,1,0,0]) (e := .exit 0) (fun i (A:Lqq × Int × Int)=>gK nd l r0 i A.1.length (A.1.flatten.map aA) A.2.1 A.2.2) (fun A=>gK nd l r0 r0.toNat A.1.length (A.1.flatten.map aA) A.2.1 A.2.2)
  (fun i A=>bDh A.1 m1 A.2.1 i) (by simp) r0.toNat
  (fun i A hi hA=>by
   obtain ⟨sk,mx,tt⟩:=A;have hd:=hA.deck;have hl:=hA.len;dsimp only at hd hl
   obtain ⟨r,m,t,e⟩:∃ r m t,aZ 20 l mx tt=(r,m,t):=⟨_,_,_,rfl⟩;have b:=eZ 20 l mx tt;rw [e] at b
   dsimp only at b
   obtain ⟨c,m',t',e'⟩:∃ r m2 t2,pN 12 l m t=(r,m2,t2):=⟨_,_,_,rfl⟩;have b':=aKs 12 l m t;rw [e'] at b'
   dsimp only at b'
   have hm2:mx≤m'∧m'≤mx+2:=by omega
   have hmx:0≤mx∧mx≤1000000000:=by omega
   have hm3:0≤m∧m≤1000000000:=by omega
   have hsl:sk.length+1≤1000000:=by omega
   cases c with
   | true =>
    refine ⟨(sk++[[3*(i:Int)+1,-1]],m',t'),hA.snoc (by omega) (by omega) hm2,?_⟩
    exact aWd (by omega) (by unfold inR;omega) (by unfold inR;omega) hmx e (by unfold inR;omega) (by unfold inR;omega) hm3 e' rfl ⟨rfl,hsl⟩ (aO (by omega)) rfl (by simp) (by simp)
   | false =>
    refine ⟨(sk++[[3*(i:Int)+1,15000+50*r]],m',t'),hA.snoc (by omega) (by omega) hm2,?_⟩
    exact aWe (by omega) (by unfold inR;omega) (by unfold inR;omega) hmx e (by unfold inR;omega) (by unfold inR;omega) hm3 e' rfl ⟨rfl,hsl⟩ (aO (by omega)) rfl (by simp) (by simp))
  (fun A _=>aWf (by omega)) (acc:=([],m1,t2)) ⟨fun x h=>by simp at h,rfl,⟨aVq _,by show m1≤_;omega⟩,fun x h=>by simp at h,fun x h=>by simp at h,.nil⟩
 exact ⟨_,_,_,hI,hL⟩
theorem bNy{l:List Int}{sk:Lqq}{r7 m8 t9:Int}(hr:0≤r7∧r7≤100)(hu:uni 2 sk)(hs:1≤sk.length∧sk.length≤100)(hm:0≤m8∧m8≤1000):∃ dc nu mx tt,aOh sk dc nu mx r7.toNat∧aI Tp 1 (sub (cd Tryz.f16) [1,1,1,1,0,1,0,0]) (dV l sk r7 0 0 [] 0 m8 t9) (.exit 2) (dV l sk r7 r7.toNat dc.length (dc.flatten.map aA) nu mx tt):=by
 obtain ⟨A,hI,hL⟩:=aI.ex (P:=Tp) (k:=1) (b:=sub (cd Tryz.f16) [1,1,1,1,0,1,0,0]) (e := .exit 2) (fun j (A:Lqq × Int × Int × Int)=>dV l sk r7 j A.1.length (A.1.flatten.map aA) A.2.1 A.2.2.1 A.2.2.2) (fun A=>dV l sk r7 r7.toNat A.1.length (A.1.flatten.map aA) A.2.1 A.2.2.1 A.2.2.2)
  (fun j A=>aOh sk A.1 A.2.1 A.2.2.1 j) (by simp) r7.toNat
  (fun j A hj hA=>by
   obtain ⟨dc',nu',mx',tt',h1,h2⟩:=bIa (l:=l) (tt:=A.2.2.2) hA (r7:=r7) (by omega) hr.2 hu hs
   exact ⟨(dc',nu',mx',tt'),h1,h2⟩)
  (fun A _=>aWk (by omega)) (acc:=([],0,m8,t9)) ⟨fun x h=>by simp at h,rfl,⟨aVq _,by show (0:Int)≤_;omega⟩,⟨hm.1,by show m8≤_;omega⟩,fun x h=>by simp at h,.nil⟩
 exact ⟨_,_,_,_,hI,hL⟩
theorem bNz{ns nd:Int}{l:List Int}{nx st:Int}(hns:1≤ns∧ns≤30)(hnd:0≤nd∧nd≤40)(hnx:0≤nx∧nx≤900):∃ sk dc mx tt,cB 30 sk dc∧(sk.length:Int)≤ns∧(dc.length:Int)≤nd∧(0≤mx∧mx≤4000)∧(sk.Pairwise fun a b=>a.getD 0 0<b.getD 0 0)∧(dc.Pairwise fun a b=>a.getD 0 0<b.getD 0 0)∧(∀ x∈dc,x.getD 0 0≤80)∧(∀ x∈sk,x.getD 0 0≤88∧x.getD 1 0≤16000) ∧
  FMM Tp 16 [.ptr 0 0,.p (aA ns),.p (aA nd)] [some (gL l nx st)] (.p (.agg (cL 30 sk dc))) [some (gL l mx tt)]:=by
 obtain ⟨r0,m1,t2,e0⟩:∃ r m t,nB 1 ns l nx st=(r,m,t):=⟨_,_,_,rfl⟩;have b0:=yY 1 ns l nx st;rw [e0] at b0
 dsimp only at b0
 obtain ⟨sk,mx,tt,hS,hL0⟩:=bNx (nd:=nd) (l:=l) (r0:=r0) (m1:=m1) (t2:=t2) (by omega) (by omega)
 have hsl:=hS.len;have hsd:=hS.deck;obtain ⟨r7,m8,t9,e7⟩:∃ r m t,aZ (nd+1) l mx tt=(r,m,t):=⟨_,_,_,rfl⟩;have b7:=eZ (nd+1) l mx tt;rw [e7] at b7
 dsimp only at b7
 obtain ⟨dc,nu,mx',tt',hM,hL1⟩:=bNy (l:=l) (sk:=sk) (r7:=r7) (m8:=m8) (t9:=t9) (by omega) hS.us (by omega) (by omega)
 have hml:=hM.len;have hmd:=hM.deck;have hnod:∀ {f:Lqq},(f.Pairwise fun a b=>a.getD 0 0<b.getD 0 0)→(aJ f 0).Nodup:=fun {f} h=>by
  unfold aJ;rw [List.Nodup,List.pairwise_map];exact h.imp fun h=>by omega
 refine ⟨sk,dc,mx',tt',⟨hS.us,hM.ud,by omega,by omega,by omega,fun x hx=>(hS.mem x hx).1,fun x hx=>(hM.mem x hx).1.1,hnod hS.up,hnod hM.up,fun x hx=>(hM.mem x hx).1.2.1,fun x hx=>(hM.mem x hx).1.2.2⟩,by omega,by omega,by omega,hS.up,hM.up,fun x hx => ?_,fun x hx=>⟨?_,hS.tim x hx⟩,?_⟩
 ·have h1:=(hM.mem x hx).2
  have h2:=hM.num;omega
 ·have:=(hS.mem x hx).2
  omega
 exact bOc (by omega) (by omega) e0 hL0 (by unfold inR;omega) (by omega) e7 hL1
end
end KV
end Go.Proofs
section
namespace Go.Proofs
open Go.RowKit
namespace KV
variable {P:Program} {n:Nat}
def aFk{α:Type}(F:Fence)(n:Nat)(P:Program)(g:Nat)(lb:Array Value)(encs:α→Array Value)(R:α→World→World→Prop)(Kp:World→World→Prop)(S Sp:List α→Prop)(N:Nat)(w:World):Prop :=
 ∀ (l:Nat) (J Jx:List α→World→Prop) (W:World),Below w.heap.size w W→AbidesFrom W.heap.size J→AbidesFrom W.heap.size Jx →
  (∀ pre x W0 W1,J pre W0→W0.grownBy W1 none→R x W0 W1→pre.length<N→YieldAt F (n-1) P l (encs x) W1 fun e W' =>
   (e = .returned (.bool true)∧J (pre++[x]) W'∧Kp W0 W')∨(e = .returned (.bool false)∧Jx (pre++[x]) W')) →
  J [] W →
  CallsIn F n P g (#[.func (.yield l) #[] #[]]++lb) W fun e W'=>(∃ v,e = .returned v)∧((∃ xs,S xs∧J xs W')∨(∃ pre,Sp pre∧Jx pre W'))

def bGb{α:Type}(B:Nat)(Kp:World→World→Prop)(I:List α→World→Prop)(Ix:Code→List α→World→Prop)(xs:List α)(V W:World):Exit→Act→World→Prop
 | .normal,_,W'=>KeepsFrom B W W'∧Kp V W'∧I xs W'
 | .ret,_,W'=>KeepsFrom B W W'∧Ix .ret xs W'
 | .exit id,_,W'=>KeepsFrom B W W'∧Ix (.exit id) xs W'
 | .goto t,_,W'=>KeepsFrom B W W'∧Ix (.goto t) xs W'
 | .panic _,_,_=>False
 | .outgrown,_,_=>False

theorem rY{α:Type}{F:Fence}{g:Operand}{ps:Array Tmp}{assign body:Code}{Q:Exit→Act→World→Prop}{a:Act}{w:World}
  (hro:F.round=none) (h1:1≤n) {gf:Nat} {lb:Array Value} (hg:a.eval g = .func (.func gf) #[] lb) (hFg:F.fn gf) (eg:∀ args w,(callFunc gf args).run P w = .ok (.enter gf args) w)
  {encs:α→Array Value} {R:α→World→World→Prop} {Kp:World→World→Prop} {S Sp:List α→Prop} {N:Nat} {w0:World} (hseq:aFk F (n-1) P gf lb encs R Kp S Sp N w0)
  (hKt:∀ {A B C:World},Kp A B→Kp B C→Kp A C) (hKb:∀ (W:World) (l:Nat) (o o':Obj),w.heap.size≤l→W.heap[l]? = some o→o.isCells=false→o.isWalk=false→Kp W (W.putObj l o')) (hb0:Below w0.heap.size w0 w) (hps:∀ x,(encs x).size=ps.size)
  (I:List α→World→Prop) (Ix:Code→List α→World→Prop) (hI:OwnFrom w.heap.size I) (hIx:∀ c,OwnFrom w.heap.size (Ix c)) (h0:I [] w) (Ax:List α→α→World→Act→World→Prop) (hAx:∀ pre x V a',OwnFrom w.heap.size (fun (_:Unit) W=>Ax pre x V a' W))
  (hassign:∀ (l:Nat) (pre:List α) (x:α) (V W:World) (K:Act→World→Prop),I pre V→V.grownBy W none→R x V W→(∀ a' W',KeepsFrom w.heap.size W W'→Ax pre x V a' W'→K a' W') →
   assign.wpIn (F.inRound l) (n-1-1) P (Exit.then K (fun _ _ _=>False)) { tmps:=(ps.zip (encs x)).foldl (fun t (p,v)=>t.setIfInBounds p v) a.tmps,defers:=[] } W)
  (hbody:∀ (l:Nat) (pre:List α) (x:α) (a':Act) (V W:World),w.heap.size≤l→(∃ r,W.heap[l]? = some (.loop r))→Ax pre x V a' W→pre.length<N→body.wpIn (F.inRound l) (n-1-1) P (bGb w.heap.size Kp I Ix (pre++[x]) V W) a' W)
  (hdone:∀ (D:Nat) (xs:List α) (W:World),w.heap.size≤D→S xs→I xs W→W.heap[D]? = some (.deferred (some []))→Q .normal { a with defers:={ target := .collected D,args := #[] }::a.defers } W)
  (hstop:∀ (D:Nat) (c:Code) (pre:List α) (W:World),w.heap.size≤D→Sp pre→Ix c pre W→W.heap[D]? = some (.deferred (some []))→c.wpIn F n P Q { a with defers:={ target := .collected D,args := #[] }::a.defers } W) :
  (Code.rangeFunc g ps assign body).wpIn F n P Q a w:=by
 refine wpIn_rangeFunc fun fn hfn => ?_
 rw [hro];obtain ⟨rc,hrc⟩:∃ rc:LoopState→Option Code→Loop,rc=fun st pe=>{ state:=st,pending:=pe,fn,tmps:=a.tmps,params:=ps,assign,body,defers:=w.heap.size }:=⟨_,rfl⟩
 obtain ⟨W1,hW1⟩:∃ W1,(w.alloc (.deferred (some []))).alloc (.loop (rc .ready none))=W1:=⟨_,rfl⟩;have hsz:W1.heap.size=w.heap.size+2:=by rw [← hW1];simp
 have hL1:W1.heap[w.heap.size+1]? = some (.loop (rc .ready none)):=by
  have:=World.alloc_heap_new (w.alloc (.deferred (some []))) (.loop (rc .ready none));rw [World.size_alloc] at this
  rw [← hW1];exact this
 have hK1:W1.heap[w.heap.size]? = some (.deferred (some [])):=by
  rw [← hW1];exact (Below.heap_alloc _ _ _ (by simp)).trans (World.alloc_heap_new w _)
 have hI1:I [] W1:=by rw [← hW1];exact hI.alloc _ (hI.alloc _ h0)
 have hb1:Below w0.heap.size w0 W1:=by
  rw [← hW1];exact hb0.trans ((((Below.refl _ w).alloc (dU _) _).alloc (by simp) _).mono hb0.size)
 let Bk (st:LoopState) (pe:Option Code) (W:World):Prop:=W.heap[w.heap.size+1]? = some (.loop (rc st pe))∧W.heap[w.heap.size]? = some (.deferred (some []))
 have bkKeep:∀ {st:LoopState} {pe:Option Code} {A B:World} {row:Option Nat},Bk st pe A→A.grownBy B row→(∀ r,row=some r→∃ o:Obj,A.heap[r]? = some o∧o.isWalk=true)→Bk st pe B:=fun hs hg' hr =>
  ⟨(grownBy_keeps hg' hr hs.1 rfl).trans hs.1,(grownBy_keeps hg' hr hs.2 rfl).trans hs.2⟩
 have walkOwn:∀ {A:World} {row:Option Nat},(∀ r,row=some r→W1.heap.size≤r∧∃ o:Obj,A.heap[r]? = some o∧o.isWalk=true)→∀ r,row=some r→w.heap.size≤r∧∃ o:Obj,A.heap[r]? = some o∧o.isCells=false:=fun hr r e=>by
  obtain ⟨hB,o,ho,hw⟩:=hr r e;exact ⟨by omega,o,ho,Obj.not_cells_of_walk hw⟩
 refine ⟨w.heap.size+1,[{ target := .collected w.heap.size,args := #[] }],W1,{ target := .fn (.func gf) lb,args := #[.func (.yield (w.heap.size+1)) #[] #[]] },W1,gf,
  #[.func (.yield (w.heap.size+1)) #[] #[]]++lb,W1,?_,?_,?_,?_,fun _=>h1,?_⟩
 ·rw [← hW1,hrc];exact run_enterLoop_outer _ _ _ _ _
 ·simp only [resolve,hg]
  simp [go_sem]
 ·intro f' hf';simp [Target.leads] at hf';subst hf';exact hFg
 ·simp [invoke,go_sem,eg]
 ·refine (hseq (w.heap.size+1) (fun pre W=>I pre W∧Bk .ready none W) (fun pre W=>∃ c,Ix c pre W∧Bk .done (some c) W) W1 hb1
   (fun s A B row hs hg' hr=>⟨hI s A B row hs.1 hg' (walkOwn hr),bkKeep hs.2 hg' fun r e=>(hr r e).2⟩)
   (fun s A B row hs hg' hr=>by
    obtain ⟨c,hc,hb⟩:=hs;exact ⟨c,hIx c s A B row hc hg' (walkOwn hr),bkKeep hb hg' fun r e=>(hr r e).2⟩)
   ?_ ⟨hI1,hL1,hK1⟩).mono ?_
  ·-- a round
   rintro pre x V W ⟨hi,hbk⟩ hg' hR hlen;have hbW:=bkKeep hbk hg' (fun r e=>by cases e)
   have hlt:w.heap.size+1<W.heap.size:=(lF.1 hbW.1).1;have hy:=run_yield (P:=P) (args:=encs x) hbW.1 (by rw [hrc];exact hps x)
   rw [hrc] at hy
   refine ⟨fn,_,assign,body,hy,roundIn_of_wpIn hfn (hassign _ pre x V W _ hi hg' hR ?_)⟩;clear hy;intro a' Wa hkf hax;have hl:=hkf.same _ _ (by omega) hbW.1 rfl
   have hk:=hkf.same _ _ (dU _) hbW.2 rfl;have hlta:w.heap.size+1<Wa.heap.size:=(lF.1 hl).1;refine ⟨_,run_beginRound hl (by rw [hrc]),?_⟩
   have hl2:(Wa.putObj (w.heap.size+1) (.loop { rc .ready none with state := .busy })).heap[w.heap.size+1]? = some (.loop { rc .ready none with state := .busy }):=World.putObj_heap_same hlta
   have hk2:(Wa.putObj (w.heap.size+1) (.loop { rc .ready none with state := .busy })).heap[w.heap.size]? = some (.deferred (some [])):=(World.putObj_heap_other (by omega)).trans hk
   refine wpIn_mono (hbody _ pre x a' V _ (by omega) ⟨_,hl2⟩ ((hAx pre x V a').putObj (s:=()) _ hax (by omega) hl rfl) hlen) ?_
   have fin:∀ (jump:Option Code) (W3:World),KeepsFrom w.heap.size (Wa.putObj (w.heap.size+1) (.loop { rc .ready none with state := .busy })) W3 →
     (Instr.endRound (w.heap.size+1) jump).run P W3 = .ok (.bool jump.isNone) (W3.putObj (w.heap.size+1) (.loop (rc (if jump.isNone then .ready else .done) jump))) ∧
     W3.heap[w.heap.size+1]? = some (.loop { rc .ready none with state := .busy })∧Bk (if jump.isNone then .ready else .done) jump (W3.putObj (w.heap.size+1) (.loop (rc (if jump.isNone then .ready else .done) jump))):=fun jump W3 hk3=>by
    have hl3:=hk3.same _ _ (by omega) hl2 rfl
    have hrun:=run_endRound (P:=P) jump hl3;rw [hrc] at hrun
    refine ⟨by rw [hrc];exact hrun,hl3,?_⟩
    exact ⟨World.putObj_heap_same (lF.1 hl3).1,(World.putObj_heap_other (by omega)).trans (hk3.same _ _ (dU _) hk2 rfl)⟩
   rintro e a3 W3 hp;cases e with
   | normal =>
    obtain ⟨hk3,hkp3,hi3⟩:=hp;obtain ⟨hr,hl3,hb4⟩:=fin none W3 hk3;exact ⟨_,_,hr,.inl ⟨rfl,⟨hI.putObj _ hi3 (by omega) hl3 rfl,hb4⟩,hKt hkp3 (hKb _ _ _ _ (by omega) hl3 rfl rfl)⟩⟩
   | ret =>
    obtain ⟨hk3,hi3⟩:=hp;obtain ⟨hr,hl3,hb4⟩:=fin (some .ret) W3 hk3;exact ⟨_,_,hr,.inr ⟨rfl,.ret,(hIx _).putObj _ hi3 (by omega) hl3 rfl,hb4⟩⟩
   | exit id =>
    obtain ⟨hk3,hi3⟩:=hp;obtain ⟨hr,hl3,hb4⟩:=fin (some (.exit id)) W3 hk3;exact ⟨_,_,hr,.inr ⟨rfl,.exit id,(hIx _).putObj _ hi3 (by omega) hl3 rfl,hb4⟩⟩
   | goto t =>
    obtain ⟨hk3,hi3⟩:=hp;obtain ⟨hr,hl3,hb4⟩:=fin (some (.goto t)) W3 hk3;exact ⟨_,_,hr,.inr ⟨rfl,.goto t,(hIx _).putObj _ hi3 (by omega) hl3 rfl,hb4⟩⟩
   | panic ch=>exact hp.elim
   | outgrown=>exact hp.elim
  ·-- behind the iterator
   rintro e W2 ⟨⟨v,rfl⟩,(⟨xs,hS,hi,hb⟩ | ⟨pre,hSp,c,hi,hb⟩)⟩
   ·have:=run_endLoop (P:=P) hb.1 (by rw [hrc];simp)
    rw [hrc] at this
    exact ⟨none,_,this,hdone _ xs _ (dU _) hS (hI.putObj _ hi (by omega) hb.1 rfl) ((World.putObj_heap_other (by omega)).trans hb.2)⟩
   ·have:=run_endLoop (P:=P) hb.1 (by rw [hrc];simp)
    rw [hrc] at this
    exact ⟨some c,_,this,hstop _ c pre _ (dU _) hSp ((hIx c).putObj _ hi (by omega) hb.1 rfl) ((World.putObj_heap_other (by omega)).trans hb.2)⟩
end KV
end Go.Proofs
end
section
namespace Go.Proofs
open Go.RowKit
namespace KV
variable {P:Program} {C C0:Cx} {M M0:Mem} {w w0:World}
abbrev lJ(l:List Int):AO := .row 3 l.length (l.map aA)
def bFy(P:Program)(x:List Int × Value)(W0 W1:World):Prop:=x.1.length≤1000∧∃ C1:Cx,aR P C1 [some (lJ x.1)] W1∧Rep C1 [some (lJ x.1)] W1 (.own 0) x.2∧∀ b,C1.ι 0=some b→W0.heap.size≤b

theorem oG{W0 W1:World}(hg:W0.grownBy W1 none)(b:Nat)(hb:b<W0.heap.size):W1.heap[b]? = W0.heap[b]? := hg.block b hb (fun e=>by cases e)
theorem bFz{M':Mem}{W0 W1:World}{x:List Int × Value}(hM:aR P C M' W0)(hg:W0.grownBy W1 none)(hR:bFy P x W0 W1) :
  ∃ C2,aR P C2 (M'++[some (lJ x.1)]) W1∧Fr C M' W0 C2 (M'++[some (lJ x.1)]) W1∧Rep C2 (M'++[some (lJ x.1)]) W1 (.own M'.length) x.2:=by
 obtain ⟨_,C1,h1,h2,h3⟩:=hR
 let C2:Cx:={ ι:=fun i=>if i=M'.length then C1.ι 0 else C.ι i,κ:=fun i=>if i=M'.length then C1.κ 0 else C.κ i,F:=C.F }
 have old:∀ (i:Nat) (o:AO),M'[i]? = some (some o)→i<M'.length∧(M'++[some (lJ x.1)])[i]? = some (some o)∧C2.ι i=C.ι i∧C2.κ i=C.κ i:=fun i o h=>by
  have hl:=(kQ3.1 h).1;refine ⟨hl,by rw [aAy hl];exact h,if_neg (by omega),if_neg (by omega)⟩
 have cls:∀ (i:Nat) (o:AO),(M'++[some (lJ x.1)])[i]? = some (some o)→M'[i]? = some (some o)∨(i=M'.length∧o=lJ x.1):=fun i o h=>by
  rcases Nat.lt_or_ge i M'.length with hl | hl
  ·rw [aAy hl] at h;exact .inl h
  ·rw [aAx hl] at h
   cases hd:i-M'.length with
   | zero =>
    rw [hd] at h
    simp at h
    exact .inr ⟨by omega,h.symm⟩
   | succ j=>rw [hd] at h;simp at h
 have new:C2.ι M'.length=C1.ι 0∧C2.κ M'.length=C1.κ 0:=⟨if_pos rfl,if_pos rfl⟩;have f:Fr C M' W0 C2 (M'++[some (lJ x.1)]) W1:=by
  refine ⟨hg.os,hg.tape,hg.output,hg.size,fun b hb _=>oG hg b hb,fun i o h => ?_,fun i o h ty n cs hm => ?_,fun i o h o' h' hl => ?_,fun i o b h hl hb => ?_,fun b h=>h,fun b h => .inl h⟩
  ·obtain ⟨_,q1,q2,q3⟩:=old i o h
   exact ⟨⟨o,q1⟩,q2,q3⟩
  ·rw [(old i o h).2.1] at hm;cases hm;exact ⟨cs,h⟩
  ·rw [(old i o h).2.1] at h';cases h';exact hl
  ·rcases cls i o h with q | ⟨rfl,rfl⟩
   ·rw [(old i o q).2.2.1] at hb;exact .inr ⟨i,o,q,hl,hb⟩
   ·rw [new.1] at hb;exact .inl (h3 b hb)
 have hL:=hM.le f;have hr0:=h1.row 0 3 x.1.length (x.1.map aA) rfl;refine ⟨C2,⟨fun i ty n cs hm => ?_,fun i ty cs hm => ?_,fun i es cl hm => ?_,fun i i' o1 o2 b q1 l1 q2 l2 e1 e2 => ?_,fun i o b hm hl hb => ?_,fun b hb=>kQ8 (hM.Fs b hb) hg.size,fun i o b hm hl hb => ?_⟩,f,?_⟩
 ·rcases cls i _ hm with q | ⟨rfl,q⟩
  ·obtain ⟨hlt,_,q2,q3⟩:=old i _ q
   rw [q2,q3]
   rcases hM.row _ _ _ _ q with h4 | ⟨b,arr,inf,p0,p1,p2,p3,p4,p5,p6,p7,p8⟩
   ·exact .inl h4
   ·exact .inr ⟨b,arr,inf,p0,by rw [oG hg b (hM.lt i _ b q rfl p0)];exact p1,p2,p3,p4,p5,p6,fun j hj=>(p7 j hj).mono hL.F hL.fz,p8⟩
  ·cases q
   rw [new.1,new.2]
   rcases hr0 with h4 | ⟨b,arr,inf,p0,p1,p2,p3,p4,p5,p6,p7,p8⟩
   ·exact .inl h4
   ·refine .inr ⟨b,arr,inf,p0,p1,p2,p3,p4,p5,p6,fun j hj => ?_,p8⟩
    have:=p7 j hj;revert this;rw [lG];generalize arr.getD j undef=u;intro h;cases h;exact .v _
 ·rcases cls i _ hm with q | ⟨rfl,q⟩
  ·obtain ⟨b,arr,p0,p1,p2,p3,p4⟩:=hM.box _ _ _ q
   exact ⟨b,arr,by rw [(old i _ q).2.2.1];exact p0,by rw [oG hg b (hM.lt i _ b q rfl p0)];exact p1,p2,fun j hj=>(p3 j hj).mono hL,p4⟩
  ·cases q
 ·rcases cls i _ hm with q | ⟨rfl,q⟩
  ·obtain ⟨b,arr,p0,p1,p2,p3⟩:=hM.mp _ _ _ q
   refine ⟨b,arr,by rw [(old i _ q).2.2.1];exact p0,by rw [oG hg b (hM.lt i _ b q rfl p0)];exact p1,p2,fun j hj => ?_⟩
   obtain ⟨en,r1,r2,r3,r4⟩:=p3 j hj;exact ⟨en,r1,r2,r3,r4.mono hL.F hL.fz⟩
  ·cases q
 ·rcases cls i _ q1 with c1 | ⟨rfl,rfl⟩ <;> rcases cls i' _ q2 with c2 | ⟨rfl,rfl⟩
  ·rw [(old i _ c1).2.2.1] at e1
   rw [(old i' _ c2).2.2.1] at e2
   exact hM.inj _ _ _ _ _ c1 l1 c2 l2 e1 e2
  ·rw [(old i _ c1).2.2.1] at e1
   rw [new.1] at e2
   have:=hM.lt _ _ _ c1 l1 e1;have:=h3 b e2;omega
  ·rw [new.1] at e1
   rw [(old i' _ c2).2.2.1] at e2
   have:=hM.lt _ _ _ c2 l2 e2;have:=h3 b e1;omega
  ·rfl
 ·rcases cls i _ hm with c1 | ⟨rfl,rfl⟩
  ·rw [(old i _ c1).2.2.1] at hb
   exact hM.nF _ _ _ c1 hl hb
  ·rw [new.1] at hb
   intro hF;have:=hM.Fs b hF;have:=h3 b hb;omega
 ·rcases cls i _ hm with c1 | ⟨rfl,rfl⟩
  ·rw [(old i _ c1).2.2.1] at hb
   exact kQ8 (hM.lt _ _ _ c1 hl hb) hg.size
  ·rw [new.1] at hb
   exact h1.lt 0 _ b rfl rfl hb
 ·cases h2 with
  | own _ _ q0 qa q =>
   refine .own _ _ q0 ⟨lJ x.1,by rw [aAx (dU _),aVp];rfl⟩ fun ty n cs hm => ?_
   rw [aAx (dU _),aVp] at hm
   rw [new.1,new.2];exact q ty n cs hm

theorem pJ:∀ {m m':Mem},nmM m=true→nmM m'=true→nmM (m++m')=true
 | [],_,_,h=>h
 | none::r,m',h,h'=>by
  have:nmM (r++m')=true:=pJ (m:=r) h h';exact this
 | some x::r,m',h,h'=>by
  cases x with
  | row ty n cs =>
   simp only [nmM,kQ6] at h
   show (jS cs && nmM (r++m'))=true;rw [h.1,pJ h.2 h'];rfl
  | box ty l =>
   simp only [nmM,kQ6] at h
   show (nmL l && nmM (r++m'))=true;rw [h.1,pJ h.2 h'];rfl
  | mp=>exact pJ (m:=r) h h'
  | pk=>exact pJ (m:=r) h h'
  | dead=>exact pJ (m:=r) h h'
theorem kK:∀ {m m':Mem},fO m=true→fO m'=true→fO (m++m')=true
 | [],_,_,h=>h
 | none::r,m',h,h'=>kK (m:=r) h h'
 | some x::r,m',h,h'=>by
  cases x with
  | mp=>simp [fO] at h
  | pk=>simp [fO] at h
  | row=>exact kK (m:=r) h h'
  | box=>exact kK (m:=r) h h'
  | dead=>exact kK (m:=r) h h'

theorem bGa{M':Mem}{W W':World}{C1:Cx}{row:Option Nat}(hn:xZ M')(hq:nmM M'=true)(hF:∀ b,C.F b→b<w.heap.size)(h1:aR P C1 M' W)(h2:Fr C M w C1 M' W)(hg:W.grownBy W' row)
  (hr:∀ r,row=some r→w.heap.size≤r∧∃ o:Obj,W.heap[r]? = some o∧o.isCells=false):∃ C',C'.ι=C1.ι∧C'.κ=C1.κ∧aR P C' M' W'∧Fr C M w C' M' W':=by
 let C':Cx:=⟨C1.ι,C1.κ,fun b=>C1.F b∧(b<w.heap.size∨kZ W b),[]⟩
 have hM:aR P C' M' W:=by
  refine ⟨fun i ty n cs hm => ?_,fun i ty cs hm => ?_,fun i es cl hm=>absurd hm (hn.1 _ _ _),h1.inj,fun i o b ho hl hb hf=>h1.nF i o b ho hl hb hf.1,fun b hb=>h1.Fs b hb.1,h1.lt⟩
  ·rcases h1.row _ _ _ _ hm with h4 | ⟨b,arr,inf,q0,q1,q2,q3,q4,q5,q6,q7,q8⟩
   ·exact .inl h4
   ·exact .inr ⟨b,arr,inf,q0,q1,q2,q3,q4,q5,q6,fun j hj=>(q7 j hj).shrink (fun b hb hs=>⟨hb,.inr hs⟩) (pD ((aBp hq).1 _ _ _ _ hm) j hj),q8⟩
  ·obtain ⟨b,arr,q0,q1,q2,q3,q4⟩:=h1.box _ _ _ hm
   exact ⟨b,arr,q0,q1,q2,fun j hj=>(q3 j hj).shrink (fun b hb hs=>⟨hb,.inr hs⟩) (tH ((aBp hq).2 _ _ _ hm) j hj),q4⟩
 have f:Fr C M w C' M' W:=⟨h2.os,h2.tape,h2.out,h2.size,h2.keep,h2.ids,h2.row,h2.liv,h2.new,fun b hb=>⟨h2.F1 b hb,.inl (hF b hb)⟩,fun b hb=>h2.F2 b hb.1⟩
 have hS:∀ b,C'.F b→b<w.heap.size∨kZ W b:=fun b hb=>hb.2
 have hsame:∀ b,b<W.heap.size→(b<w.heap.size∨kZ W b)→W'.heap[b]? = W.heap[b]? := fun b hb hd=>hg.block b hb (fun e=>by
  obtain ⟨q1,o,q2,q3⟩:=hr b e.symm
  rcases hd with hd | hd
  ·omega
  ·exact jD q2 q3 hd)
 have hFz:∀ b,C'.F b→W'.heap[b]? = W.heap[b]? := fun b hb=>hsame b (hM.Fs b hb) (hS b hb)
 have hL:Le C' C' M' M' W W':=⟨fun _ o h=>⟨o,h⟩,fun _ _ _ _ _ cs h=>⟨cs,h⟩,fun _ o h o' h' hl=>by rw [h] at h';cases h';exact ⟨hl,rfl,rfl⟩,fun _ h=>h,hFz⟩
 refine ⟨C',rfl,rfl,⟨fun i ty n cs hm => ?_,fun i ty cs hm => ?_,fun i es cl hm=>absurd hm (hn.1 _ _ _),hM.inj,hM.nF,fun b hb=>kQ8 (hM.Fs b hb) hg.size,fun i o b ho hl hb=>kQ8 (hM.lt i o b ho hl hb) hg.size⟩,
  ⟨hg.os.trans f.os,hg.tape.trans f.tape,hg.output.trans f.out,gJ f.size hg.size,fun b hb hno=>(hsame b (kQ8 hb f.size) (.inl hb)).trans (f.keep b hb hno),f.ids,f.row,f.liv,f.new,f.F1,f.F2⟩⟩
 ·rcases hM.row _ _ _ _ hm with h4 | ⟨b,arr,inf,q0,q1,q2,q3,q4,q5,q6,q7,q8⟩
  ·exact .inl h4
  ·exact .inr ⟨b,arr,inf,q0,(hsame b (lF.1 q1).1 (.inr (fB q1))).trans q1,q2,q3,q4,q5,q6,fun j hj=>(q7 j hj).mono hL.F hL.fz,q8⟩
 ·obtain ⟨b,arr,q0,q1,q2,q3,q4⟩:=hM.box _ _ _ hm
  exact ⟨b,arr,q0,(hsame b (lF.1 q1).1 (.inr (fB q1))).trans q1,q2,fun j hj=>(q3 j hj).mono hL,q4⟩
theorem aQm{C1 C':Cx}{M':Mem}{W W':World}{i:Nat}{u:Value}(h:Rep C1 M' W (.own i) u)(e1:C'.ι=C1.ι)(e2:C'.κ=C1.κ):Rep C' M' W' (.own i) u:=by
 cases h with
 | own _ _ q0 qa q=>exact .own _ _ q0 qa fun ty n cs hm=>by rw [e1,e2];exact q ty n cs hm

def bNf(P:Program)(g:AV)(gf N:Nat)(xs:Lqq):Prop:=∀ (C:Cx) (M:Mem) (w:World) (u:Value),Rep C M w g u→(∀ b,C.F b→b<w.heap.size) →
 ∃ lb,u = .func (.func gf) #[] lb∧aFk Fence.wide 2 P gf lb (fun x:List Int × Value => #[x.2]) (bFy P) (KpG C.F) (fun ys=>ys.map (·.1)=xs) (fun ys=>ys.map (·.1) <+: xs) N w

def rfO(st:St)(p1 d:Nat)(l:List Int):St:=⟨put (put st.t (some p1) (.own st.m.length)) (some d) (.own st.m.length),st.m++[some (lJ l)]⟩

section
variable {k kb gi gf p1 d id ty:Nat} {pos:String} {body:Code} {g:AV} {N:Nat} {xs:Lqq}
theorem aFj(st0:St)(S:Lqq→St)(E ER:Lqq→List Int→St)(T:List AV)(MR:Mem)(p:Lqq→List Int→Bool){cc:Code}(hcc:cc = .rangeFunc (.tmp gi) #[p1] (.region id #[{ dst:=some d,op := .assign (.tmp p1),type:=ty,pos:=pos,after := #[],guard:=none }] false) body)
  (hT0:st0.t=T) (hT:∀ pre,(S pre).t=T) (hg:T[gi]? = some g) (hit:bNf P g gf N xs) (eg:∀ args w,(callFunc gf args).run P w = .ok (.enter gf args) w)
  (hmp:∀ pre,fO (S pre).m=true) (hq:∀ pre,nmM (S pre).m=true) (hmE:∀ pre l,fO (E pre l).m=true) (hmER:∀ pre l,fO (ER pre l).m=true) (hmR:fO MR=true) (hqR:nmM MR=true) (hlen:∀ pre,(S pre).m.length<kb) (hnrf:nrf body=true)
  (hp:∀ (x:AV),(put T (some p1) x)[p1]? = some x) {kk:Nat} {g0 g1 gR:Gh} (hkk:st0.m.length≤kk) (h0m:fO st0.m=true) (hg0:gh kk g0 st0=some (S [])) (hgh:∀ pre l,gh kk g1 (E pre l)=some ⟨(E pre l).t,(S (pre++[l])).m⟩) (hgR:∀ pre l,p pre l=true→gh kk gR (ER pre l)=some ⟨(ER pre l).t,MR⟩)
  (hbody:∀ pre l,pre.length<N→l.length≤1000→(p pre l=false→aC P kb body (rfO (S pre) p1 d l) .normal (E pre l))∧(p pre l=true→aC P kb body (rfO (S pre) p1 d l) .ret (ER pre l))) :
  ((∀ pre l,pre++[l] <+: xs→p pre l=false)→aC P k cc st0 .normal (S xs)) ∧
  ((∃ pre l,pre++[l] <+: xs∧p pre l=true)→aC P k cc st0 .ret ⟨T,MR⟩):=by
 have hmp':∀ pre,xZ (S pre).m:=fun pre=>dZ (hmp pre)
 have hmR':xZ MR:=dZ hmR;have main:∀ (Qf:Ex→St→Prop),((∀ pre l,pre++[l] <+: xs→p pre l=false)→Qf .normal (S xs))→((∃ pre l,pre++[l] <+: xs∧p pre l=true)→Qf .ret ⟨T,MR⟩) →
   ∀ (C0:Cx) (M0:Mem) (w0:World) (a:Act) (w:World),M0.length≤k→Sim P C0 M0 w0 st0 a w→∀ (ro:Option Nat),kS ro cc→∀ (n:Nat),cc.wpIn (Fen ro) n P (fun e' a' w'=>∃ e st',Qf e st'∧e'=e.toExit∧Sim P C0 M0 w0 st' a' w') a w:=by
  intro Qf hQ1 hQ2 C0 M0 w0 a w hk hs ro hro n;subst hcc;have hro':ro=none:=hro.resolve_right (by simp [nrf])
  subst hro';refine aBq (n:=3) ?_;obtain ⟨C,hSl,hM,hF,hD⟩:=hs;have hini:aXg P C st0.m w (S []).m w:=by
   obtain ⟨C1,_,h1,h2,_⟩:=eJ hkk hg0 (show Sim P (C.with []) st0.m w st0 { a with defers:=[] } w from ⟨C,hSl,hM,(Fr.refl _ _ _).based [],.nil rfl (dZ h0m).2⟩)
   exact ⟨C1,h1,h2.unbased⟩
  rw [hT0] at hSl
  obtain ⟨lb,hu,hseq⟩:=hit C st0.m w _ (hSl.at hg) hM.Fs
  have actOf:∀ x:List Int × Value,Act:=fun x=>({ tmps:=a.tmps.setIfInBounds p1 x.2,defers:=[] }:Act).put (some d) (({ tmps:=a.tmps.setIfInBounds p1 x.2,defers:=[] }:Act).eval (.tmp p1))
  refine rY (F:=Fen none) (n:=3) rfl (by omega) (gf:=gf) (lb:=lb) hu trivial eg hseq (fun h k=>h.trans k)
   (fun W l o o' hl h1 h2 h3=>⟨by simp,fun b hb=>(grownBy_putObj' W l o').block b (kQ8 (hM.Fs b hb) (gJ hl (Nat.le_of_lt (lF.1 h1).1))) (fun e=>by cases e;have:=hM.Fs _ hb;omega)⟩)
   (Below.refl _ _) (fun _=>rfl)
   (fun pre W=>aXg P C st0.m w (S (pre.map (·.1))).m W∧∀ q l,q++[l] <+: pre.map (·.1)→p q l=false)
   (fun c pre W=>c = .ret∧aXg P C st0.m w MR W∧∃ q l,q++[l]=pre.map (·.1)∧p q l=true)
   (fun pre X Y row hs hg hr=>⟨hs.1.own (hmp' _) (hq _) hM.Fs hg hr,hs.2⟩) (fun c pre X Y row hs hg hr=>⟨hs.1,hs.2.1.own hmR' hqR hM.Fs hg hr,hs.2.2⟩)
   ⟨hini,fun q l h=>by simp at h⟩
   (fun pre x V a' W=>a'=({ tmps:=a.tmps.setIfInBounds p1 x.2,defers:=[] }:Act).put (some d) (({ tmps:=a.tmps.setIfInBounds p1 x.2,defers:=[] }:Act).eval (.tmp p1)) ∧
    (∃ C2,aR P C2 ((S (pre.map (·.1))).m++[some (lJ x.1)]) W∧Fr C st0.m w C2 ((S (pre.map (·.1))).m++[some (lJ x.1)]) W∧Rep C2 ((S (pre.map (·.1))).m++[some (lJ x.1)]) W (.own (S (pre.map (·.1))).m.length) x.2) ∧
    KpG C.F V W∧x.1.length≤1000∧∀ q l,q++[l] <+: pre.map (·.1)→p q l=false)
   (fun pre x V a' s X Y row hs hg hr=>by
    obtain ⟨e1,⟨C2,q1,q2,q3⟩,e3,e4,e5⟩:=hs;have hnr:nmM [some (lJ x.1)]=true:=by
     show (jS (x.1.map aA) && nmM [])=true;rw [aBo aA (fun _=>rfl)];rfl
    obtain ⟨C',i1,i2,i3,i4⟩:=bGa (dZ (kK (hmp _) (by rfl))) (pJ (hq _) hnr) hM.Fs q1 q2 hg hr
    refine ⟨e1,⟨C',i3,i4,aQm q3 i1 i2⟩,⟨gJ e3.size hg.size,fun b hb => ?_⟩,e4,e5⟩
    refine (hg.block b (kQ8 (hM.Fs b hb) q2.size) (fun e => ?_)).trans (e3.same b hb)
    have:=(hr b e.symm).1;have:=hM.Fs b hb;omega)
   ?assign ?body ?done ?stop
  case assign =>
   intro l pre x V W K hI hg' hR hK;obtain ⟨⟨C',hM',hF'⟩,hpre⟩:=hI;obtain ⟨C2,j1,j2,j3⟩:=bFz hM' hg' hR;have hz:(#[p1].zip #[x.2]).foldl (fun t (y:Nat × Value)=>t.setIfInBounds y.1 y.2) a.tmps=a.tmps.setIfInBounds p1 x.2:=by simp
   rw [hz];refine wpIn_region_lit (wpListIn_plain rfl fun K' hK' => ?_)
   unfold Oper.wpIn;refine ⟨fun f _=>trivial,?_⟩
   rw [Oper.semAt_plain _ _ _ (by intro c hc';cases hc')]
   simp only [execOp,Sem.run_pure];exact hK' _ _ (wpListIn_nil (hK _ _ (KeepsFrom.refl _ _) ⟨rfl,⟨C2,j1,hF'.trans j2,j3⟩,⟨hg'.size,fun b hb=>oG hg' b (kQ8 (hM.Fs b hb) hF'.size)⟩,hR.1,hpre⟩))
  case body =>
   rintro l pre x a' V W hl _ ⟨rfl,⟨C2,hM2,hF2,hr2⟩,hK2,hxl,hpre⟩ hlt;have hpl:(pre.map (·.1)).length<N:=by simpa using hlt
   have hSW:eC C2 ((S (pre.map (·.1))).m++[some (lJ x.1)]) W T a.tmps:=hSl.le (hM.le hF2)
   have s1:eC C2 ((S (pre.map (·.1))).m++[some (lJ x.1)]) W (put T (some p1) (.own (S (pre.map (·.1))).m.length)) (({ tmps:=a.tmps,defers:=[] }:Act).put (some p1) x.2).tmps :=
    eC.put (a:={ tmps:=a.tmps,defers:=[] }) hSW hr2
   have s2:eC C2 ((S (pre.map (·.1))).m++[some (lJ x.1)]) W (put (put T (some p1) (.own (S (pre.map (·.1))).m.length)) (some d) (.own (S (pre.map (·.1))).m.length)) (({ tmps:=a.tmps.setIfInBounds p1 x.2,defers:=[] }:Act).put (some d) (({ tmps:=a.tmps.setIfInBounds p1 x.2,defers:=[] }:Act).eval (.tmp p1))).tmps :=
    eC.put s1 (s1.at (hp _))
   have hnr:fO ((S (pre.map (·.1))).m++[some (lJ x.1)])=true:=kK (hmp _) (by rfl)
   have hsim:Sim P (C2.with []) ((S (pre.map (·.1))).m++[some (lJ x.1)]) W (rfO (S (pre.map (·.1))) p1 d x.1) (({ tmps:=a.tmps.setIfInBounds p1 x.2,defers:=[] }:Act).put (some d) (({ tmps:=a.tmps.setIfInBounds p1 x.2,defers:=[] }:Act).eval (.tmp p1))) W:=by
    refine ⟨C2,?_,hM2,(Fr.refl _ _ _).based [],.nil rfl (dZ hnr).2⟩;unfold rfO;rw [hT];exact s2
   have hkl:((S (pre.map (·.1))).m++[some (lJ x.1)]).length≤kb:=by
    rw [mD];exact hlen _
   have keepO:∀ {M2:Mem} {W2:World} {C3:Cx},Fr C2 ((S (pre.map (·.1))).m++[some (lJ x.1)]) W C3 M2 W2→KeepsFrom w.heap.size W W2∧KpG C.F V W2:=fun f3 =>
    ⟨⟨f3.size,fun b o _ hb ho=>(f3.keep b (lF.1 hb).1 (aHf hM2 (dZ hnr) hb ho)).trans hb⟩,
     hK2.trans ⟨f3.size,fun b hb=>f3.keep b (kQ8 (hM.Fs b hb) hF2.size) (fun id o ho hl he=>hM2.nF id o b ho hl he (hF2.F1 b hb))⟩⟩
   have hmapp:(pre++[x]).map (·.1)=pre.map (·.1)++[x.1]:=by simp
   cases hpx:p (pre.map (·.1)) x.1 with
   | false =>
    refine wpIn_mono ((hbody _ x.1 hpl hxl).1 hpx (C2.with []) _ W _ W hkl hsim (some l) (.inr hnrf) 1) ?_
    rintro e a2 W2 ⟨rfl,C3,hS3,hM3,hF3,_⟩;have hF3:=hF3.unbased;obtain ⟨k1,k2⟩:=keepO hF3;have hsim3:Sim P (C.with []) st0.m w (E (pre.map (·.1)) x.1) { a2 with defers:=[] } W2 :=
     ⟨C3,hS3,hM3,(hF2.trans hF3).based [],.nil rfl (dZ (hmE _ _)).2⟩
    obtain ⟨C4,_,hM4,hF4,_⟩:=eJ hkk (hgh _ _) hsim3;refine ⟨k1,k2,⟨C4,?_,?_⟩,fun q l h => ?_⟩
    ·rw [hmapp];exact hM4
    ·rw [hmapp];exact hF4.unbased
    ·rw [hmapp] at h
     rcases List.prefix_concat_iff.1 h with h | h
     ·obtain ⟨e1,e2⟩:=List.append_inj' h rfl
      cases e2;rw [e1];exact hpx
     ·exact hpre q l h
   | true =>
    have hc:=(hbody _ x.1 hpl hxl).2 hpx;refine wpIn_mono (hc (C2.with []) _ W _ W hkl hsim (some l) (.inr hnrf) 1) ?_
    rintro e a2 W2 ⟨rfl,C3,hS3,hM3,hF3,_⟩;have hF3:=hF3.unbased;obtain ⟨k1,k2⟩:=keepO hF3;have hsim3:Sim P (C.with []) st0.m w (ER (pre.map (·.1)) x.1) { a2 with defers:=[] } W2 :=
     ⟨C3,hS3,hM3,(hF2.trans hF3).based [],.nil rfl (dZ (hmER _ _)).2⟩
    obtain ⟨C4,_,hM4,hF4,_⟩:=eJ hkk (hgR _ _ hpx) hsim3;exact ⟨k1,rfl,⟨C4,hM4,hF4.unbased⟩,_,_,hmapp.symm,hpx⟩
  case done =>
   intro D ys W hD' hSx hI hDm;obtain ⟨⟨C1,h1,h2⟩,hpre⟩:=hI;rw [hSx] at h1 h2 hpre
   refine ⟨.normal,S xs,hQ1 hpre,rfl,?_⟩;have hnm:xZ (S xs).m:=hmp' xs;obtain ⟨C',hM',f,hSo⟩:=tI hnm (hq xs) hM.Fs h1 h2;refine ⟨C',by rw [hT];exact hSl.le (hM.le f),hM',hF.trans f,?_⟩
   obtain ⟨⟨l,e1,e2,e3⟩,hR⟩:=hD.fr hM (fun i to ti sz L h=>by have:=hnm.2 _ _ h;cases this) f
   obtain ⟨⟨l',e1',_,e3'⟩,_⟩:=hD;have hll:l=l':=by
    have:=e1.symm.trans e1';exact (List.map_inj_right (fun x y h=>by simpa [mark] using h)).1 this
   refine ⟨⟨D::l,by rw [e1];rfl,List.nodup_cons.2 ⟨fun hin => ?_,e2⟩,fun D' hD2 => ?_⟩,hR⟩
   ·rw [hll] at hin
    have:=(lF.1 (e3' D hin).1).1;omega
   ·rcases iO.1 hD2 with rfl | hin
    ·refine ⟨hDm,gJ hF.size hD',fun hf => ?_⟩
     rcases hSo _ hf with h | h
     ·omega
     ·exact jD hDm rfl h
    ·exact e3 D' hin
  case stop =>
   rintro D c pre W hD' hSp ⟨rfl,⟨C1,h1,h2⟩,q,l0,hql,hpq⟩ hDm;refine wpIn_ret ?_;refine ⟨.ret,⟨T,MR⟩,hQ2 ⟨q,l0,by rw [hql];exact hSp,hpq⟩,rfl,?_⟩
   obtain ⟨C',hM',f,hSo⟩:=tI hmR' hqR hM.Fs h1 h2;refine ⟨C',hSl.le (hM.le f),hM',hF.trans f,?_⟩;obtain ⟨⟨l,e1,e2,e3⟩,hR⟩:=hD.fr hM (fun i to ti sz L h=>by have:=hmR'.2 _ _ h;cases this) f
   obtain ⟨⟨l',e1',_,e3'⟩,_⟩:=hD;have hll:l=l':=by
    have:=e1.symm.trans e1';exact (List.map_inj_right (fun x y h=>by simpa [mark] using h)).1 this
   refine ⟨⟨D::l,by rw [e1];rfl,List.nodup_cons.2 ⟨fun hin => ?_,e2⟩,fun D' hD2 => ?_⟩,hR⟩
   ·rw [hll] at hin
    have:=(lF.1 (e3' D hin).1).1;omega
   ·rcases iO.1 hD2 with rfl | hin
    ·refine ⟨hDm,gJ hF.size hD',fun hf => ?_⟩
     rcases hSo _ hf with h | h
     ·omega
     ·exact jD hDm rfl h
    ·exact e3 D' hin
 refine ⟨fun hall => ?_,fun hex => ?_⟩
 ·intro C0 M0 w0 a w hk hs ro hro n
  refine wpIn_mono (main (fun e st'=>e = .normal∧st'=S xs) (fun _=>⟨rfl,rfl⟩) (fun ⟨q,l,h1,h2⟩=>by rw [hall q l h1] at h2;cases h2) C0 M0 w0 a w hk hs ro hro n) ?_
  rintro e' a' w' ⟨e,st',⟨rfl,rfl⟩,h1,h2⟩;exact ⟨h1,h2⟩
 ·intro C0 M0 w0 a w hk hs ro hro n
  refine wpIn_mono (main (fun e st'=>e = .ret∧st'=⟨T,MR⟩) (fun hall=>by obtain ⟨q,l,h1,h2⟩:=hex;rw [hall q l h1] at h2;cases h2) (fun _=>⟨rfl,rfl⟩) C0 M0 w0 a w hk hs ro hro n) ?_
  rintro e' a' w' ⟨e,st',⟨rfl,rfl⟩,h1,h2⟩;exact ⟨h1,h2⟩
end
end KV
end Go.Proofs
end
section
namespace Go.Proofs
open Go.RowKit
namespace KV
variable {P:Program} {T:TT} {E:Env} {C C0:Cx} {M M0:Mem} {w w0:World}
def bVz(P:Program)(ops:Array Oper)(o:Oper)(st st':St):Prop:=∀ (C0:Cx) (M0:Mem) (w0:World) (a:Act) (w:World),Sim P C0 M0 w0 st a w→∀ (ro:Option Nat) (n:Nat) (K:Act→World→Prop) (Q:Exit→Act→World→Prop),
 (∀ a' w',(∃ v,a'=a.put o.dst v)→Sim P C0 M0 w0 st' a' w'→K a' w')→if Region.wanted o (yielded ops a.tmps) then o.wpIn (Fen ro) n P a w K Q else (∀ f,o.about P w a.eval=some f→(Fen ro).fn f)∧K (a.put o.dst undef) w
theorem bAs(hT:∀ t i,T t=some i→cJ P t=some i)(hE:kY P E){ops:List Oper}{o:Oper}{id:Nat}{st st':St}{s s':AS}(h:oJ P T E ops o id st s=some (st',s'))(g:bB s'):bVz P ops.toArray o st st':=by
 intro C0 M0 w0 a w hsim ro n K Q hK;obtain ⟨C,hS,hM,hF,hD⟩:=hsim;unfold oJ at h
 obtain ⟨go,s1,h1,k1⟩:=aD h;cases go with
 | true =>
  obtain ⟨vs,s2,h2,k2⟩:=aD k1;obtain ⟨e2,rfl⟩:=aF h2;obtain ⟨⟨x,L⟩,s3,h3,k3⟩:=aD k2;obtain ⟨rfl,rfl⟩:=aK k3;have gd:=oI.good h3 g;rw [mK hS h1 gd,if_pos rfl];refine ⟨fun f _=>trivial,?_⟩
  rw [Oper.semAt_eq _ _ _ (xO h3)]
  rcases rK h3 with ⟨q,_,_,h4⟩ | ⟨h4,hno⟩
  ·obtain ⟨_,hup⟩:=xP hT hE hS hM hF hD (qD hS _ _ e2) h4 g
   revert hup;generalize (execOp a.eval o).run P w=r;intro hup;cases r with
   | halt x w'=>exact hup.elim
   | ok nx w' =>
    cases nx with
    | value u=>exact hK _ _ ⟨_,rfl⟩ hup
    | skip=>exact hK _ _ ⟨_,rfl⟩ (hup _)
    | enter f us =>
     obtain ⟨rfl,hc⟩:=hup;refine ⟨fun h=>by simp [Fen,Fence.wide] at h,(rJ (hc (n-1))).mono ?_⟩
     rintro e w'' ⟨u,rfl,hs⟩;exact hK _ _ ⟨_,rfl⟩ hs
    | _=>exact hup.elim
  ·obtain ⟨_,hup⟩:=aAg hT hE hM (qD hS _ _ e2) h4 g
   have hk:kA st.m (upds st.m L):=qC hno;revert hup;generalize (execOp a.eval o).run P w=r;intro hup;cases r with
   | halt x w'=>exact hup.elim
   | ok nx w' =>
    cases nx with
    | value u =>
     obtain ⟨C',f,m,r⟩:=hup;exact hK _ _ ⟨_,rfl⟩ (mL hS hM hF hD f hk m r)
    | skip =>
     obtain ⟨rfl,C',f,m⟩:=hup;exact hK _ _ ⟨_,rfl⟩ (mL hS hM hF hD f hk m (.any _))
    | enter f us =>
     obtain ⟨rfl,hc⟩:=hup;refine ⟨fun h=>by simp [Fen,Fence.wide] at h,(rJ (hc (n-1))).mono ?_⟩
     rintro e w'' ⟨u,rfl,C',f,m,r⟩;exact hK _ _ ⟨_,rfl⟩ (mL hS hM hF hD f hk m r)
    | _=>exact hup.elim
 | false =>
  obtain ⟨rfl,rfl⟩:=aK k1;rw [mK hS h1 g];simp only [Bool.false_eq_true,if_false];exact ⟨fun f _=>trivial,hK _ _ ⟨_,rfl⟩ (mL hS hM hF hD (Fr.refl ..) .refl hM (.tup [] #[] rfl (fun i h=>by simp at h)))⟩
theorem oF{a:Act}{d:Option Nat}{v:Value}{i:Nat}(h:d≠some i):(a.put d v).tmps.getD i undef=a.tmps.getD i undef:=by
 cases d with
 | none=>rfl
 | some j =>
  have hne:j≠i:=fun e=>h (by rw [e])
  show (a.tmps.setIfInBounds j v).getD i undef=_;simp [kQ1,Array.getElem?_setIfInBounds_ne hne]
theorem aFi(hT:∀ t i,T t=some i→cJ P t=some i)(hE:kY P E){ops:List Oper}:∀ (l:List Oper) (k:Nat) {st st':St} {s s':AS},(∀ j,l[j]? = ops[k+j]?)→aVg P T E ops l st s=some (st',s')→bB s' →
  ∀ (C0:Cx) (M0:Mem) (w0:World) (a:Act) (w:World),Sim P C0 M0 w0 st a w→∀ (ro:Option Nat) (n:Nat) (Q:Exit→Act→World→Prop),(∀ a' w',((∀ i,(∀ o∈l,o.dst≠some i)→a'.tmps.getD i undef=a.tmps.getD i undef)∧a'.defers=a.defers)→Sim P C0 M0 w0 st' a' w'→Q .normal a' w')→wpOpsIn (Fen ro) n P ops.toArray Q ((List.range l.length).map (k + ·)) a w
 | [],k,st,st',s,s',_,h,g,C0,M0,w0,a,w,hs,ro,n,Q,hQ=>by
  obtain ⟨rfl,rfl⟩:=aK h;exact hQ _ _ ⟨fun _ _=>rfl,rfl⟩ hs
 | o::l,k,st,st',s,s',hl,h,g,C0,M0,w0,a,w,hs,ro,n,Q,hQ=>by
  obtain ⟨st1,s1,h1,k1⟩:=aD h;have h0:ops[k]? = some o:=by simpa using (hl 0).symm
  have ih:=fun a1 w1=>aFi hT hE l (k+1) (fun j=>by have:=hl (j+1);simpa [Nat.add_assoc,Nat.add_comm 1 j] using this) k1 g C0 M0 w0 a1 w1
  have hst:=bAs hT hE h1 (rL.good k1 g) C0 M0 w0 a w hs ro n (wpOpsIn (Fen ro) n P ops.toArray Q ((List.range l.length).map (k+1 + ·))) Q (fun a1 w1 hv hs1=>ih a1 w1 hs1 ro n Q fun a' w' hk hs'=>hQ a' w' ⟨fun i hi=>by
   obtain ⟨v,rfl⟩:=hv;rw [hk.1 i fun o' ho'=>hi o' (kQ7 _ ho'),oF (hi o (kV ..))],by
   obtain ⟨v,rfl⟩:=hv;rw [hk.2];cases o.dst <;> rfl⟩ hs')
  rw [tC,List.range_succ_eq_map,iI,qO];have hm:(List.range l.length).map ((k + ·) ∘ Nat.succ)=(List.range l.length).map (k+1 + ·):=by
   apply yN;intro x _;simp only [Function.comp];omega
  rw [hm,Nat.add_zero,wpOpsIn_cons];unfold wpOpIn;simp only [List.getElem?_toArray,h0];exact hst
def wrR(c:Code)(i:Nat):Bool:=match c with
 | .region _ ops _=>ops.toList.any fun o=>match o.dst with
  | some j=>Nat.beq j i
  | none=>false
 | _=>true
def eB(P:Program)(k:Nat)(c:Code)(st:St)(e:Ex)(st':St):Prop:=∀ (C0:Cx) (M0:Mem) (w0:World) (a:Act) (w:World),M0.length≤k→Sim P C0 M0 w0 st a w→∀ (ro:Option Nat) (n:Nat),c.wpIn (Fen ro) n P (fun e' a' w'=>e'=e.toExit∧Sim P C0 M0 w0 st' a' w'∧(∀ i,wrR c i=false→a'.tmps.getD i undef=a.tmps.getD i undef)∧a'.defers=a.defers) a w
noncomputable def bNe(c:Code)(st:St):Ask (Ex × St):=match c with
 | .region _ ops false=>do
  let st' ← aVg Tp tT EO ops.toList ops.toList st
  pure (.normal,st')
 | _=>fail
theorem eB.fin{k:Nat}{c:Code}{st st':St}{e:Ex}{g:Gh}{o:List OI}{l:List Prop}(h:aKl k g (bNe c st (asg o))=some (e,st',l,[]))(gd:bB (out l)):eB Tp k c st e st':=by
 unfold aKl at h
 split at h
 ·rename_i e1 st1 s hr
  split at h
  ·rename_i st2 hg
   simp only [Option.some.injEq,Prod.mk.injEq] at h
   obtain ⟨rfl,rfl,rfl,hs⟩:=h;unfold bNe at hr
   split at hr
   ·rename_i id ops
    obtain ⟨st3,s1,h1,k1⟩:=aD hr;obtain ⟨he,rfl⟩:=aK k1;cases he;intro C0 M0 w0 a w hk hsm ro n;refine wpIn_region ?_;have:=aFi aEo aEn ops.toList 0 (fun j=>by simp) h1 (fun p hp=>gd p hp) C0 M0 w0 a w hsm ro n (fun e' a' w'=>e'=Ex.normal.toExit∧Sim Tp C0 M0 w0 st2 a' w'∧(∀ i,wrR (.region id ops false) i=false→a'.tmps.getD i undef=a.tmps.getD i undef)∧a'.defers=a.defers) (fun a' w' hkp h'=>⟨rfl,eJ hk hg h',fun i hi=>hkp.1 i fun o ho e=>by
     unfold wrR at hi
     have:=List.any_eq_false.1 hi o ho;rw [e] at this
     exact this (Nat.beq_refl i),hkp.2⟩)
    simpa using this
   ·cases hr
  ·cases h
 ·cases h
end KV
end Go.Proofs
end
namespace Go.Proofs
namespace KV
section
variable {dl:Int}{sk dc:Lqq}

noncomputable abbrev wX:Code:=sub (cd Tryz.f122) [1,1,1,1,1,0,1,0,0]
noncomputable abbrev aCe:Code:=sub (cd Tryz.f128) [1,0,0,0]
theorem aQr:((0:Int) != (0:Int))=false:=by first | decide | simp
theorem bTu{bib y0 y1:Int}(h0:cB dl sk dc)(h1:uni 2 (aB sk)∧(aB sk).length≤1000)(h2:(aJ (aB sk) 0).length≤1000)(h3:(0:Int)≤(bE (fun x=>decide (bib=x)) (aJ (aB sk) 0)))(h4:(aB sk)[(bE (fun x=>decide (bib=x)) (aJ (aB sk) 0)).toNat]? = some [y0,y1])(h5:0≤(bE (fun x=>decide (bib=x)) (aJ (aB sk) 0)))(h6:uni 2 (aB sk)){base:Nat}:FV Tp 135 [(.p (.agg (cL dl sk dc))),(pI bib)] base (.tup [(.rp (aH dl (aB sk) (aB dc)) 0),(.p (.agg [(aA y0),(aA y1)])),(pI 0)]) []:=by
 exact FV.fin Tryz.func135 rfl (o:=[.c (.tup [(.rp (aH dl (aB sk) (aB dc)) 0),(pI 0)]) [],bF,.x (.agg (cL dl (aB sk) (aB dc))),.c (.own 2) [(2,(.row 3 ((aJ (aB sk) 0).length) ((aJ (aB sk) 0).map aA)))],.c (pI (bE (fun x=>decide (bib=x)) (aJ (aB sk) 0))) [],bF,.x (.sl ((aB sk).length) ((aB sk).flatten.map aA)),.x (.agg [(aA y0),(aA y1)])]) (l:=[_,_,0≤(bE (fun x=>decide (bib=x)) (aJ (aB sk) 0))∧(bE (fun x=>decide (bib=x)) (aJ (aB sk) 0))<(((aB sk).length:Nat):Int)∧((bE (fun x=>decide (bib=x)) (aJ (aB sk) 0)).toNat*2)<((aB sk).flatten.map aA).length,(aH dl (aB sk) (aB dc))[1]? = some (.sl ((aB sk).length) ((aB sk).flatten.map aA)),_,FC Tp 126 [(.own 2),(pI bib)] [(2,(.row 3 ((aJ (aB sk) 0).length) ((aJ (aB sk) 0).map aA)))] 3 (pI (bE (fun x=>decide (bib=x)) (aJ (aB sk) 0))) [],_,some (.agg (((aH dl (aB sk) (aB dc)).drop 0).take 3):PV)=some (.agg (cL dl (aB sk) (aB dc))),0+3≤(aH dl (aB sk) (aB dc)).length,_,_]) (by kernel_rfl) (gc (aS (i:=(bE (fun x=>decide (bib=x)) (aJ (aB sk) 0)).toNat) h6 h4) (gc (bH (i:=(bE (fun x=>decide (bib=x)) (aJ (aB sk) 0)).toNat) h6 h4) (gc (bR (k:=2) (i:=(bE (fun x=>decide (bib=x)) (aJ (aB sk) 0))) (by decide) h6 h5 h4) (gc rfl (gc (bG h3) (gc (fv (aBn (aJ (aB sk) 0) bib h2)) (gc (fk 2 (nC dl (aB sk) (aB dc) h1) rfl) (gc rfl (gc (by first | decide | simp) (gc aQr (gc (fk 2 (jT dl sk dc h0) rfl) gn)))))))))))
theorem bTv(h0:cB dl sk dc)(h1:cI (aB dc)){base:Nat}:FV Tp 19 [(.p (.agg (cL dl sk dc)))] base (.tup [(.p (aG (aP dl (aB dc)))),(pI 0)]) []:=by
 exact FV.frz (FMM.fin (k:=0) (g:=⟨[],[],[1],[]⟩) rfl Tryz.func19 rfl (o:=[.c (.tup [(.rp (aH dl (aB sk) (aB dc)) 0),(pI 0)]) [],bF,.c (.own 1) [(1,(.row 3 ((aP dl (aB dc)).length) ((aP dl (aB dc)).map aA)))]]) (l:=[_,_,_]) (by kernel_rfl) (gc (fk 1 (qR (dl:=dl) (sk:=(aB sk)) (dc:=(aB dc)) h1) rfl) (gc aQr (gc (fk 1 (jT dl sk dc h0) rfl) gn)))) (by kernel_rfl)
def iV(dl:Int)(sk:Lqq)(dc:Lqq)(on:Nat)(oc:List PV)(i:Nat)(te:List (Value × PV))(tk:Nat):St:=⟨fr 44 [(1,(.fn 123 [] [])),(4,(.p bW)),(5,(pI 0)),(6,(.rp (aH dl (aB sk) (aB dc)) 0)),(8,(.ptr 7 0)),(9,(.own 8)),(26,(.p (.sl ((aB dc).length) ((aB dc).flatten.map aA)))),(27,(pI (((aB dc).length:Nat):Int))),(28,(pI (i:Int)))],[some (vB0 dl (aB sk) (aB dc)),some (.box 33 [(.p bW)]),some vB2,some (.mp te tk),some (.box 207 [(.mp 3)]),some (vB5 dl (aB sk) (aB dc)),some vB6,some vB2,some (.row 3 on oc)]⟩
theorem bTw{o'0:List Int}{i'1:Nat}{t'2:Lqb}(h0:cB dl sk dc)(hl1:aI Tp 0 wX (iV dl sk dc 0 [] 0 (aE ([]:Lqb)) 0) (.exit 0) (iV dl sk dc o'0.length (o'0.map aA) i'1 (aE t'2) t'2.length)){base:Nat}:FV Tp 122 [(.p (.agg (cL dl sk dc))),(.fn 123 [] [])] base (.tup [(.p (aG o'0)),(pI 0)]) []:=by
 exact FV.frz (FMM.fin (k:=0) (g:=⟨[],[],[8],[]⟩) rfl Tryz.func122 rfl (o:=[.c (.tup [(.rp (aH dl (aB sk) (aB dc)) 0),(pI 0)]) [],bF,.c (.agg (kVL 5 6 1 3 7 2)) [(1,(vB0 dl (aB sk) (aB dc))),(2,(.box 33 [(.p bW)])),(3,(.box 139 (kVL 5 6 1 3 7 2))),(4,(.mp (aE ([]:Lqb)) 0)),(5,(.box 207 [(.mp 4)])),(6,(vB5 dl (aB sk) (aB dc))),(7,(.box 209 [(.fn 153 [] [(.ptr 1 0),(.ptr 3 0)])]))],.x (.sl ((aB dc).length) ((aB dc).flatten.map aA)),.k 1 ⟨(rng [(0,1),(2,2),(7,1),(10,16),(29,14)]),[1,2,3,4,5,6,7,8,9],[],[(9,3)]⟩ (.exit 0) (iV dl sk dc o'0.length (o'0.map aA) i'1 (aE t'2) t'2.length)]) (l:=[_,(aH dl (aB sk) (aB dc))[2]? = some (.sl ((aB dc).length) ((aB dc).flatten.map aA)),FC Tp 87 [(.rp (aH dl (aB sk) (aB dc)) 0),(.p bW)] [] 1 (.agg (kVL 5 6 1 3 7 2)) [(1,(vB0 dl (aB sk) (aB dc))),(2,(.box 33 [(.p bW)])),(3,(.box 139 (kVL 5 6 1 3 7 2))),(4,(.mp (aE ([]:Lqb)) 0)),(5,(.box 207 [(.mp 4)])),(6,(vB5 dl (aB sk) (aB dc))),(7,(.box 209 [(.fn 153 [] [(.ptr 1 0),(.ptr 3 0)])]))],_,_]) (by kernel_rfl) (gc hl1.code (gc rfl (gc (FMM.fcN (k:=7) rfl (ids:=[]) (zA (dl:=dl) (sk:=(aB sk)) (dc:=(aB dc))) (by kernel_rfl)) (gc aQr (gc (fk 1 (jT dl sk dc h0) rfl) gn)))))) (by kernel_rfl)
theorem bBd{o:List Int}{i:Nat}{t:Lqb}{y100 y101 y102 y103 y104 y105:Int}{b106:Bool}{T107:Lqb}{o':List Int}{i':Nat}{t':Lqb}(h0:(i:Int)<(((aB dc).length:Nat):Int))(h1:(aB dc)[i]? = some [y100,y101,y102,y103,y104,y105])(h2:uni 6 (aB dc))(h3:bJs 123 dl (aB sk) (aB dc) bW [y100,y101,y102,y103,y104,y105] b106 t T107)(h4:b106=true)(h5:[(aA y100)].length=1*1∧o.length+1≤1000000)(h6:inR (((i+1):Nat):Int))(eo'n:o'.length=(o.length+1))(eo'c:o'.map aA=((o.map aA)++[(aA y100)]))(ei':i'=(i+1))(et'e:aE t'=(aE T107))(et'k:t'.length=T107.length):aC Tp 0 wX (iV dl sk dc o.length (o.map aA) i (aE t) t.length) .normal (iV dl sk dc o'.length (o'.map aA) i' (aE t') t'.length):=by
 subst ei';have raw:aC Tp 0 wX (iV dl sk dc o.length (o.map aA) i (aE t) t.length) .normal (iV dl sk dc (o.length+1) ((o.map aA)++[(aA y100)]) (i+1) (aE T107) T107.length):=aC.fin (g:=⟨(rng [(0,1),(2,2),(7,1),(10,16),(29,14)]),[0,1,2,3,4,5,6,7,11],[],[]⟩) (o:=[bT,.x (dcE y100 y101 y102 y103 y104 y105),.c (pB b106) (vU dl (aB sk) (aB dc) bW T107),bT]) (l:=[_,_,_,FC Tp 123 [(.rp (aH dl (aB sk) (aB dc)) 0),fU,(.p (dcE y100 y101 y102 y103 y104 y105))] [(4,(.box 207 [(.mp 3)])),(5,(vB5 dl (aB sk) (aB dc))),(0,(vB0 dl (aB sk) (aB dc))),(2,vB2),(6,vB6),(1,(.box 33 [(.p bW)])),(3,(.mp (aE t) t.length))] 10 (pB b106) (vU dl (aB sk) (aB dc) bW T107),_,_,0≤(i:Int)∧(i:Int)<(((aB dc).length:Nat):Int)∧(i*6)<((aB dc).flatten.map aA).length,_]) (by kernel_rfl) (gc h6 (gc h5 (gc h4 (gc (FMM.fc (ids:=[0,1,2,3,4,5,6]) h3 (by kernel_rfl)) (gc (aS (i:=i) h2 h1) (gc (bH (i:=i) h2 h1) (gc (bR (k:=6) (i:=(i:Int)) (by decide) h2 (kQ2 _) h1) (gc (aY h0) gn))))))))
 exact raw.cast (by rw [eo'n,eo'c,et'e,et'k])
theorem bBe{o:List Int}{i:Nat}{t:Lqb}{y100 y101 y102 y103 y104 y105:Int}{b106:Bool}{T107:Lqb}{i':Nat}{t':Lqb}(h0:(i:Int)<(((aB dc).length:Nat):Int))(h1:(aB dc)[i]? = some [y100,y101,y102,y103,y104,y105])(h2:uni 6 (aB dc))(h3:bJs 123 dl (aB sk) (aB dc) bW [y100,y101,y102,y103,y104,y105] b106 t T107)(h4:b106=false)(h5:inR (((i+1):Nat):Int))(ei':i'=(i+1))(et'e:aE t'=(aE T107))(et'k:t'.length=T107.length):aC Tp 0 wX (iV dl sk dc o.length (o.map aA) i (aE t) t.length) .normal (iV dl sk dc o.length (o.map aA) i' (aE t') t'.length):=by
 subst ei';have raw:aC Tp 0 wX (iV dl sk dc o.length (o.map aA) i (aE t) t.length) .normal (iV dl sk dc o.length (o.map aA) (i+1) (aE T107) T107.length):=aC.fin (g:=⟨(rng [(0,1),(2,2),(7,1),(10,16),(29,14)]),[0,1,2,3,4,5,6,7,8],[],[]⟩) (o:=[bT,.x (dcE y100 y101 y102 y103 y104 y105),.c (pB b106) (vU dl (aB sk) (aB dc) bW T107),bF]) (l:=[_,_,FC Tp 123 [(.rp (aH dl (aB sk) (aB dc)) 0),fU,(.p (dcE y100 y101 y102 y103 y104 y105))] [(4,(.box 207 [(.mp 3)])),(5,(vB5 dl (aB sk) (aB dc))),(0,(vB0 dl (aB sk) (aB dc))),(2,vB2),(6,vB6),(1,(.box 33 [(.p bW)])),(3,(.mp (aE t) t.length))] 10 (pB b106) (vU dl (aB sk) (aB dc) bW T107),_,_,0≤(i:Int)∧(i:Int)<(((aB dc).length:Nat):Int)∧(i*6)<((aB dc).flatten.map aA).length,_]) (by kernel_rfl) (gc h5 (gc h4 (gc (FMM.fc (ids:=[0,1,2,3,4,5,6]) h3 (by kernel_rfl)) (gc (aS (i:=i) h2 h1) (gc (bH (i:=i) h2 h1) (gc (bR (k:=6) (i:=(i:Int)) (by decide) h2 (kQ2 _) h1) (gc (aY h0) gn)))))))
 exact raw.cast (by rw [et'e,et'k])
theorem bBf{o:List Int}{i:Nat}{t:Lqb}(h0:(((aB dc).length:Nat):Int)≤(i:Int)):aC Tp 0 wX (iV dl sk dc o.length (o.map aA) i (aE t) t.length) (.exit 0) (iV dl sk dc o.length (o.map aA) i (aE t) t.length):=by
 exact aC.fin (g:=⟨(rng [(0,1),(2,2),(7,1),(10,16),(29,14)]),[0,1,2,3,4,5,6,7,8],[],[]⟩) (o:=[bF]) (l:=[_]) (by kernel_rfl) (gc (bG h0) gn)
theorem bVo{ov:PV}{T:Lqb}{x0 x1 x2 x3 x4 x5:Int}{b0:Bool}{T1:Lqb}(h0:pT dl sk dc ov [x0,x1,x2,x3,x4,x5] b0 T T1):FMM Tp 123 [(.rp (aH dl sk dc) 0),fU,(.p (dcE x0 x1 x2 x3 x4 x5))] (cW dl sk dc ov T) (pB b0) (cW dl sk dc ov T1):=by
 exact FMM.fin (k:=7) (g:=⟨[],[],[],[]⟩) rfl Tryz.func123 rfl (o:=[.c (pB b0) (vU dl sk dc ov T1)]) (l:=[FC Tp 154 [(.p (dcE x0 x1 x2 x3 x4 x5)),(.ptr 4 0),(.ptr 5 0),(.ptr 0 0),(.ptr 2 0)] [(4,(.box 207 [(.mp 3)])),(5,(vB5 dl sk dc)),(0,(vB0 dl sk dc)),(2,vB2),(3,(.mp (aE T) T.length)),(6,vB6),(1,(.box 33 [(.p ov)]))] 9 (pB b0) (vU dl sk dc ov T1)]) (by kernel_rfl) (gc (FMM.fc (ids:=[0,1,2,3,4,5,6]) h0 (by kernel_rfl)) gn)
def iC(dl:Int)(sk:Lqq)(dc:Lqq)(u0:Int)(u1:Int)(u2:Int)(u3:Int)(u4:Int)(u5:Int):St:=⟨fr 26 [(0,(.rp (aH dl sk dc) 0)),(3,(.ptr 0 0))],[some (.box 44 [(pI u0),(pI u1),(pI u2),(pI u3),(pI u4),(pI u5)])]⟩
theorem bTx{x0 x1 x2 x3 x4 x5 u0'0 u1'1 u2'2 u3'3 u4'4 u5'5:Int}(hl0:aI Tp 0 aCe (iC dl sk dc x0 x1 x2 x3 x4 x5) (.exit 0) (iC dl sk dc u0'0 u1'1 u2'2 u3'3 u4'4 u5'5)){base:Nat}:FV Tp 128 [(.rp (aH dl sk dc) 0),(.p (dcE x0 x1 x2 x3 x4 x5))] base (pI u3'3) []:=by
 exact FV.fin Tryz.func128 rfl (o:=[.k 4 ⟨(rng [(1,2),(4,20)]),[0],[],[]⟩ (.exit 0) (iC dl sk dc u0'0 u1'1 u2'2 u3'3 u4'4 u5'5)]) (l:=[_]) (by kernel_rfl) (gc hl0.code gn)
theorem bTy{x0 x1 x2 x3 x4 x5 u0'0 u1'1 u2'2 u3'3 u4'4 u5'5:Int}(hl0:aI Tp 0 aCe (iC dl sk dc x0 x1 x2 x3 x4 x5) .ret (cF (iC dl sk dc u0'0 u1'1 u2'2 u3'3 u4'4 u5'5) [(4,(pI 0))])){base:Nat}:FV Tp 128 [(.rp (aH dl sk dc) 0),(.p (dcE x0 x1 x2 x3 x4 x5))] base (pI 0) []:=by
 exact FV.fin Tryz.func128 rfl (o:=[.k 4 ⟨(rng [(1,2),(4,20)]),[0],[],[]⟩ .ret (cF (iC dl sk dc u0'0 u1'1 u2'2 u3'3 u4'4 u5'5) [(4,(pI 0))])]) (l:=[_]) (by kernel_rfl) (gc hl0.code gn)
theorem bBg{u0 u1 u2 u3 u4 u5 y100 y101 y102 y103 y104 y105:Int}(h0:(decide (u1≤4))=false)(h1:cK .i64 (atF dc.reverse) (.int .i64 u5))(h2:(dO (atF dc.reverse) (.int .i64 u5))=true)(h3:fF (atF dc.reverse) (.int .i64 u5)=some (dcE y100 y101 y102 y103 y104 y105)):aC Tp 0 aCe (iC dl sk dc u0 u1 u2 u3 u4 u5) .normal (iC dl sk dc y100 y101 y102 y103 y104 y105):=by
 exact aC.fin (g:=⟨(rng [(1,2),(4,20)]),[0],[],[]⟩) (o:=[.c (pB (decide (u1≤4))) [],bT,.x (.mp (atF dc.reverse)),bT,.x (dcE y100 y101 y102 y103 y104 y105)]) (l:=[_,_,_,(aH dl sk dc)[3]? = some (.mp (atF dc.reverse)),_,_]) (by kernel_rfl) (gc h3 (gc h2 (gc h1 (gc rfl (gc (bU h0) (gc (fk 1 (eG u1) rfl) gn))))))
theorem aFm{u0 u1 u2 u3 u4 u5:Int}(h0:(decide (u1≤4))=false)(h1:cK .i64 (atF dc.reverse) (.int .i64 u5))(h2:(dO (atF dc.reverse) (.int .i64 u5))=false):aC Tp 0 aCe (iC dl sk dc u0 u1 u2 u3 u4 u5) .ret (cF (iC dl sk dc u0 u1 u2 u3 u4 u5) [(4,(pI 0))]):=by
 exact aC.fin (g:=⟨(rng [(1,2),(5,19)]),[0],[],[]⟩) (o:=[.c (pB (decide (u1≤4))) [],bT,.x (.mp (atF dc.reverse)),bF]) (l:=[_,_,(aH dl sk dc)[3]? = some (.mp (atF dc.reverse)),_,_]) (by kernel_rfl) (gc h2 (gc h1 (gc rfl (gc (bU h0) (gc (fk 1 (eG u1) rfl) gn)))))
theorem aFn{u0 u1 u2 u3 u4 u5:Int}(h0:(decide (u1≤4))=true):aC Tp 0 aCe (iC dl sk dc u0 u1 u2 u3 u4 u5) (.exit 0) (iC dl sk dc u0 u1 u2 u3 u4 u5):=by
 exact aC.fin (g:=⟨(rng [(1,2),(4,20)]),[0],[],[]⟩) (o:=[.c (pB (decide (u1≤4))) [],bF]) (l:=[_,_]) (by kernel_rfl) (gc (aV h0) (gc (fk 1 (eG u1) rfl) gn))
end
section
def rB(sk:Lqq)(bib:Int):Int:=bE (fun x=>decide (bib=x)) (aJ sk 0)
theorem bTq{f:Lqq}{i:Nat}{c:Int}(h:(aJ f 0)[i]? = some c):∃ x,f[i]? = some x∧x.getD 0 0=c:=by
 unfold aJ at h
 rw [iG,kC] at h
 exact h
theorem bBc(sk:Lqq)(bib:Int):(∃ (i:Nat) (x:List Int),rB sk bib=(i:Int)∧sk[i]? = some x∧x.getD 0 0=bib)∨(rB sk bib = -1∧bib∉aJ sk 0):=by
 unfold rB;cases h:(aJ sk 0).findIdx? (fun x=>decide (bib=x)) with
 | none =>
  refine .inr ⟨jC h,fun hm => ?_⟩
  have:=List.findIdx?_eq_none_iff.1 h bib hm;simp at this
 | some i =>
  rw [jB h];obtain ⟨h1,h2,_⟩:=List.findIdx?_eq_some_iff_getElem.1 h;have h3:(aJ sk 0)[i]? = some (aJ sk 0)[i]:=kQ0 h1;obtain ⟨x,q1,q2⟩:=bTq h3;exact .inl ⟨i,x,rfl,q1,by rw [q2];exact (of_decide_eq_true h2).symm⟩
theorem bTr{dl:Int}{sk dc:Lqq}(h:cB dl sk dc):uni 2 (aB sk)∧(aB sk).length≤1000∧(aJ (aB sk) 0).length≤1000:=by
 have:=h.len;refine ⟨fA h.us,by rw [eO];omega,by rw [uV,eO];omega⟩
theorem bGd{dl:Int}{sk dc:Lqq}(h:cB dl sk dc){bib:Int}{i:Nat}{s0 s1:Int}(hp:rB (aB sk) bib=(i:Int))(hs:(aB sk)[i]? = some [s0,s1]){base:Nat}:FV Tp 135 [.p (.agg (cL dl sk dc)),.p (aA bib)] base (.tup [pQ dl (aB sk) (aB dc),.p (.agg [aA s0,aA s1]),.p (aA 0)]) []:=by
 obtain ⟨h1,h2,h3⟩:=bTr h;have hp':bE (fun x=>decide (bib=x)) (aJ (aB sk) 0)=(i:Int):=hp
 exact bTu h ⟨h1,h2⟩ h3 (by rw [hp'];omega) (by rw [hp'];simpa using hs) (by rw [hp'];omega) h1
theorem aIf{dl:Int}{sk dc:Lqq}(h:cB dl sk dc){base:Nat}:FV Tp 19 [.p (.agg (cL dl sk dc))] base (.tup [.p (aG (aP dl (aB dc))),.p (aA 0)]) []:=bTv h (gM h)
def gB(q:List Int→Bool)(dc:Lqq):List Int:=(dc.filter q).map dN
theorem bTs{dl:Int}{sk dc:Lqq}(h:cB dl sk dc)(q:List Int→Bool)
  (hq:∀ x∈aB dc,∀ T,cD dl [] (aB dc) T→∃ T',cD dl [] (aB dc) T'∧bJs 123 dl (aB sk) (aB dc) bW x (q x) T T') {base:Nat}:FV Tp 122 [.p (.agg (cL dl sk dc)),.fn 123 [] []] base (.tup [.p (aG (gB q (aB dc))),.p (aA 0)]) []:=by
 have hd:=gM h;have hlen:=hd.len;obtain ⟨acc,⟨h1,h2⟩,h3⟩:=aI.ex (P:=Tp) (k:=0) (b:=sub (cd Tryz.f122) [1,1,1,1,1,0,1,0,0]) (e := .exit 0) (fun i (a:List Int × Lqb)=>iV dl sk dc a.1.length (a.1.map aA) i (aE a.2) a.2.length)
  (fun a=>iV dl sk dc a.1.length (a.1.map aA) (aB dc).length (aE a.2) a.2.length)
  (fun i a=>cD dl [] (aB dc) a.2∧a.1=(((aB dc).take i).filter q).map dN) (by simp) (aB dc).length
  (fun i acc hi hI=>by
   obtain ⟨o,T1⟩:=acc;obtain ⟨h1,h2⟩:=hI;dsimp only at h1 h2
   have hm:=eY hi;obtain ⟨a,k,c,d,e,f,hy⟩:=len6 (hd.ud _ hm);have hx:(aB dc)[i]? = some [a,k,c,d,e,f]:=by rw [kQ0 hi,hy]
   rw [hy] at hm
   have ho:o.length≤1000:=by
    rw [h2,kQ9];have:=wD q ((aB dc).take i);rw [mX] at this;omega
   have et:(((aB dc).take (i+1)).filter q).map dN=o++if q [a,k,c,d,e,f] then [a] else []:=by
    rw [List.take_add_one,hx,rU,gI,← h2]
    congr 1
    show (List.filter q [[a,k,c,d,e,f]]).map dN=_;cases hq:q [a,k,c,d,e,f] <;> simp [hq]
   rw [et];obtain ⟨T2,q1,q2⟩:=hq _ hm T1 h1;cases hc:q [a,k,c,d,e,f] with
   | true =>
    rw [hc] at q2
    exact ⟨(o++[a],T2),⟨q1,by simp⟩,bBd (o:=o) (o':=o++[a]) (by omega) hx hd.ud q2 rfl ⟨rfl,by omega⟩ (aO (by omega)) (by simp) (by simp) rfl rfl rfl⟩
   | false =>
    rw [hc] at q2
    exact ⟨(o,T2),⟨q1,by simp⟩,bBe (by omega) hx hd.ud q2 rfl (aO (by omega)) rfl rfl rfl⟩)
  (fun acc hI=>bBf (by omega)) (acc:=([],[])) ⟨cD.nil,by simp⟩
 obtain ⟨o,T1⟩:=acc;dsimp only at h1 h2 h3
 rw [List.take_length] at h2
 rw [show gB q (aB dc)=o from h2.symm]
 exact bTw h h3
theorem bWa{dl:Int}{sk dc:Lqq}{oc:List Int}{ov:PV}(hd:cI dc)(hov:∀ n,qT ov n (oc.contains n)){x:List Int}(hx:x∈dc){T:Lqb}(hT:cD dl oc dc T):∃ T',cD dl oc dc T'∧bJs 123 dl sk dc ov x (cU dl oc dc x) T T':=by
 obtain ⟨T',h1,h2⟩:=aYb (sk:=sk) hd hov hx T hT;obtain ⟨a,b,c,d,e,f,rfl⟩:=len6 (hd.ud x hx);exact ⟨T',h1,bVo h2⟩
theorem aTi{q:Lqq}(hq:(q.map dN).Nodup):atF q=q.map fun x=>(.int .i64 (dN x),rX x):=by
 have key:∀ (q p:Lqq),((p++q).map dN).Nodup→q.foldl kE (p.map fun x=>(.int .i64 (dN x),rX x))=(p++q).map fun x=>(.int .i64 (dN x),rX x):=by
  intro q
  induction q with
  | nil=>intro p _;simp
  | cons x q ih =>
   intro p h;rw [wF];have hn:dO (p.map fun x=>((.int .i64 (dN x),rX x):Value × PV)) (.int .i64 (dN x))=false:=by
    unfold dO;rw [List.any_eq_false];intro e he;obtain ⟨y,hy,rfl⟩:=eK.1 he;rw [gI,List.nodup_append] at h
    have:=h.2.2 (dN y) (eK.2 ⟨y,hy,rfl⟩) (dN x) (by simp)
    simpa [iF] using this
   have hst:kE (p.map fun x=>((.int .i64 (dN x),rX x):Value × PV)) x=(p.map fun x=>((.int .i64 (dN x),rX x):Value × PV))++[(.int .i64 (dN x),rX x)]:=by
    unfold kE;rw [hn,if_neg (by simp)]
   rw [hst];have e:(p.map fun x=>((.int .i64 (dN x),rX x):Value × PV))++[(.int .i64 (dN x),rX x)]=(p++[x]).map fun x=>((.int .i64 (dN x),rX x):Value × PV):=by simp
   have e2:p++x::q=(p++[x])++q:=by simp
   rw [e,ih (p++[x]) (by rw [← e2];exact h),e2]
 exact key q [] (by simpa using hq)
theorem aLv{dc:Lqq}(h:cI dc):(dc.reverse.map dN).Nodup:=by
 rw [List.map_reverse,List.Nodup,List.pairwise_reverse,List.pairwise_map];exact h.up.imp fun h=>by omega
theorem vH{dc:Lqq}(h:cI dc){n:Int}(hn:inR n):cK .i64 (atF dc.reverse) (.int .i64 n):=by
 have ha:wN (atF dc.reverse):=bEx fun x hx=>by have:=fP h (aAz.1 hx);omega
 refine ⟨ha.ky,?_,ha.nd⟩;show (decide (IntKind.i64=IntKind.i64) && (Lit.int .i64 n).wf)=true;have:(Lit.int .i64 n).wf=true:=by
  have e1:IntKind.i64.min = -9223372036854775808:=rfl;have e2:IntKind.i64.max=9223372036854775807:=rfl;unfold inR at hn
  show (decide _ && decide _)=true;rw [kQ6,decide_eq_true_eq,decide_eq_true_eq,e1,e2];omega
 rw [this];rfl
theorem aQq{dc:Lqq}(h:cI dc){x:List Int}(hx:x∈dc):dO (atF dc.reverse) (.int .i64 (dN x))=true∧fF (atF dc.reverse) (.int .i64 (dN x))=some (rX x):=by
 rw [aTi (aLv h)];have hf:dc.reverse.find? (fun y=>decide (dN y=dN x))=some x:=by
  cases hf:dc.reverse.find? (fun y=>decide (dN y=dN x)) with
  | none =>
   have:=aGv.1 hf x (aAz.2 hx);simp at this
  | some y =>
   have h1:=wC hf;have h2:dN y=dN x:=by simpa using aVo hf
   rw [zB h (aAz.1 h1) hx h2]
 constructor
 ·unfold dO
  rw [List.any_map];exact List.any_eq_true.2 ⟨x,aAz.2 hx,by simp [iF]⟩
 ·unfold fF
  rw [List.find?_map];have e:(fun e:Value × PV=>decide (iF e.1=iF (Value.int IntKind.i64 (dN x)))) ∘ (fun x:List Int=>((Value.int .i64 (dN x),rX x):Value × PV))=fun y=>decide (dN y=dN x):=rfl
  rw [e,hf];rfl
theorem aTj{dc:Lqq}(h:cI dc){n:Int}(hn:∀ x∈dc,dN x≠n):dO (atF dc.reverse) (.int .i64 n)=false:=by
 rw [aTi (aLv h)];unfold dO;rw [List.any_map,List.any_eq_false];intro x hx;have:=hn x (aAz.1 hx);show ¬ (decide (dN x=n))=true;simpa using this
def ofN(dc:Lqq)(n:Int):Option (List Int):=dc.find? fun x=>dN x == n
theorem vI{dc:Lqq}{n:Int}{x:List Int}(h:ofN dc n=some x):x∈dc∧dN x=n:=⟨wC h,by simpa using aVo h⟩
theorem aLw{dc:Lqq}{n:Int}(h:ofN dc n=none):∀ x∈dc,dN x≠n:=fun x hx=>by simpa using aGv.1 h x hx
theorem aTk{dc:Lqq}(hd:cI dc){x:List Int}(hx:x∈dc):ofN dc (dN x)=some x:=by
 cases h:ofN dc (dN x) with
 | none=>exact absurd rfl (aLw h x hx)
 | some y=>obtain ⟨h1,h2⟩:=vI h;rw [zB hd h1 hx h2]
def sI(dc:Lqq):Nat→List Int→Int
 | 0,_=>0
 | k+1,x=>if dK x≤4 then dB x else match ofN dc (dAb x) with
  | some y=>sI dc k y
  | none=>0
def vJ(dc:Lqq)(x:List Int):Int:=sI dc (10000+1) x
theorem bTt{dl:Int}{sk dc:Lqq}(hd:cI dc):∀ (k:Nat) (a b c d e f:Int),inR f→([a,b,c,d,e,f]∈dc∨b≤4∨∀ y∈dc,dN y≠f)→a<(k:Int) →
  (∃ a' b' c' d' e' f',sI dc (k+1) [a,b,c,d,e,f]=d'∧aI Tp 0 (sub (cd Tryz.f128) [1,0,0,0]) (iC dl sk dc a b c d e f) (.exit 0) (iC dl sk dc a' b' c' d' e' f')) ∨
  (sI dc (k+1) [a,b,c,d,e,f]=0∧∃ a' b' c' d' e' f',aI Tp 0 (sub (cd Tryz.f128) [1,0,0,0]) (iC dl sk dc a b c d e f) .ret (cF (iC dl sk dc a' b' c' d' e' f') [(4,.p (aA 0))])):=by
 intro k
 induction k with
 | zero =>
  intro a b c d e f hf hm hk
  by_cases h4:b≤4
  ·refine .inl ⟨a,b,c,d,e,f,?_,.exit (aFn (decide_eq_true h4)) (by simp)⟩
   unfold sI;rw [if_pos (show dK [a,b,c,d,e,f]≤4 from h4)];rfl
  ·rcases hm with hm | hm | hm
   ·have:1≤a:=(fP hd hm).1
    omega
   ·exact absurd hm h4
   ·refine .inr ⟨?_,a,b,c,d,e,f,.exit (aFm (decide_eq_false h4) (vH hd hf) (aTj hd hm)) (by simp)⟩
    unfold sI;rw [if_neg (show ¬ dK [a,b,c,d,e,f]≤4 from h4)]
    have:ofN dc (dAb [a,b,c,d,e,f])=none:=by
     cases h:ofN dc (dAb [a,b,c,d,e,f]) with
     | none=>rfl
     | some y=>exact absurd (vI h).2 (hm y (vI h).1)
    rw [this]
 | succ k ih =>
  intro a b c d e f hf hm hk
  by_cases h4:b≤4
  ·refine .inl ⟨a,b,c,d,e,f,?_,.exit (aFn (decide_eq_true h4)) (by simp)⟩
   unfold sI;rw [if_pos (show dK [a,b,c,d,e,f]≤4 from h4)];rfl
  ·have hu:sI dc (k+1+1) [a,b,c,d,e,f]=match ofN dc (dAb [a,b,c,d,e,f]) with | some y=>sI dc (k+1) y | none=>0:=by
    conv=>lhs;unfold sI
    rw [if_neg (show ¬ dK [a,b,c,d,e,f]≤4 from h4)]
   rw [hu];cases h:ofN dc (dAb [a,b,c,d,e,f]) with
   | none=>exact .inr ⟨rfl,a,b,c,d,e,f,.exit (aFm (decide_eq_false h4) (vH hd hf) (aTj hd (aLw h))) (by simp)⟩
   | some y =>
    obtain ⟨h1,h2⟩:=vI h
    rcases hm with hm | hm | hm
    ·obtain ⟨h3,h5⟩:=aQq hd h1
     rw [h2] at h3 h5
     have ho:=hd.ord _ hm;unfold orB at ho
     rw [if_neg (show ¬ [a,b,c,d,e,f].getD 1 0≤4 from h4)] at ho
     have ho2:=cS.1 ho;have ho3:f≤a-1:=ho2.2;obtain ⟨y0,y1,y2,y3,y4,y5,rfl⟩:=len6 (hd.ud y h1);have h2':y0=f:=h2;have hy5:=lN hd _ h1;have hst:=bBg (dl:=dl) (sk:=sk) (dc:=dc) (u0:=a) (u1:=b) (u2:=c) (u3:=d) (u4:=e) (u5:=f) (decide_eq_false h4) (vH hd hf) h3 h5
     rcases ih y0 y1 y2 y3 y4 y5 (by have q1:0≤y5:=hy5.1;have q2:y5≤9998:=hy5.2;unfold inR;omega) (.inl h1) (by omega) with ⟨a',b',c',d',e',f',q1,q2⟩ | ⟨q1,a',b',c',d',e',f',q2⟩
     ·exact .inl ⟨a',b',c',d',e',f',q1,.step hst q2⟩
     ·exact .inr ⟨q1,a',b',c',d',e',f',.step hst q2⟩
    ·exact absurd hm h4
    ·exact absurd h2 (hm y h1)
theorem bGe{dl:Int}{sk dc:Lqq}(hd:cI dc){a b c d e f:Int}(hf:inR f)(hm:[a,b,c,d,e,f]∈dc∨b≤4∨∀ y∈dc,dN y≠f)(ha:a≤9999){base:Nat}:FV Tp 128 [pQ dl sk dc,.p (.agg [aA a,aA b,aA c,aA d,aA e,aA f])] base (.p (aA (vJ dc [a,b,c,d,e,f]))) []:=by
 unfold vJ
 rcases bTt (dl:=dl) (sk:=sk) hd 10000 a b c d e f hf hm (by omega) with ⟨a',b',c',d',e',f',q1,q2⟩ | ⟨q1,a',b',c',d',e',f',q2⟩
 ·rw [q1];exact bTx q2
 ·rw [q1];exact bTy q2
end
section
section
variable {α:Type}

def mv(A:List α)(x:α)(j:Nat)(R:List α):List α:=A.take j++x::(A.drop j++R)

theorem xA(A:List α)(x:α)(j:Nat)(R:List α)(hj:j≤A.length):(mv A x j R).length=A.length+1+R.length:=by
 unfold mv;simp;omega

theorem aIg(A:List α)(x:α)(j:Nat)(R:List α)(hj:j≤A.length)(t:Nat) :
  (mv A x j R)[t]? = if t<j then A[t]? else if t=j then some x else if t≤A.length then A[t-1]? else R[t-A.length-1]? := by
 unfold mv
 by_cases h1:t<j
 ·rw [if_pos h1,aAy (by simp;omega),List.getElem?_take_of_lt h1]
 ·rw [if_neg h1,aAx (by simp;omega)]
  have hl:(A.take j).length=j:=by simp;omega
  rw [hl]
  by_cases h2:t=j
  ·rw [if_pos h2,show t-j=0 by omega];rfl
  ·rw [if_neg h2,show t-j=(t-j-1)+1 by omega,List.getElem?_cons_succ]
   by_cases h3:t≤A.length
   ·rw [if_pos h3,aAy (by simp;omega),List.getElem?_drop]
    congr 1;omega
   ·rw [if_neg h3,aAx (by simp;omega)]
    congr 1
    simp;omega

theorem bMh(A:List α)(x:α)(j:Nat)(R:List α)(hj:j≤A.length)(h0:0<j)(y:α)(hy:A[j-1]? = some y) :
  ((mv A x j R).set j y).set (j-1) x=mv A x (j-1) R:=by
 have hl:=xA A x j R hj;apply List.ext_getElem?;intro t;rw [List.getElem?_set,List.getElem?_set,aIg A x (j-1) R (by omega),aIg A x j R hj]
 simp only [tD,hl]
 by_cases h1:j-1=t
 ·subst h1
  rw [if_pos rfl,if_pos (by omega),if_neg (by omega),if_pos rfl]
 ·rw [if_neg h1]
  by_cases h2:j=t
  ·subst h2
   rw [if_pos rfl,if_pos (by omega),if_neg (by omega),if_neg (by omega),if_pos (by omega),hy]
  ·rw [if_neg h2]
   by_cases h3:t<j
   ·rw [if_pos h3,if_pos (by omega)]
   ·rw [if_neg h3,if_neg (by omega:¬ t=j),if_neg (by omega:¬ t<j-1),if_neg (by omega:¬ t=j-1)]

def kX(lt:α→α→Bool)(x:α)(A:List α):Nat:=(A.reverse.dropWhile (lt x)).length
def ins(lt:α→α→Bool)(A:List α)(x:α):List α:=A.take (kX lt x A)++x::A.drop (kX lt x A)
def isort(lt:α→α→Bool)(l:List α):List α:=l.foldl (ins lt) []

theorem kR{p:α→Bool}:∀ (l r:List α),(∀ x∈l,p x=true)→(l++r).dropWhile p=r.dropWhile p
 | [],_,_=>rfl
 | x::l,r,h=>by
  rw [List.cons_append,List.dropWhile_cons,if_pos (h x (by simp))]
  exact kR l r (fun y hy=>h y (by simp [hy]))

theorem aFp(lt:α→α→Bool)(x:α)(A:List α)(j:Nat)(hj:j≤A.length)(h:∀ t (_:t<A.length),j≤t→lt x A[t]=true)
  (h2:j=0∨∃ y,A[j-1]? = some y∧lt x y=false):kX lt x A=j:=by
 unfold kX;have e:A.reverse=(A.drop j).reverse++(A.take j).reverse:=by rw [← List.reverse_append,aNx]
 rw [e,kR]
 ·rcases h2 with h0 | ⟨y,hy,hlt⟩
  ·subst h0;simp
  ·by_cases h0:j=0
   ·subst h0;simp
   ·have e2:A.take j=A.take (j-1)++[y]:=by
     rw [show j=(j-1)+1 by omega,List.take_add_one,Nat.add_sub_cancel,hy];rfl
    have hl:(A.take (j-1)).length=j-1:=by simp;omega
    rw [e2,List.reverse_append];show ((y::(A.take (j-1)).reverse).dropWhile (lt x)).length=j;rw [List.dropWhile_cons,hlt];simp;omega
 ·intro z hz
  rw [aAz] at hz
  obtain ⟨t,ht,rfl⟩:=List.getElem_of_mem hz;rw [List.getElem_drop];exact h (j+t) (by simp at ht;omega) (by omega)

theorem aQy(lt:α→α→Bool)(A:List α)(x:α):(ins lt A x).length=A.length+1:=by
 unfold ins;simp;have:kX lt x A≤A.length:=by
  unfold kX;have h2:((A.reverse).dropWhile (lt x)).length≤A.reverse.length:=(List.dropWhile_sublist _).length_le;simpa using h2
 omega

theorem bUg(A:List α)(x:α)(R:List α):mv A x A.length R=A++x::R:=by unfold mv;simp
theorem bGg(lt:α→α→Bool)(A:List α)(x:α)(R:List α):mv A x (kX lt x A) R=ins lt A x++R:=by unfold mv ins;simp

theorem vM(lt:α→α→Bool)(l:List α):(isort lt l).length=l.length:=by
 unfold isort;have:∀ (l A:List α),(l.foldl (ins lt) A).length=A.length+l.length:=by
  intro l
  induction l with
  | nil=>intro A;simp
  | cons x r ih=>intro A;rw [wF,ih,aQy];simp;omega
 rw [this];simp

theorem aQz(lt:α→α→Bool)(l:List α)(k:Nat)(h:k<l.length):isort lt (l.take (k+1))=ins lt (isort lt (l.take k)) l[k]:=by
 unfold isort;rw [List.take_succ_eq_append_getElem h,aGw];rfl
end
theorem len3{x:List Int}(h:x.length=3):∃ a b c,x=[a,b,c]:=by
 match x,h with
 | [a,b,c],_=>exact ⟨a,b,c,rfl⟩
theorem xB{α:Type}(lt:α→α→Bool)(l:List α)(y:α):y∈isort lt l↔y∈l:=by
 unfold isort;have : ∀ (l A:List α),y∈l.foldl (ins lt) A↔y∈A∨y∈l:=by
  intro l
  induction l with
  | nil=>intro A;simp
  | cons x r ih =>
   intro A;rw [wF,ih];have:y∈ins lt A x↔y∈A∨y=x:=by
    unfold ins;rw [iH,iO];constructor
    ·rintro (h | h | h)
     ·exact Or.inl (List.mem_of_mem_take h)
     ·exact Or.inr h
     ·exact Or.inl (List.mem_of_mem_drop h)
    ·rintro (h | h)
     ·rw [← aNx (kX lt x A) A,iH] at h
      rcases h with h | h
      ·exact Or.inl h
      ·exact Or.inr (Or.inr h)
     ·exact Or.inr (Or.inl h)
   rw [this,iO];constructor
   ·rintro ((h | h) | h) <;> simp [h]
   ·rintro (h | h | h) <;> simp [h]
 rw [this];simp

section
variable {α:Type}
theorem xC(lt:α→α→Bool)(A:List α)(x:α):∃ B D:List α,A=B++D∧ins lt A x=B++x::D∧(∀ d∈D,lt x d=true)∧(B=[]∨∃ B' h,B=B'++[h]∧lt x h=false):=by
 have hA:A=(A.reverse.dropWhile (lt x)).reverse++(A.reverse.takeWhile (lt x)).reverse:=by
  rw [← List.reverse_append,List.takeWhile_append_dropWhile,List.reverse_reverse]
 generalize hdw:A.reverse.dropWhile (lt x)=dw at hA
 generalize htw:A.reverse.takeWhile (lt x)=tw at hA
 have hp:kX lt x A=dw.reverse.length:=by unfold kX;rw [hdw,List.length_reverse]
 refine ⟨dw.reverse,tw.reverse,hA,?_,fun d hd => ?_,?_⟩
 ·unfold ins
  rw [hp]
  conv=>lhs;rw [hA]
  rw [List.take_left',List.drop_left'] <;> rfl
 ·rw [aAz,← htw] at hd
  exact gW.1 List.all_takeWhile d hd
 ·cases dw with
  | nil=>exact .inl rfl
  | cons h r =>
   refine .inr ⟨r.reverse,h,by simp,?_⟩
   have:=List.head_dropWhile_not (lt x) (l:=A.reverse) (by rw [hdw];simp)
   simp only [hdw,List.head_cons] at this
   simpa using this
theorem bGh(lt:α→α→Bool)(A:List α)(x:α):(ins lt A x).Perm (x::A):=by
 obtain ⟨B,D,h1,h2,_⟩:=xC lt A x;rw [h2,h1];exact List.perm_middle
theorem aRa{f:α→Int}{lt:α→α→Bool}(hlt:∀ x y,lt x y=decide (f x<f y)){A:List α}(x:α)(hs:A.Pairwise (fun a b=>f a≤f b)):(ins lt A x).Pairwise (fun a b=>f a≤f b):=by
 obtain ⟨B,D,rfl,h2,h3,h4⟩:=xC lt A x;rw [h2];obtain ⟨s1,s2,s3⟩:=List.pairwise_append.1 hs;have hB:∀ b∈B,f b≤f x:=fun b hb=>by
  rcases h4 with rfl | ⟨B',h,rfl,hx⟩
  ·simp at hb
  ·rw [hlt,decide_eq_false_iff_not] at hx
   rcases iH.1 hb with hb | hb
   ·have:=(List.pairwise_append.1 s1).2.2 b hb h (by simp)
    omega
   ·simp at hb;subst hb;omega
 have hD:∀ d∈D,f x≤f d:=fun d hd=>by
  have:=h3 d hd;rw [hlt,decide_eq_true_eq] at this
  omega
 refine List.pairwise_append.2 ⟨s1,bHt.2 ⟨hD,s2⟩,fun a ha b hb => ?_⟩
 rcases iO.1 hb with rfl | hb
 ·exact hB a ha
 ·exact s3 a ha b hb
theorem aIh{f:α→Int}{lt:α→α→Bool}(hlt:∀ x y,lt x y=decide (f x<f y))(l:List α):(isort lt l).Pairwise (fun a b=>f a≤f b):=by
 unfold isort;have:∀ (l A:List α),A.Pairwise (fun a b=>f a≤f b)→(l.foldl (ins lt) A).Pairwise (fun a b=>f a≤f b):=by
  intro l
  induction l with
  | nil=>intro A h;exact h
  | cons x r ih=>intro A h;rw [wF];exact ih _ (aRa hlt x h)
 exact this l [] .nil
end
section
variable {α:Type}
theorem aRb{f g:α→Int}{lt:α→α→Bool}(hlt:∀ x y,lt x y=decide (f x<f y)){A:List α}(x:α)(hs:A.Pairwise (fun a b=>f a<f b∨f a=f b∧g a<g b))(hg:∀ a∈A,g a<g x):(ins lt A x).Pairwise (fun a b=>f a<f b∨f a=f b∧g a<g b):=by
 obtain ⟨B,D,rfl,h2,h3,h4⟩:=xC lt A x;rw [h2];obtain ⟨s1,s2,s3⟩:=List.pairwise_append.1 hs;have hB:∀ b∈B,f b≤f x:=fun b hb=>by
  rcases h4 with rfl | ⟨B',h,rfl,hx⟩
  ·simp at hb
  ·rw [hlt,decide_eq_false_iff_not] at hx
   rcases iH.1 hb with hb | hb
   ·have:=(List.pairwise_append.1 s1).2.2 b hb h (by simp)
    omega
   ·simp at hb;subst hb;omega
 have hD:∀ d∈D,f x<f d:=fun d hd=>by
  have:=h3 d hd
  rwa [hlt,decide_eq_true_eq] at this
 refine List.pairwise_append.2 ⟨s1,bHt.2 ⟨fun d hd => .inl (hD d hd),s2⟩,fun a ha b hb => ?_⟩
 rcases iO.1 hb with rfl | hb
 ·have h5:=hB a ha
  have h6:=hg a (nV _ ha)
  by_cases e:f a=f b
  ·exact .inr ⟨e,h6⟩
  ·exact .inl (by omega)
 ·exact s3 a ha b hb
theorem aIi{f g:α→Int}{lt:α→α→Bool}(hlt:∀ x y,lt x y=decide (f x<f y))(l:List α)(hl:l.Pairwise (fun a b=>g a<g b)):(isort lt l).Pairwise (fun a b=>f a<f b∨f a=f b∧g a<g b):=by
 unfold isort;have:∀ (l A:List α),l.Pairwise (fun a b=>g a<g b)→(∀ a∈A,∀ x∈l,g a<g x)→A.Pairwise (fun a b=>f a<f b∨f a=f b∧g a<g b)→(l.foldl (ins lt) A).Pairwise (fun a b=>f a<f b∨f a=f b∧g a<g b):=by
  intro l
  induction l with
  | nil=>intro A _ _ h;exact h
  | cons x r ih =>
   intro A hl hA h;obtain ⟨h1,h2⟩:=bHt.1 hl;rw [wF];refine ih _ h2 (fun a ha y hy => ?_) (aRb hlt x h (fun a ha=>hA a ha x (kV ..)))
   rcases iO.1 ((bGh lt A x).mem_iff.1 ha) with rfl | ha
   ·exact h1 y hy
   ·exact hA a ha y (kQ7 _ hy)
 exact this l [] hl (fun a ha=>by simp at ha) .nil
end
end
section

noncomputable abbrev aFo:Code:=sub (cd Tryz.f216) [1,0,0,1,0,0,1,0,0]
noncomputable abbrev aLx:Code:=sub (cd Tryz.f216) [1,0,0]
theorem bTz{x:Int}{r0:Bool}(er0:r0=(x != x)){base:Nat}:FV Tp 168 [(pI x)] base (pB r0) []:=by
 subst er0;exact FV.fin Tryz.func168 rfl (o:=[]) (l:=[]) (by kernel_rfl) (gn)
theorem wY(x:Int){base:Nat}:FV Tp 168 [.p (aA x)] base (pB false) []:=bTz (by simp)
theorem bUa{x y:Int}(h0:x<y){base:Nat}:FV Tp 116 [(pI x),(pI y)] base (pI (-1:Int)) []:=by
 exact FV.fin Tryz.func116 rfl (o:=[.c (pB false) [],.c (pB false) [],bF,bF,bT]) (l:=[_,false=false,false=false,_,_]) (by kernel_rfl) (gc (aY h0) (gc rfl (gc rfl (gc (fk 0 (wY y) rfl) (gc (fk 0 (wY x) rfl) gn)))))
theorem bUb{x y:Int}(h0:y≤x)(h1:y<x){base:Nat}:FV Tp 116 [(pI x),(pI y)] base (pI 1) []:=by
 exact FV.fin Tryz.func116 rfl (o:=[.c (pB false) [],.c (pB false) [],bF,bF,bF,bT]) (l:=[_,_,false=false,false=false,_,_]) (by kernel_rfl) (gc (aY h1) (gc (bG h0) (gc rfl (gc rfl (gc (fk 0 (wY y) rfl) (gc (fk 0 (wY x) rfl) gn))))))
theorem bUc{x y:Int}(h0:y≤x)(h1:x≤y){base:Nat}:FV Tp 116 [(pI x),(pI y)] base (pI 0) []:=by
 exact FV.fin Tryz.func116 rfl (o:=[.c (pB false) [],.c (pB false) [],bF,bF,bF,bF]) (l:=[_,_,false=false,false=false,_,_]) (by kernel_rfl) (gc (bG h1) (gc (bG h0) (gc rfl (gc rfl (gc (fk 0 (wY y) rfl) (gc (fk 0 (wY x) rfl) gn))))))
def wZ(x y:Int):Int:=if x<y then -1 else if y<x then 1 else 0
theorem bUd(x y:Int){base:Nat}:FV Tp 116 [.p (aA x),.p (aA y)] base (pI (wZ x y)) []:=by
 unfold wZ
 by_cases h1:x<y
 ·rw [if_pos h1];exact bUa h1
 ·rw [if_neg h1]
  by_cases h2:y<x
  ·rw [if_pos h2];exact bUb (by omega) h2
  ·rw [if_neg h2];exact bUc (by omega) (by omega)
def ltK(f:Nat)(x y:List Int):Bool:=decide (wZ (x.getD f 0) (y.getD f 0)<0)
theorem bGf(f:Nat)(x y:List Int):ltK f x y=decide (x.getD f 0<y.getD f 0):=by
 unfold ltK wZ;rw [decide_eq_decide]
 split
 ·omega
 ·split <;> omega
theorem aTl{a0 a1 a2 b0 b1 b2 r0:Int}(er0:r0=(wZ a2 b2)){base:Nat}:FV Tp 152 [(.p (.agg [(aA a0),(aA a1),(aA a2)])),(.p (.agg [(aA b0),(aA b1),(aA b2)]))] base (pI r0) []:=by
 subst er0;exact FV.fin Tryz.func152 rfl (o:=[.c (pI (wZ a2 b2)) []]) (l:=[_]) (by kernel_rfl) (gc (fk 2 (bUd a2 b2) rfl) gn)
def jU(l:Lqq)(i:Nat)(Ln:Nat)(Lc:List PV):St:=⟨fr 53 [(0,(.own 0)),(1,(pI 0)),(2,(pI (l.length:Int))),(3,(.fn 152 [] [])),(8,(pI (i:Int)))],[some (.row 48 Ln Lc)]⟩
theorem aTm{l:Lqq}{i'0:Nat}{L'1:Lqq}(hl0:aI Tp 1 aLx (jU l 1 l.length (l.flatten.map aA)) (.exit 0) (jU l i'0 L'1.length (L'1.flatten.map aA))):FMM Tp 216 [(.own 0),(pI 0),(pI (l.length:Int)),(.fn 152 [] [])] [some (.row 48 l.length (l.flatten.map aA))] (.tup []) [some (.row 48 L'1.length (L'1.flatten.map aA))]:=by
 exact FMM.fin (k:=1) (g:=⟨[],[],[],[]⟩) rfl Tryz.func216 rfl (o:=[.k 3 ⟨(rng [(4,4),(9,44)]),[],[],[]⟩ (.exit 0) (jU l i'0 L'1.length (L'1.flatten.map aA))]) (l:=[_,inR (1:Int)]) (by kernel_rfl) (gc hl0.code (gc (by unfold inR;omega) gn))
def gZ(l:Lqq)(i:Nat)(j:Int)(Mn:Nat)(Mc:List PV):St:=⟨fr 53 [(0,(.own 0)),(1,(pI 0)),(2,(pI (l.length:Int))),(3,(.fn 152 [] [])),(8,(pI (i:Int))),(9,(pI j)),(12,(pI (i:Int))),(13,(pI (l.length:Int))),(14,(pB (decide ((i:Int)<(l.length:Int))))),(17,(pI (i:Int)))],[some (.row 48 Mn Mc)]⟩
theorem aQs{l:Lqq}{i:Nat}{L:Lqq}{j'100:Int}{M'101:Lqq}{i':Nat}{L':Lqq}(h0:(i:Int)<(l.length:Int))(hl1:aI Tp 1 aFo (gZ l i (i:Int) L.length (L.flatten.map aA)) (.exit 2) (gZ l i j'100 M'101.length (M'101.flatten.map aA)))(h2:inR (((i+1):Nat):Int))(ei':i'=(i+1))(eL'n:L'.length=M'101.length)(eL'c:L'.flatten.map aA=(M'101.flatten.map aA)):aC Tp 1 aLx (jU l i L.length (L.flatten.map aA)) .normal (jU l i' L'.length (L'.flatten.map aA)):=by
 subst ei';have raw:aC Tp 1 aLx (jU l i L.length (L.flatten.map aA)) .normal (jU l (i+1) M'101.length (M'101.flatten.map aA)):=aC.fin (g:=⟨(rng [(4,4),(9,44)]),[],[],[]⟩) (o:=[bT,.k 5 ⟨(rng [(4,4),(10,2),(18,35)]),[],[],[]⟩ (.exit 2) (gZ l i j'100 M'101.length (M'101.flatten.map aA))]) (l:=[_,_,_]) (by kernel_rfl) (gc h2 (gc hl1.code (gc (aY h0) gn)))
 exact raw.cast (by rw [eL'n,eL'c])
theorem aCf{l:Lqq}{i:Nat}{L:Lqq}(h0:(l.length:Int)≤(i:Int)):aC Tp 1 aLx (jU l i L.length (L.flatten.map aA)) (.exit 0) (jU l i L.length (L.flatten.map aA)):=by
 exact aC.fin (g:=⟨(rng [(4,4),(9,44)]),[],[],[]⟩) (o:=[bF]) (l:=[_]) (by kernel_rfl) (gc (bG h0) gn)
theorem aQt{l:Lqq}{i:Nat}{j:Int}{M:Lqq}{y200 y201 y202 y203 y204 y205 j':Int}{M':Lqq}(h0:(0:Int)<j)(h1:M[j.toNat]? = some [y200,y201,y202])(h2:0≤j)(h3:uni 3 M)(h4:inR (j-1))(h5:M[(j-1).toNat]? = some [y203,y204,y205])(h6:0≤(j-1))(h7:(wZ y202 y205)<0)(h8:[(aA y203),(aA y204),(aA y205)].length=3∧(j.toNat*3)+3≤(M.flatten.map aA).length)(h9:0≤(j-1)∧(j-1)<(M.length:Int))(h10:[(aA y200),(aA y201),(aA y202)].length=3∧((j-1).toNat*3)+3≤((M.flatten.map aA).take (j.toNat*3)++[(aA y203),(aA y204),(aA y205)]++(M.flatten.map aA).drop ((j.toNat*3)+3)).length)(ej':j'=(j-1))(eM'n:M'.length=M.length)(eM'c:M'.flatten.map aA=(((M.flatten.map aA).take (j.toNat*3)++[(aA y203),(aA y204),(aA y205)]++(M.flatten.map aA).drop ((j.toNat*3)+3)).take ((j-1).toNat*3)++[(aA y200),(aA y201),(aA y202)]++((M.flatten.map aA).take (j.toNat*3)++[(aA y203),(aA y204),(aA y205)]++(M.flatten.map aA).drop ((j.toNat*3)+3)).drop (((j-1).toNat*3)+3))):aC Tp 1 aFo (gZ l i j M.length (M.flatten.map aA)) .normal (gZ l i j' M'.length (M'.flatten.map aA)):=by
 subst ej';have raw:aC Tp 1 aFo (gZ l i j M.length (M.flatten.map aA)) .normal (gZ l i (j-1) M.length (((M.flatten.map aA).take (j.toNat*3)++[(aA y203),(aA y204),(aA y205)]++(M.flatten.map aA).drop ((j.toNat*3)+3)).take ((j-1).toNat*3)++[(aA y200),(aA y201),(aA y202)]++((M.flatten.map aA).take (j.toNat*3)++[(aA y203),(aA y204),(aA y205)]++(M.flatten.map aA).drop ((j.toNat*3)+3)).drop (((j-1).toNat*3)+3))):=aC.fin (g:=⟨(rng [(4,4),(10,2),(18,35)]),[],[],[]⟩) (o:=[bT,bT,bT,bT,bT,.x (.agg [(aA y200),(aA y201),(aA y202)]),bT,bT,bT,bT,bT,.x (.agg [(aA y203),(aA y204),(aA y205)]),bT,.c (pI (wZ y202 y205)) [],bT,bT,bT,.x (.agg [(aA y203),(aA y204),(aA y205)]),.x (.agg [(aA y200),(aA y201),(aA y202)])]) (l:=[_,_,_,_,_,_,_,_,_,_,_,_,_,_,_,_,FC Tp 152 [(.p (.agg [(aA y200),(aA y201),(aA y202)])),(.p (.agg [(aA y203),(aA y204),(aA y205)]))] [] 1 (pI (wZ y202 y205)) [],_,_,_,_,_,_,_,_,_,_,_,_,_,_,_,_,_,_]) (by kernel_rfl) (gc h4 (gc h10 (gc h9 (gc h8 (gc (bP (i:=j) h2 h1) (gc (aS (i:=j.toNat) h3 h1) (gc (bH (i:=j.toNat) h3 h1) (gc (bP (i:=j) h2 h1) (gc (aS (i:=(j-1).toNat) h3 h5) (gc (bH (i:=(j-1).toNat) h3 h5) (gc (bP (i:=(j-1)) h6 h5) (g2c h4 (gc (aY h7) (g2c (aY h0) (gc (FV.fc (aTl rfl) rfl) (gc (aY h0) (gc (aS (i:=(j-1).toNat) h3 h5) (gc (bH (i:=(j-1).toNat) h3 h5) (gc (aY h0) (gc (bP (i:=(j-1)) h6 h5) (gc (aY h0) (gc h4 (g3c (aY h0) (gc (aS (i:=j.toNat) h3 h1) (gc (bH (i:=j.toNat) h3 h1) (gc (aY h0) (gc (bP (i:=j) h2 h1) (g4c (aY h0) gn))))))))))))))))))))))))))))
 exact raw.cast (by rw [eM'n,eM'c])
theorem aQu{l:Lqq}{i:Nat}{j:Int}{M:Lqq}{y200 y201 y202 y203 y204 y205:Int}(h0:(0:Int)<j)(h1:M[j.toNat]? = some [y200,y201,y202])(h2:0≤j)(h3:uni 3 M)(h4:inR (j-1))(h5:M[(j-1).toNat]? = some [y203,y204,y205])(h6:0≤(j-1))(h7:(0:Int)≤(wZ y202 y205)):aC Tp 1 aFo (gZ l i j M.length (M.flatten.map aA)) (.exit 2) (gZ l i j M.length (M.flatten.map aA)):=by
 exact aC.fin (g:=⟨(rng [(4,4),(10,2),(18,35)]),[],[],[]⟩) (o:=[bT,bT,bT,bT,bT,.x (.agg [(aA y200),(aA y201),(aA y202)]),bT,bT,bT,bT,bT,.x (.agg [(aA y203),(aA y204),(aA y205)]),bT,.c (pI (wZ y202 y205)) [],bT,bT,bF]) (l:=[_,_,_,FC Tp 152 [(.p (.agg [(aA y200),(aA y201),(aA y202)])),(.p (.agg [(aA y203),(aA y204),(aA y205)]))] [] 1 (pI (wZ y202 y205)) [],_,_,_,_,_,_,_,_,_,_,_,_,_,_,_,_,_,_]) (by kernel_rfl) (gc (bG h7) (g2c (aY h0) (gc (FV.fc (aTl rfl) rfl) (gc (aY h0) (gc (aS (i:=(j-1).toNat) h3 h5) (gc (bH (i:=(j-1).toNat) h3 h5) (gc (aY h0) (gc (bP (i:=(j-1)) h6 h5) (gc (aY h0) (gc h4 (g3c (aY h0) (gc (aS (i:=j.toNat) h3 h1) (gc (bH (i:=j.toNat) h3 h1) (gc (aY h0) (gc (bP (i:=j) h2 h1) (g4c (aY h0) gn))))))))))))))))
theorem aQv{l:Lqq}{i:Nat}{j:Int}{M:Lqq}(h0:j≤0):aC Tp 1 aFo (gZ l i j M.length (M.flatten.map aA)) (.exit 2) (gZ l i j M.length (M.flatten.map aA)):=by
 exact aC.fin (g:=⟨(rng [(4,4),(10,2),(18,35)]),[],[],[]⟩) (o:=[bF,bF,bF,bF,bF,bF,bF,bF,bF,bF,bF,bF,bF]) (l:=[_,_,_,_,_,_,_,_,_,_,_,_,_]) (by kernel_rfl) (g8c (bG h0) (g5c (bG h0) gn))
theorem bUe(l:Lqq)(i:Nat)(A R:Lqq)(hA:A.length<1000)(hi:i=A.length)(x0 x1 x2:Int)(hu:uni 3 (A++[x0,x1,x2]::R)):∀ m,m≤A.length→(∀ t (h:t<A.length),m≤t→ltK 2 [x0,x1,x2] A[t]=true) →
  aI Tp 1 aFo (gZ l i (m:Int) (mv A [x0,x1,x2] m R).length ((mv A [x0,x1,x2] m R).flatten.map aA)) (.exit 2) (gZ l i (kX (ltK 2) [x0,x1,x2] A:Int) (ins (ltK 2) A [x0,x1,x2]++R).length ((ins (ltK 2) A [x0,x1,x2]++R).flatten.map aA)):=by
 have huA:∀ y∈A,y.length=3:=fun y hy=>hu y (nV _ hy)
 have huM:∀ m,uni 3 (mv A [x0,x1,x2] m R):=fun m y hy=>by
  unfold mv at hy
  rcases iH.1 hy with h | h
  ·exact huA y (List.mem_of_mem_take h)
  ·rcases iO.1 h with rfl | h
   ·rfl
   ·rcases iH.1 h with h | h
    ·exact huA y (List.mem_of_mem_drop h)
    ·exact hu y (aDb _ (kQ7 _ h))
 intro m
 induction m with
 | zero =>
  intro _ hlt;have e:=aFp (ltK 2) [x0,x1,x2] A 0 (Nat.zero_le _) hlt (.inl rfl);rw [← bGg,e];exact .exit (aQv (by simp)) (by simp)
 | succ m ih =>
  intro hm hlt;have hy:=kQ0 (show m<A.length by omega)
  generalize A[m]=y at hy
  obtain ⟨y0,y1,y2,rfl⟩:=len3 (huA y (kQ5 hy));have e1:((m+1:Nat):Int).toNat=m+1:=by omega
  have e2:(((m+1:Nat):Int)-1).toNat=m:=by omega
  have hl:=xA A [x0,x1,x2] (m+1) R hm;have g1:(mv A [x0,x1,x2] (m+1) R)[m+1]? = some [x0,x1,x2]:=by rw [aIg A _ _ R hm];simp
  have g2:(mv A [x0,x1,x2] (m+1) R)[m]? = some [y0,y1,y2]:=by rw [aIg A _ _ R hm,if_pos (by omega)];exact hy
  by_cases hc:wZ x2 y2<0
  ·have st:=uT (k:=3) (i:=m+1) (x:=[y0,y1,y2]) (huM (m+1)) (by omega) rfl
   have hs1:uni 3 ((mv A [x0,x1,x2] (m+1) R).set (m+1) [y0,y1,y2]):=aSg (huM _) rfl;have st2:=uT (k:=3) (i:=m) (x:=[x0,x1,x2]) hs1 (by rw [tD];omega) rfl
   have gm:((mv A [x0,x1,x2] (m+1) R).set (m+1) [y0,y1,y2])[m]? = some [y0,y1,y2]:=by rw [List.getElem?_set,if_neg (by omega)];exact g2
   have hsw:=bMh A [x0,x1,x2] (m+1) R hm (by omega) [y0,y1,y2] (by simpa using hy)
   rw [Nat.add_sub_cancel] at hsw
   simp only [iI,List.map_nil] at st st2
   refine .step (aQt (j:=((m+1:Nat):Int)) (j':=(m:Int)) (M':=mv A [x0,x1,x2] m R) (by omega) (by rw [e1];exact g1) (by omega) (huM _) (by unfold inR;omega) (by rw [e2];exact g2) (by omega) hc ⟨rfl,by rw [e1];exact bH (huM _) g1⟩ ⟨by omega,by omega⟩ ⟨rfl,?_⟩ (by omega) (by rw [hl,xA A _ _ R (by omega)]) ?_) (ih (by omega) fun t ht h1 => ?_)
   ·rw [e1,e2,st];exact bH hs1 gm
   ·rw [e1,e2,st,st2,hsw]
   ·by_cases h2:t=m
    ·subst h2
     have h3:=hy;rw [kQ0 ht,Option.some.injEq] at h3
     rw [h3];simpa [ltK] using hc
    ·exact hlt t ht (by omega)
  ·have e:=aFp (ltK 2) [x0,x1,x2] A (m+1) hm hlt (.inr ⟨[y0,y1,y2],by simpa using hy,by simpa [ltK] using hc⟩)
   rw [← bGg,e];exact .exit (aQu (by omega) (by rw [e1];exact g1) (by omega) (huM _) (by unfold inR;omega) (by rw [e2];exact g2) (by omega) (by omega)) (by simp)
theorem bMd(l:Lqq)(hu:uni 3 l)(hn:l.length<1000):FMM Tp 216 [.own 0,.p (aA 0),.p (aA (l.length:Int)),.fn 152 [] []] [some (.row 48 l.length (l.flatten.map aA))] (.tup []) [some (.row 48 (isort (ltK 2) l).length ((isort (ltK 2) l).flatten.map aA))]:=by
 have hui:∀ i,uni 3 (isort (ltK 2) (l.take i)):=fun i y hy=>hu y (List.mem_of_mem_take ((xB (ltK 2) _ y).1 hy))
 have key:∀ d i,i+d=l.length→1≤i→aI Tp 1 aLx (jU l i (isort (ltK 2) (l.take i)++l.drop i).length ((isort (ltK 2) (l.take i)++l.drop i).flatten.map aA)) (.exit 0) (jU l l.length (isort (ltK 2) l).length ((isort (ltK 2) l).flatten.map aA)):=by
  intro d
  induction d with
  | zero =>
   intro i hi _;obtain rfl:i=l.length:=by omega
   rw [List.take_length,List.drop_length,List.append_nil];exact .exit (aCf (by omega)) (by simp)
  | succ d ih =>
   intro i hi h1;have hlt:i<l.length:=by omega
   have hx:=hu l[i] (eY hlt);generalize hxx:l[i]=x at hx
   obtain ⟨x0,x1,x2,rfl⟩:=len3 hx;have hAl:(isort (ltK 2) (l.take i)).length=i:=by rw [vM,mX];omega
   have hdr:l.drop i=[x0,x1,x2]::l.drop (i+1):=by rw [bDd hlt,hxx]
   have hin:=bUe l i (isort (ltK 2) (l.take i)) (l.drop (i+1)) (by omega) hAl.symm x0 x1 x2 (by
    intro y hy
    rcases iH.1 hy with h | h
    ·exact hui i y h
    ·rcases iO.1 h with rfl | h
     ·rfl
     ·exact hu y (List.mem_of_mem_drop h)) i (by omega) (fun t ht h2=>by omega)
   have hmv:mv (isort (ltK 2) (l.take i)) [x0,x1,x2] i (l.drop (i+1))=isort (ltK 2) (l.take i)++l.drop i:=by
    have:=bUg (isort (ltK 2) (l.take i)) [x0,x1,x2] (l.drop (i+1));rw [hAl] at this;rw [this,hdr]
   have hsn:=aQz (ltK 2) l i hlt;rw [hxx] at hsn
   rw [hmv,← hsn] at hin
   exact .step (aQs (by omega) hin (by unfold inR;omega) rfl rfl rfl) (ih (i+1) (by omega) (by omega))
 rcases Nat.eq_zero_or_pos l.length with h0 | hp
 ·have:l=[]:=aDa h0
  subst this;exact aTm (aI.exit (aCf (l:=[]) (L:=[]) (i:=1) (by simp)) (by simp))
 ·have:=key (l.length-1) 1 (by omega) (by omega)
  have e1:isort (ltK 2) (l.take 1)++l.drop 1=l:=by
   cases l with
   | nil=>simp at hp
   | cons x r=>simp [isort,ins,kX]
  rw [e1] at this
  exact aTm this
def vK(l:Lqq)  : St:=⟨fr 63 [(0,(.own 0)),(1,(pI (l.length:Int))),(2,(.fn 152 [] [])),(6,(pI 20)),(7,(pI 0)),(8,(pI 20))],[some (.row 48 l.length (l.flatten.map aA))]⟩
def vL(l:Lqq)  : St:=⟨fr 63 [(0,(.own 0)),(1,(pI (l.length:Int))),(2,(.fn 152 [] [])),(6,(pI 20)),(7,(pI 0)),(8,(pI 20))],[some (.row 48 ((isort (ltK 2) l).length) ((isort (ltK 2) l).flatten.map aA))]⟩
theorem bMe{l:Lqq}(hl0:aI Tp 1 (sub (cd Tryz.f188) [1,1,0,0,0]) (vK l ) (.exit 0) (vK l ))(h1:uni 3 l)(h2:l.length<1000)(hl3:aI Tp 1 (sub (cd Tryz.f188) [1,1,1,1,0,0]) (vL l ) (.exit 2) (vL l )):FMM Tp 188 [(.own 0),(pI (l.length:Int)),(.fn 152 [] [])] [some (.row 48 l.length (l.flatten.map aA))] (.tup []) [some (.row 48 ((isort (ltK 2) l).length) ((isort (ltK 2) l).flatten.map aA))]:=by
 exact FMM.fin (k:=1) (g:=⟨[],[],[],[]⟩) rfl Tryz.func188 rfl (o:=[.k 6 ⟨(rng [(3,3),(10,13),(27,1),(43,1),(60,1)]),[],[],[]⟩ (.exit 0) (vK l ),.c (.tup []) [(0,(.row 48 ((isort (ltK 2) l).length) ((isort (ltK 2) l).flatten.map aA)))],.k 1 ⟨(rng [(3,3),(10,53)]),[],[],[]⟩ (.exit 2) (vL l )]) (l:=[_,FC Tp 216 [(.own 0),(pI 0),(pI (l.length:Int)),(.fn 152 [] [])] [(0,(.row 48 l.length (l.flatten.map aA)))] 1 (.tup []) [(0,(.row 48 ((isort (ltK 2) l).length) ((isort (ltK 2) l).flatten.map aA)))],_]) (by kernel_rfl) (gc hl3.code (gc (FMM.fc (ids:=[0]) (bMd l h1 h2) (by kernel_rfl)) (gc hl0.code gn)))
theorem aQw{l:Lqq}(h0:(l.length:Int)<20):aC Tp 1 (sub (cd Tryz.f188) [1,1,0,0,0]) (vK l ) (.exit 0) (vK l ):=by
 exact aC.fin (g:=⟨(rng [(3,3),(10,13),(27,1),(43,1),(60,1)]),[],[],[]⟩) (o:=[bF]) (l:=[_]) (by kernel_rfl) (gc (kP h0) gn)
theorem aQx{l:Lqq}(h0:(l.length:Int)≤20):aC Tp 1 (sub (cd Tryz.f188) [1,1,1,1,0,0]) (vL l ) (.exit 2) (vL l ):=by
 exact aC.fin (g:=⟨(rng [(3,3),(10,53)]),[],[],[]⟩) (o:=[bF]) (l:=[_]) (by kernel_rfl) (gc (bG h0) gn)
theorem bMf(l:Lqq)(hu:uni 3 l)(hn:l.length<20):FMM Tp 188 [.own 0,.p (aA (l.length:Int)),.fn 152 [] []] [some (.row 48 l.length (l.flatten.map aA))] (.tup []) [some (.row 48 (isort (ltK 2) l).length ((isort (ltK 2) l).flatten.map aA))] := 
 bMe (aI.exit (aQw (by omega)) (by simp)) hu (by omega) (aI.exit (aQx (by omega)) (by simp))
theorem bMg{l:Lqq}(h0:uni 3 l)(h1:l.length<20):FMM Tp 151 [(.own 0),(.fn 152 [] [])] [some (.row 48 l.length (l.flatten.map aA))] (.tup []) [some (.row 48 ((isort (ltK 2) l).length) ((isort (ltK 2) l).flatten.map aA))]:=by
 exact FMM.fin (k:=1) (g:=⟨[],[],[],[]⟩) rfl Tryz.func151 rfl (o:=[.c (.tup []) [(0,(.row 48 ((isort (ltK 2) l).length) ((isort (ltK 2) l).flatten.map aA)))]]) (l:=[FC Tp 188 [(.own 0),(pI (l.length:Int)),(.fn 152 [] [])] [(0,(.row 48 l.length (l.flatten.map aA)))] 1 (.tup []) [(0,(.row 48 ((isort (ltK 2) l).length) ((isort (ltK 2) l).flatten.map aA)))]]) (by kernel_rfl) (gc (FMM.fc (ids:=[0]) (bMf l h0 h1) (by kernel_rfl)) gn)
theorem bUf(l:Lqq)(hu:uni 3 l)(hn:l.length<20):FMM Tp 151 [.own 0,.fn 152 [] []] [some (.row 48 l.length (l.flatten.map aA))] (.tup []) [some (.row 48 (isort (ltK 2) l).length ((isort (ltK 2) l).flatten.map aA))]:=bMg hu hn
end
section
variable {dl:Int}{sk dc:Lqq}

noncomputable abbrev rA:Code:=sub (cd Tryz.f86) [1,1,1,1,0,1,0,0]
noncomputable abbrev wV:Code:=sub (cd Tryz.f86) [1,1,0,1,0,0]
noncomputable abbrev wW:Code:=sub (cd Tryz.f129) [1,0,1,0,0]
noncomputable abbrev aIe:Code:=sub (cd Tryz.f21) [1,1,1,1,1,0,1,0,0]
theorem bGc:((0:Int) != (0:Int))=false:=by first | decide | simp
theorem aCd{cs:List PV}{a b:Nat}{v x:PV}(hn:a≠b)(h:cs[b]? = some x):(cs.set a v)[b]? = some x:=by rw [bHs hn];exact h
def ocB(q:List Int)(n:Int):Bool:=q.contains n
abbrev bTi(dl:Int)(sk dc:Lqq)(ov:PV)(R:Lqq)(T T2:Lqb):Prop:=FMM Tp 86 [pQ dl sk dc,fU] (cW dl sk dc ov T) (.own 7) (cW dl sk dc ov T2++[some (.row 48 R.length (R.flatten.map aA))])
def iU(dl:Int)(sk:Lqq)(dc:Lqq)(ov:PV)(pn:Nat)(pc:List PV)(qn:Nat)(qc:List PV)(i:Nat)(te:List (Value × PV))(tk:Nat):St:=⟨fr 87 [(0,(.rp (aH dl sk dc) 0)),(3,(.ptr 7 0)),(4,(.p bW)),(5,(.own 8)),(6,(.own 9)),(16,(.p (fS sk))),(17,(pI (sk.length:Int))),(18,(pI (i:Int)))],[some (vB0 dl sk dc),some (.box 33 [(.p ov)]),some vB2,some (.mp te tk),some (.box 207 [(.mp 3)]),some (vB5 dl sk dc),some vB6,some vB2,some (.row 48 pn pc),some (.row 48 qn qc)]⟩
def eT(dl:Int)(sk:Lqq)(dc:Lqq)(ov:PV)(p'0:Lqq)(q'1:Lqq)(t'3:Lqb)(Ln:Nat)(Lc:List PV)(j:Nat):St:=⟨fr 87 [(4,(.p bW)),(5,(.own 7)),(6,(.own 8)),(47,(pI (((isort (ltK 2) p'0).length:Nat):Int))),(48,(pI (j:Int)))],[some (vB0 dl sk dc),some (.box 33 [(.p ov)]),some vB2,some (.mp (aE t'3) t'3.length),some (.box 207 [(.mp 3)]),some (vB5 dl sk dc),some vB6,some (.row 48 Ln Lc),some (.row 48 q'1.length (q'1.flatten.map aA))]⟩
theorem bTj{ov:PV}{T:Lqb}{p'0 q'1:Lqq}{i'2:Nat}{t'3:Lqb}{L'4:Lqq}{j'5 r0n:Nat}{r0c:List PV}(hl0:aI Tp 7 wV (iU dl sk dc ov 0 [] 0 [] 0 (aE T) T.length) (.exit 0) (iU dl sk dc ov p'0.length (p'0.flatten.map aA) q'1.length (q'1.flatten.map aA) i'2 (aE t'3) t'3.length))(h1:uni 3 p'0)(h2:p'0.length<20)(hl3:aI Tp 7 rA (eT dl sk dc ov p'0 q'1 t'3 ((isort (ltK 2) p'0).length) ((isort (ltK 2) p'0).flatten.map aA) 0) (.exit 2) (eT dl sk dc ov p'0 q'1 t'3 L'4.length (L'4.flatten.map aA) j'5))(h4:(q'1.flatten.map aA).length=q'1.length*3∧L'4.length+q'1.length≤1000000)(er0n:r0n=(L'4.length+q'1.length))(er0c:r0c=((L'4.flatten.map aA)++(q'1.flatten.map aA))):FMM Tp 86 [(.rp (aH dl sk dc) 0),fU] (cW dl sk dc ov T) (.own 7) [some (vB0 dl sk dc),some (.box 33 [(.p ov)]),some vB2,some (.mp (aE t'3) t'3.length),some (.box 207 [(.mp 3)]),some (vB5 dl sk dc),some vB6,some (.row 48 r0n r0c)]:=by
 subst er0n er0c;exact FMM.fin (k:=7) (g:=⟨[],[9],[],[]⟩) rfl Tryz.func86 rfl (o:=[.x (fS sk),.k 1 ⟨(rng [(1,2),(7,4),(12,4),(19,25),(45,1)]),[7,8,9],[],[(5,48),(6,48)]⟩ (.exit 0) (iU dl sk dc ov p'0.length (p'0.flatten.map aA) q'1.length (q'1.flatten.map aA) i'2 (aE t'3) t'3.length),.c (.tup []) [(8,(.row 48 ((isort (ltK 2) p'0).length) ((isort (ltK 2) p'0).flatten.map aA)))],.k 4 ⟨(rng [(0,4),(7,40),(49,35)]),[8,9],[],[]⟩ (.exit 2) (eT dl sk dc ov p'0 q'1 t'3 L'4.length (L'4.flatten.map aA) j'5)]) (l:=[_,_,FC Tp 151 [(.own 8),(.fn 152 [] [])] [(8,(.row 48 p'0.length (p'0.flatten.map aA)))] 10 (.tup []) [(8,(.row 48 ((isort (ltK 2) p'0).length) ((isort (ltK 2) p'0).flatten.map aA)))],_,(aH dl sk dc)[1]? = some (fS sk)]) (by kernel_rfl) (gc h4 (gc hl3.code (gc (FMM.fc (ids:=[8]) (bUf p'0 h1 h2) (by kernel_rfl)) (gc hl0.code (gc rfl gn)))))
theorem bAt{ov:PV}{p q:Lqq}{i:Nat}{t:Lqb}{y100 y101 n102:Int}{b103:Bool}{T104:Lqb}{q':Lqq}{i':Nat}{t':Lqb}(h0:(i:Int)<(sk.length:Int))(h1:sk[i]? = some [y100,y101])(h2:uni 2 sk)(h3:aDd dl sk dc ov [y100,y101] n102 b103 t T104)(h4:b103=true)(h5:[(aA y100),(aA (-1:Int)),(aA 0)].length=1*3∧q.length+1≤1000000)(h6:inR (((i+1):Nat):Int))(eq'n:q'.length=(q.length+1))(eq'c:q'.flatten.map aA=((q.flatten.map aA)++[(aA y100),(aA (-1:Int)),(aA 0)]))(ei':i'=(i+1))(et'e:aE t'=(aE T104))(et'k:t'.length=T104.length):aC Tp 7 wV (iU dl sk dc ov p.length (p.flatten.map aA) q.length (q.flatten.map aA) i (aE t) t.length) .normal (iU dl sk dc ov p.length (p.flatten.map aA) q'.length (q'.flatten.map aA) i' (aE t') t'.length):=by
 subst ei';have raw:aC Tp 7 wV (iU dl sk dc ov p.length (p.flatten.map aA) q.length (q.flatten.map aA) i (aE t) t.length) .normal (iU dl sk dc ov p.length (p.flatten.map aA) (q.length+1) ((q.flatten.map aA)++[(aA y100),(aA (-1:Int)),(aA 0)]) (i+1) (aE T104) T104.length):=aC.fin (g:=⟨(rng [(1,2),(7,4),(12,4),(19,25),(45,1)]),[7,8,12],[],[]⟩) (o:=[bT,.x (.agg [(aA y100),(aA y101)]),.c (.tup [(pI n102),(pB b103)]) (vU dl sk dc ov T104),bT]) (l:=[_,_,[(aA y100),(aA (-1:Int)),(aA 0)].length=3,_,FC Tp 134 [(.rp (aH dl sk dc) 0),(.p (.agg [(aA y100),(aA y101)])),fU] [(4,(.box 207 [(.mp 3)])),(5,(vB5 dl sk dc)),(0,(vB0 dl sk dc)),(2,vB2),(6,vB6),(1,(.box 33 [(.p ov)])),(3,(.mp (aE t) t.length))] 11 (.tup [(pI n102),(pB b103)]) (vU dl sk dc ov T104),_,_,0≤(i:Int)∧(i:Int)<(sk.length:Int)∧(i*2)<(sk.flatten.map aA).length,_]) (by kernel_rfl) (gc h6 (gc h5 (gc (by first | decide | simp) (gc h4 (gc (FMM.fc (ids:=[0,1,2,3,4,5,6]) h3 (by kernel_rfl)) (gc (aS (i:=i) h2 h1) (gc (bH (i:=i) h2 h1) (gc (bR (k:=2) (i:=(i:Int)) (by decide) h2 (kQ2 _) h1) (gc (aY h0) gn)))))))))
 exact raw.cast (by rw [eq'n,eq'c,et'e,et'k])
theorem bAu{ov:PV}{p q:Lqq}{i:Nat}{t:Lqb}{y100 y101 n102:Int}{b103:Bool}{T104:Lqb}{p':Lqq}{i':Nat}{t':Lqb}(h0:(i:Int)<(sk.length:Int))(h1:sk[i]? = some [y100,y101])(h2:uni 2 sk)(h3:aDd dl sk dc ov [y100,y101] n102 b103 t T104)(h4:b103=false)(h5:[(aA y100),(aA 0),(aA n102)].length=1*3∧p.length+1≤1000000)(h6:inR (((i+1):Nat):Int))(ep'n:p'.length=(p.length+1))(ep'c:p'.flatten.map aA=((p.flatten.map aA)++[(aA y100),(aA 0),(aA n102)]))(ei':i'=(i+1))(et'e:aE t'=(aE T104))(et'k:t'.length=T104.length):aC Tp 7 wV (iU dl sk dc ov p.length (p.flatten.map aA) q.length (q.flatten.map aA) i (aE t) t.length) .normal (iU dl sk dc ov p'.length (p'.flatten.map aA) q.length (q.flatten.map aA) i' (aE t') t'.length):=by
 subst ei';have raw:aC Tp 7 wV (iU dl sk dc ov p.length (p.flatten.map aA) q.length (q.flatten.map aA) i (aE t) t.length) .normal (iU dl sk dc ov (p.length+1) ((p.flatten.map aA)++[(aA y100),(aA 0),(aA n102)]) q.length (q.flatten.map aA) (i+1) (aE T104) T104.length):=aC.fin (g:=⟨(rng [(1,2),(7,4),(12,4),(19,25),(45,1)]),[7,12,9],[],[]⟩) (o:=[bT,.x (.agg [(aA y100),(aA y101)]),.c (.tup [(pI n102),(pB b103)]) (vU dl sk dc ov T104),bF]) (l:=[_,_,[(aA y100),(aA 0),(aA n102)].length=3,_,FC Tp 134 [(.rp (aH dl sk dc) 0),(.p (.agg [(aA y100),(aA y101)])),fU] [(4,(.box 207 [(.mp 3)])),(5,(vB5 dl sk dc)),(0,(vB0 dl sk dc)),(2,vB2),(6,vB6),(1,(.box 33 [(.p ov)])),(3,(.mp (aE t) t.length))] 11 (.tup [(pI n102),(pB b103)]) (vU dl sk dc ov T104),_,_,0≤(i:Int)∧(i:Int)<(sk.length:Int)∧(i*2)<(sk.flatten.map aA).length,_]) (by kernel_rfl) (gc h6 (gc h5 (gc (by first | decide | simp) (gc h4 (gc (FMM.fc (ids:=[0,1,2,3,4,5,6]) h3 (by kernel_rfl)) (gc (aS (i:=i) h2 h1) (gc (bH (i:=i) h2 h1) (gc (bR (k:=2) (i:=(i:Int)) (by decide) h2 (kQ2 _) h1) (gc (aY h0) gn)))))))))
 exact raw.cast (by rw [ep'n,ep'c,et'e,et'k])
theorem bAv{ov:PV}{p q:Lqq}{i:Nat}{t:Lqb}(h0:(sk.length:Int)≤(i:Int)):aC Tp 7 wV (iU dl sk dc ov p.length (p.flatten.map aA) q.length (q.flatten.map aA) i (aE t) t.length) (.exit 0) (iU dl sk dc ov p.length (p.flatten.map aA) q.length (q.flatten.map aA) i (aE t) t.length):=by
 exact aC.fin (g:=⟨(rng [(1,2),(7,4),(12,4),(19,25),(45,1)]),[7,8,9],[],[]⟩) (o:=[bF]) (l:=[_]) (by kernel_rfl) (gc (bG h0) gn)
theorem bAw{ov:PV}{p'0 q'1:Lqq}{t'3:Lqb}{L:Lqq}{j:Nat}{y200 y201 y202 y203 y204 y205:Int}{L':Lqq}{j':Nat}(h0:(j:Int)<(((isort (ltK 2) p'0).length:Nat):Int))(h1:inR (((j+1):Nat):Int))(h2:L[j]? = some [y200,y201,y202])(h3:((j*3)+1)<(L.flatten.map aA).length)(h4:(0:Int)<(j:Int))(h5:uni 3 L)(h6:inR ((j:Int)-1))(h7:L[((j:Int)-1).toNat]? = some [y203,y204,y205])(h8:0≤((j:Int)-1))(h9:y202=y205)(h10:((j*3)+1)<((L.flatten.map aA).set ((j*3)+1) (aA (((j+1):Nat):Int))).length)(eL'n:L'.length=L.length)(eL'c:L'.flatten.map aA=(((L.flatten.map aA).set ((j*3)+1) (aA (((j+1):Nat):Int))).set ((j*3)+1) (aA y204)))(ej':j'=(j+1)):aC Tp 7 rA (eT dl sk dc ov p'0 q'1 t'3 L.length (L.flatten.map aA) j) .normal (eT dl sk dc ov p'0 q'1 t'3 L'.length (L'.flatten.map aA) j'):=by
 subst ej';have raw:aC Tp 7 rA (eT dl sk dc ov p'0 q'1 t'3 L.length (L.flatten.map aA) j) .normal (eT dl sk dc ov p'0 q'1 t'3 L.length (((L.flatten.map aA).set ((j*3)+1) (aA (((j+1):Nat):Int))).set ((j*3)+1) (aA y204)) (j+1)):=aC.fin (g:=⟨(rng [(0,4),(7,40),(49,35)]),[7,8],[],[]⟩) (o:=[bT,bT,bT,bT,bT,bT,.x (aA y202),bT,bT,bT,bT,bT,bT,.x (aA y205),bT,bT,bT,.x (aA y204)]) (l:=[_,_,_,((L.flatten.map aA).set ((j*3)+1) (aA (((j+1):Nat):Int)))[((((j:Int)-1).toNat*3)+1)]? = some (aA y204),_,_,_,_,_,((L.flatten.map aA).set ((j*3)+1) (aA (((j+1):Nat):Int)))[((((j:Int)-1).toNat*3)+2)]? = some (aA y205),_,_,_,_,_,_,_,_,((L.flatten.map aA).set ((j*3)+1) (aA (((j+1):Nat):Int)))[((j*3)+2)]? = some (aA y202),_,_,_,_,_,_,_,_,_,_]) (by kernel_rfl) (gc h1 (gc h10 (gc (bP (i:=(j:Int)) (kQ2 _) h2) (gc (aCd (by omega) (dM (i:=((j:Int)-1).toNat) (f:=1) h5 h7 rfl)) (gc (bP (i:=((j:Int)-1)) h8 h7) (gc h6 (gc (dR h9) (g2c (aY h4) (gc (aCd (by omega) (dM (i:=((j:Int)-1).toNat) (f:=2) h5 h7 rfl)) (g2c (aY h4) (gc (bP (i:=((j:Int)-1)) h8 h7) (gc (aY h4) (gc h6 (g3c (aY h4) (gc (aCd (by omega) (dM (i:=j) (f:=2) h5 h2 rfl)) (g2c (aY h4) (gc (bP (i:=(j:Int)) (kQ2 _) h2) (g3c (aY h4) (gc h3 (gc (bP (i:=(j:Int)) (kQ2 _) h2) (gc h1 (gc (aY h0) gn))))))))))))))))))))))
 exact raw.cast (by rw [eL'n,eL'c])
theorem bAx{ov:PV}{p'0 q'1:Lqq}{t'3:Lqb}{L:Lqq}{j:Nat}{y200 y201 y202 y203 y204 y205:Int}{L':Lqq}{j':Nat}(h0:(j:Int)<(((isort (ltK 2) p'0).length:Nat):Int))(h1:inR (((j+1):Nat):Int))(h2:L[j]? = some [y200,y201,y202])(h3:((j*3)+1)<(L.flatten.map aA).length)(h4:(0:Int)<(j:Int))(h5:uni 3 L)(h6:inR ((j:Int)-1))(h7:L[((j:Int)-1).toNat]? = some [y203,y204,y205])(h8:0≤((j:Int)-1))(h9:y202≠y205)(eL'n:L'.length=L.length)(eL'c:L'.flatten.map aA=((L.flatten.map aA).set ((j*3)+1) (aA (((j+1):Nat):Int))))(ej':j'=(j+1)):aC Tp 7 rA (eT dl sk dc ov p'0 q'1 t'3 L.length (L.flatten.map aA) j) .normal (eT dl sk dc ov p'0 q'1 t'3 L'.length (L'.flatten.map aA) j'):=by
 subst ej';have raw:aC Tp 7 rA (eT dl sk dc ov p'0 q'1 t'3 L.length (L.flatten.map aA) j) .normal (eT dl sk dc ov p'0 q'1 t'3 L.length ((L.flatten.map aA).set ((j*3)+1) (aA (((j+1):Nat):Int))) (j+1)):=aC.fin (g:=⟨(rng [(0,4),(7,40),(49,35)]),[7,8],[],[]⟩) (o:=[bT,bT,bT,bT,bT,bT,.x (aA y202),bT,bT,bT,bT,bT,bT,.x (aA y205),bT,bT,bF]) (l:=[_,_,_,_,((L.flatten.map aA).set ((j*3)+1) (aA (((j+1):Nat):Int)))[((((j:Int)-1).toNat*3)+2)]? = some (aA y205),_,_,_,_,_,_,_,_,((L.flatten.map aA).set ((j*3)+1) (aA (((j+1):Nat):Int)))[((j*3)+2)]? = some (aA y202),_,_,_,_,_,_,_,_,_,_]) (by kernel_rfl) (gc h1 (gc (bI h9) (g2c (aY h4) (gc (aCd (by omega) (dM (i:=((j:Int)-1).toNat) (f:=2) h5 h7 rfl)) (g2c (aY h4) (gc (bP (i:=((j:Int)-1)) h8 h7) (gc (aY h4) (gc h6 (g3c (aY h4) (gc (aCd (by omega) (dM (i:=j) (f:=2) h5 h2 rfl)) (g2c (aY h4) (gc (bP (i:=(j:Int)) (kQ2 _) h2) (g3c (aY h4) (gc h3 (gc (bP (i:=(j:Int)) (kQ2 _) h2) (gc h1 (gc (aY h0) gn)))))))))))))))))
 exact raw.cast (by rw [eL'n,eL'c])
theorem bAy{ov:PV}{p'0 q'1:Lqq}{t'3:Lqb}{L:Lqq}{j:Nat}{y200 y201 y202:Int}{L':Lqq}{j':Nat}(h0:(j:Int)<(((isort (ltK 2) p'0).length:Nat):Int))(h1:inR (((j+1):Nat):Int))(h2:L[j]? = some [y200,y201,y202])(h3:((j*3)+1)<(L.flatten.map aA).length)(h4:(j:Int)≤0)(eL'n:L'.length=L.length)(eL'c:L'.flatten.map aA=((L.flatten.map aA).set ((j*3)+1) (aA (((j+1):Nat):Int))))(ej':j'=(j+1)):aC Tp 7 rA (eT dl sk dc ov p'0 q'1 t'3 L.length (L.flatten.map aA) j) .normal (eT dl sk dc ov p'0 q'1 t'3 L'.length (L'.flatten.map aA) j'):=by
 subst ej';have raw:aC Tp 7 rA (eT dl sk dc ov p'0 q'1 t'3 L.length (L.flatten.map aA) j) .normal (eT dl sk dc ov p'0 q'1 t'3 L.length ((L.flatten.map aA).set ((j*3)+1) (aA (((j+1):Nat):Int))) (j+1)):=aC.fin (g:=⟨(rng [(0,4),(7,40),(49,35)]),[7,8],[],[]⟩) (o:=[bT,bF,bF,bF,bF,bF,bF,bF,bF,bF,bF,bF,bF,bF]) (l:=[_,_,_,_,_,_,_,_,_,_,_,_,_,_,_,_,_,_]) (by kernel_rfl) (gc h1 (g8c (bG h4) (g5c (bG h4) (gc h3 (gc (bP (i:=(j:Int)) (kQ2 _) h2) (gc h1 (gc (aY h0) gn)))))))
 exact raw.cast (by rw [eL'n,eL'c])
theorem bAz{ov:PV}{p'0 q'1:Lqq}{t'3:Lqb}{L:Lqq}{j:Nat}(h0:(((isort (ltK 2) p'0).length:Nat):Int)≤(j:Int)):aC Tp 7 rA (eT dl sk dc ov p'0 q'1 t'3 L.length (L.flatten.map aA) j) (.exit 2) (eT dl sk dc ov p'0 q'1 t'3 L.length (L.flatten.map aA) j):=by
 exact aC.fin (g:=⟨(rng [(0,4),(7,40),(49,35)]),[7,8],[],[]⟩) (o:=[bF]) (l:=[_]) (by kernel_rfl) (gc (bG h0) gn)
theorem bTk{dl:Int}{sk dc R0:Lqq}{T1:Lqb}(h0:cB dl sk dc)(h1:bTi dl (aB sk) (aB dc) bW R0 ([]:Lqb) T1){base:Nat}:FV Tp 28 [(.p (.agg (cL dl sk dc)))] base (.tup [(.own base),(pI 0)]) [(base,(.row 48 R0.length (R0.flatten.map aA)))]:=by
 exact FV.fin Tryz.func28 rfl (o:=[.c (.tup [(.rp (aH dl (aB sk) (aB dc)) 0),(pI 0)]) [],bF,.c (.agg (kVL 5 6 1 3 7 2)) [(1,(vB0 dl (aB sk) (aB dc))),(2,(.box 33 [(.p bW)])),(3,(.box 139 (kVL 5 6 1 3 7 2))),(4,(.mp (aE ([]:Lqb)) 0)),(5,(.box 207 [(.mp 4)])),(6,(vB5 dl (aB sk) (aB dc))),(7,(.box 209 [(.fn 153 [] [(.ptr 1 0),(.ptr 3 0)])]))],.c (.own 8) [(1,(vB0 dl (aB sk) (aB dc))),(2,(.box 33 [(.p bW)])),(3,(.box 139 (kVL 5 6 1 3 7 2))),(4,(.mp (aE T1) T1.length)),(5,(.box 207 [(.mp 4)])),(6,(vB5 dl (aB sk) (aB dc))),(7,(.box 209 [(.fn 153 [] [(.ptr 1 0),(.ptr 3 0)])])),(8,(.row 48 R0.length (R0.flatten.map aA)))]]) (l:=[FC Tp 86 [(.rp (aH dl (aB sk) (aB dc)) 0),(.agg (kVL 5 6 1 3 7 2))] [(5,(.box 207 [(.mp 4)])),(6,(vB5 dl (aB sk) (aB dc))),(1,(vB0 dl (aB sk) (aB dc))),(3,(.box 139 (kVL 5 6 1 3 7 2))),(7,(.box 209 [(.fn 153 [] [(.ptr 1 0),(.ptr 3 0)])])),(2,(.box 33 [(.p bW)])),(4,(.mp (aE ([]:Lqb)) 0))] 8 (.own 8) [(1,(vB0 dl (aB sk) (aB dc))),(2,(.box 33 [(.p bW)])),(3,(.box 139 (kVL 5 6 1 3 7 2))),(4,(.mp (aE T1) T1.length)),(5,(.box 207 [(.mp 4)])),(6,(vB5 dl (aB sk) (aB dc))),(7,(.box 209 [(.fn 153 [] [(.ptr 1 0),(.ptr 3 0)])])),(8,(.row 48 R0.length (R0.flatten.map aA)))],FC Tp 87 [(.rp (aH dl (aB sk) (aB dc)) 0),(.p bW)] [] 1 (.agg (kVL 5 6 1 3 7 2)) [(1,(vB0 dl (aB sk) (aB dc))),(2,(.box 33 [(.p bW)])),(3,(.box 139 (kVL 5 6 1 3 7 2))),(4,(.mp (aE ([]:Lqb)) 0)),(5,(.box 207 [(.mp 4)])),(6,(vB5 dl (aB sk) (aB dc))),(7,(.box 209 [(.fn 153 [] [(.ptr 1 0),(.ptr 3 0)])]))],_,_]) (by kernel_rfl) (gc (FMM.fc (ids:=[1,2,3,4,5,6,7]) h1 (by kernel_rfl)) (gc (FMM.fcN (k:=7) rfl (ids:=[]) (zA (dl:=dl) (sk:=(aB sk)) (dc:=(aB dc))) (by kernel_rfl)) (gc bGc (gc (fk 1 (jT dl sk dc h0) rfl) gn))))
theorem bTl{n:Int}{q:List Int}{r0:Bool}(h0:q.length≤1000)(er0:r0=(q.contains n)){base:Nat}:FV Tp 85 [(pI n),(.rp [(aG q)] 0)] base (pB r0) []:=by
 subst er0;exact FV.fin Tryz.func85 rfl (o:=[.x (aG q),.c (pB (q.contains n)) []]) (l:=[_,[(aG q)][0]? = some (aG q)]) (by kernel_rfl) (gc (fk 0 (pC q n h0) rfl) (gc rfl gn))
theorem bTm(n:Int)(q:List Int)(hq:q.length≤1000){base:Nat}:FV Tp 85 [.p (aA n),.rp [aG q] 0] base (pB (ocB q n)) []:=bTl hq rfl
theorem bLx{x:Int}{q:List Int}{r0:Bool}(h0:q.length≤1000)(er0:r0=(!(ocB q x))):FMM Tp 150 [(pI x),(.ptr 0 0)] [some (.box 96 [(.fn 85 [] [(.rp [(aG q)] 0)])])] (pB r0) [some (.box 96 [(.fn 85 [] [(.rp [(aG q)] 0)])])]:=by
 subst er0;exact FMM.fin (k:=1) (g:=⟨[],[],[],[]⟩) rfl Tryz.func150 rfl (o:=[.c (pB (ocB q x)) []]) (l:=[_]) (by kernel_rfl) (gc (fk 1 (bTm x q h0) rfl) gn)
theorem aTh(x:Int)(q:List Int)(he:q.length≤1000):FMM Tp 150 [(pI x),.ptr 0 0] [some (.box 96 [(.fn 85 [] [(.rp [(aG q)] 0)])])] (pB (!(ocB q x))) [some (.box 96 [(.fn 85 [] [(.rp [(aG q)] 0)])])]:=bLx he rfl
def fT(l:List Int)(q:List Int)(i:Nat):St:=⟨fr 19 [(0,(.p (aG l))),(1,(.fn 150 [] [(.ptr 0 0)])),(7,(pI (l.length:Int))),(8,(pI (i:Int)))],[some (.box 96 [(.fn 85 [] [(.rp [(aG q)] 0)])])]⟩
theorem bLy{l q:List Int}{i'0:Nat}(hl0:aI Tp 1 wW (fT l q 0) (.exit 0) (fT l q i'0)):FMM Tp 129 [(.p (aG l)),(.fn 150 [] [(.ptr 0 0)])] [some (.box 96 [(.fn 85 [] [(.rp [(aG q)] 0)])])] (pI (-1:Int)) [some (.box 96 [(.fn 85 [] [(.rp [(aG q)] 0)])])]:=by
 exact FMM.fin (k:=1) (g:=⟨[],[],[],[]⟩) rfl Tryz.func129 rfl (o:=[.k 6 ⟨(rng [(2,5),(9,10)]),[],[],[]⟩ (.exit 0) (fT l q i'0)]) (l:=[_]) (by kernel_rfl) (gc hl0.code gn)
theorem bLz{l q:List Int}{i'0:Nat}(hl0:aI Tp 1 wW (fT l q 0) .ret (cF (fT l q i'0) [(4,(pI (i'0:Int)))])):FMM Tp 129 [(.p (aG l)),(.fn 150 [] [(.ptr 0 0)])] [some (.box 96 [(.fn 85 [] [(.rp [(aG q)] 0)])])] (pI (i'0:Int)) [some (.box 96 [(.fn 85 [] [(.rp [(aG q)] 0)])])]:=by
 exact FMM.fin (k:=1) (g:=⟨[],[],[],[]⟩) rfl Tryz.func129 rfl (o:=[.k 6 ⟨(rng [(2,5),(9,10)]),[],[],[]⟩ .ret (cF (fT l q i'0) [(4,(pI (i'0:Int)))])]) (l:=[_]) (by kernel_rfl) (gc hl0.code gn)
theorem aQn{l q:List Int}{i:Nat}{x100:Int}(h0:(i:Int)<(l.length:Int))(h1:l[i]? = some x100)(h2:q.length≤1000)(h3:(ocB q x100)=false):aC Tp 1 wW (fT l q i) .ret (cF (fT l q i) [(4,(pI (i:Int)))]):=by
 exact aC.fin (g:=⟨(rng [(2,2),(5,2),(9,10)]),[],[],[]⟩) (o:=[bT,.x (aA x100),.c (pB (!(ocB q x100))) [(0,(.box 96 [(.fn 85 [] [(.rp [(aG q)] 0)])]))],bT]) (l:=[_,FC Tp 150 [(pI x100),(.ptr 0 0)] [(0,(.box 96 [(.fn 85 [] [(.rp [(aG q)] 0)])]))] 1 (pB (!(ocB q x100))) [(0,(.box 96 [(.fn 85 [] [(.rp [(aG q)] 0)])]))],_,_,_]) (by kernel_rfl) (gc (bU h3) (gc (FMM.fc (ids:=[0]) (aTh x100 q h2) (by kernel_rfl)) (gc (atm aA h1) (gc (ixn aA h1) (gc (aY h0) gn)))))
theorem aQo{l q:List Int}{i:Nat}{x100:Int}{i':Nat}(h0:(i:Int)<(l.length:Int))(h1:l[i]? = some x100)(h2:q.length≤1000)(h3:(ocB q x100)=true)(h4:inR (((i+1):Nat):Int))(ei':i'=(i+1)):aC Tp 1 wW (fT l q i) .normal (fT l q i'):=by
 subst ei';exact aC.fin (g:=⟨(rng [(2,5),(9,10)]),[],[],[]⟩) (o:=[bT,.x (aA x100),.c (pB (!(ocB q x100))) [(0,(.box 96 [(.fn 85 [] [(.rp [(aG q)] 0)])]))],bF]) (l:=[_,_,FC Tp 150 [(pI x100),(.ptr 0 0)] [(0,(.box 96 [(.fn 85 [] [(.rp [(aG q)] 0)])]))] 1 (pB (!(ocB q x100))) [(0,(.box 96 [(.fn 85 [] [(.rp [(aG q)] 0)])]))],_,_,_]) (by kernel_rfl) (gc h4 (gc (aV h3) (gc (FMM.fc (ids:=[0]) (aTh x100 q h2) (by kernel_rfl)) (gc (atm aA h1) (gc (ixn aA h1) (gc (aY h0) gn))))))
theorem aQp{l q:List Int}{i:Nat}(h0:(l.length:Int)≤(i:Int)):aC Tp 1 wW (fT l q i) (.exit 0) (fT l q i):=by
 exact aC.fin (g:=⟨(rng [(2,5),(9,10)]),[],[],[]⟩) (o:=[bF]) (l:=[_]) (by kernel_rfl) (gc (bG h0) gn)
theorem bMa(l:List Int)(q:List Int)(hl:l.length≤1000)(he:∀ x∈l,q.length≤1000):FMM Tp 129 [.p (aG l),(.fn 150 [] [(.ptr 0 0)])] [some (.box 96 [(.fn 85 [] [(.rp [(aG q)] 0)])])] (pI (bE (fun x => !(ocB q x)) l)) [some (.box 96 [(.fn 85 [] [(.rp [(aG q)] 0)])])]:=by
 rcases aI.find (P:=Tp) (k:=1) (b:=wW) (fun i=>fT l q i) (fun i _=>cF (fT l q i) [(4,.p (aA (i:Int)))]) (fT l q l.length) .ret (.exit 0) (by simp) (by simp) (fun x => !(ocB q x)) l
  (fun i x hx hp=>by exact aQo (by have:=bC hx;omega) hx (he _ (kQ5 hx)) (by simpa using hp) (aO (by have:=bC hx;omega)) rfl)
  (fun i x hx hp=>by exact aQn (by have:=bC hx;omega) hx (he _ (kQ5 hx)) (by simpa using hp))
  (aQp (l:=l) (i:=l.length) (by omega)) with ⟨i,x,h1,h2,h3,h4⟩ | ⟨h1,h2,h3⟩
 ·rw [jB h2];exact bLz h4
 ·rw [jC h1];exact bLy h3
theorem bMb{l q:List Int}{r0:Bool}(h0:l.length≤1000)(h1:∀ x∈l,q.length≤1000)(er0:r0=(decide ((bE (fun x => !(ocB q x)) l) ≥ (0:Int)))):FMM Tp 149 [(.p (aG l)),(.fn 150 [] [(.ptr 0 0)])] [some (.box 96 [(.fn 85 [] [(.rp [(aG q)] 0)])])] (pB r0) [some (.box 96 [(.fn 85 [] [(.rp [(aG q)] 0)])])]:=by
 subst er0;exact FMM.fin (k:=1) (g:=⟨[],[],[],[]⟩) rfl Tryz.func149 rfl (o:=[.c (pI (bE (fun x => !(ocB q x)) l)) [(0,(.box 96 [(.fn 85 [] [(.rp [(aG q)] 0)])]))]]) (l:=[FC Tp 129 [(.p (aG l)),(.fn 150 [] [(.ptr 0 0)])] [(0,(.box 96 [(.fn 85 [] [(.rp [(aG q)] 0)])]))] 1 (pI (bE (fun x => !(ocB q x)) l)) [(0,(.box 96 [(.fn 85 [] [(.rp [(aG q)] 0)])]))]]) (by kernel_rfl) (gc (FMM.fc (ids:=[0]) (bMa l q h0 h1) (by kernel_rfl)) gn)
theorem bMc(l:List Int)(q:List Int)(hl:l.length≤1000)(he:∀ x∈l,q.length≤1000):FMM Tp 149 [.p (aG l),(.fn 150 [] [(.ptr 0 0)])] [some (.box 96 [(.fn 85 [] [(.rp [(aG q)] 0)])])] (pB (l.any (fun x => !(ocB q x)))) [some (.box 96 [(.fn 85 [] [(.rp [(aG q)] 0)])])]:=bMb hl he (nW _ _).symm
theorem bTn{l q:List Int}{r0:Bool}(h0:l.length≤1000)(h1:∀ x∈l,q.length≤1000)(er0:r0=(!(l.any (fun x => !(ocB q x))))){base:Nat}:FV Tp 84 [(.p (aG l)),(.fn 85 [] [(.rp [(aG q)] 0)])] base (pB r0) []:=by
 subst er0;exact FV.fin Tryz.func84 rfl (o:=[.c (pB (l.any (fun x => !(ocB q x)))) [(0,(.box 96 [(.fn 85 [] [(.rp [(aG q)] 0)])]))]]) (l:=[FC Tp 149 [(.p (aG l)),(.fn 150 [] [(.ptr 0 0)])] [(0,(.box 96 [(.fn 85 [] [(.rp [(aG q)] 0)])]))] 1 (pB (l.any (fun x => !(ocB q x)))) [(0,(.box 96 [(.fn 85 [] [(.rp [(aG q)] 0)])]))]]) (by kernel_rfl) (gc (FMM.fc (ids:=[0]) (bMc l q h0 h1) (by kernel_rfl)) gn)
theorem bTo(l:List Int)(q:List Int)(hl:l.length≤1000)(he:∀ x∈l,q.length≤1000){base:Nat}:FV Tp 84 [.p (aG l),(.fn 85 [] [(.rp [(aG q)] 0)])] base (pB (l.all (ocB q))) []:=bTn hl he (by rw [List.all_eq_not_any_not])
def gQ(dl:Int)(sk:Lqq)(dc:Lqq)(u:List Int)(i:Int):St:=⟨fr 45 [(1,(.p (aG u))),(6,(.rp (aH dl (aB sk) (aB dc)) 0)),(9,(pI i))],[]⟩
theorem bTp{u:List Int}{i'0:Int}{R1:Lqq}{T2:Lqb}(h0:cB dl sk dc)(h1:cI (aB dc))(h2:u.length≤1000)(h3:∀ x∈u,(aP dl (aB dc)).length≤1000)(h4:(u.all (ocB (aP dl (aB dc))))=true)(hl5:aI Tp 0 aIe (gQ dl sk dc u (1:Int)) (.exit 0) (gQ dl sk dc u i'0))(h6:bTi dl (aB sk) (aB dc) (aG u) R1 ([]:Lqb) T2){base:Nat}:FV Tp 21 [(.p (.agg (cL dl sk dc))),(.p (aG u))] base (.tup [(.own base),(pI 0)]) [(base,(.row 48 R1.length (R1.flatten.map aA)))]:=by
 exact FV.fin Tryz.func21 rfl (o:=[.c (.tup [(.rp (aH dl (aB sk) (aB dc)) 0),(pI 0)]) [],bF,.c (.own 1) [(1,(.row 3 ((aP dl (aB dc)).length) ((aP dl (aB dc)).map aA)))],.g 2 ⟨[],[0],[1,2],[]⟩,.c (pB (u.all (ocB (aP dl (aB dc))))) [],bF,.k 4 ⟨(rng [(0,1),(2,4),(7,2),(10,30)]),[],[],[]⟩ (.exit 0) (gQ dl sk dc u i'0),.c fU (vU dl (aB sk) (aB dc) (aG u) ([]:Lqb)),.c (.own 7) [(0,(vB0 dl (aB sk) (aB dc))),(1,(.box 33 [(.p (aG u))])),(2,vB2),(3,(.mp (aE T2) T2.length)),(4,(.box 207 [(.mp 3)])),(5,(vB5 dl (aB sk) (aB dc))),(6,vB6),(7,(.row 48 R1.length (R1.flatten.map aA)))]]) (l:=[FC Tp 86 [(.rp (aH dl (aB sk) (aB dc)) 0),fU] [(4,(.box 207 [(.mp 3)])),(5,(vB5 dl (aB sk) (aB dc))),(0,(vB0 dl (aB sk) (aB dc))),(2,vB2),(6,vB6),(1,(.box 33 [(.p (aG u))])),(3,(.mp (aE ([]:Lqb)) 0))] 7 (.own 7) [(0,(vB0 dl (aB sk) (aB dc))),(1,(.box 33 [(.p (aG u))])),(2,vB2),(3,(.mp (aE T2) T2.length)),(4,(.box 207 [(.mp 3)])),(5,(vB5 dl (aB sk) (aB dc))),(6,vB6),(7,(.row 48 R1.length (R1.flatten.map aA)))],FC Tp 87 [(.rp (aH dl (aB sk) (aB dc)) 0),(.p (aG u))] [] 0 fU (vU dl (aB sk) (aB dc) (aG u) ([]:Lqb)),_,_,_,_,_,_]) (by kernel_rfl) (gc (FMM.fc (ids:=[0,1,2,3,4,5,6]) h6 (by kernel_rfl)) (gc (FMM.fcN (k:=7) rfl (ids:=[]) (pG (dl:=dl) (sk:=(aB sk)) (dc:=(aB dc)) (on:=u.length) (ol:=(u.map aA))) (by kernel_rfl)) (gc hl5.code (gc (aV h4) (gc (fk 1 (bTo u (aP dl (aB dc)) h2 h3) rfl) (gc (fk 1 (qR (dl:=dl) (sk:=(aB sk)) (dc:=(aB dc)) h1) rfl) (gc bGc (gc (fk 1 (jT dl sk dc h0) rfl) gn))))))))
theorem bBa{u:List Int}{i x100 x101:Int}(h0:i<(u.length:Int))(h1:u[i.toNat]? = some x100)(h2:0≤i)(h3:inR (i-1))(h4:u[(i-1).toNat]? = some x101)(h5:0≤(i-1))(h6:x100≤x101):aC Tp 0 aIe (gQ dl sk dc u i) .ret (cF (gQ dl sk dc u i) [(4,(.p bW)),(5,(pI 4))]):=by
 exact aC.fin (g:=⟨(rng [(0,1),(2,2),(7,2),(10,30)]),[],[],[]⟩) (o:=[bT,.x (aA x100),.x (aA x101),bT]) (l:=[_,(u.map aA)[((i-1).toNat*1)]? = some (aA x101),_,_,(u.map aA)[(i.toNat*1)]? = some (aA x100),_,_]) (by kernel_rfl) (gc (aKm h6) (gc (lS (i:=(i-1).toNat) h4) (gc (oX (g:=aA) h5 h4) (gc h3 (gc (lS (i:=i.toNat) h1) (gc (oX (g:=aA) h2 h1) (gc (aY h0) gn)))))))
theorem bBb{u:List Int}{i x100 x101 i':Int}(h0:i<(u.length:Int))(h1:u[i.toNat]? = some x100)(h2:0≤i)(h3:inR (i-1))(h4:u[(i-1).toNat]? = some x101)(h5:0≤(i-1))(h6:x101<x100)(h7:inR (i+1))(ei':i'=(i+1)):aC Tp 0 aIe (gQ dl sk dc u i) .normal (gQ dl sk dc u i'):=by
 subst ei';exact aC.fin (g:=⟨(rng [(0,1),(2,4),(7,2),(10,30)]),[],[],[]⟩) (o:=[bT,.x (aA x100),.x (aA x101),bF]) (l:=[_,_,(u.map aA)[((i-1).toNat*1)]? = some (aA x101),_,_,(u.map aA)[(i.toNat*1)]? = some (aA x100),_,_]) (by kernel_rfl) (gc h7 (gc (kP h6) (gc (lS (i:=(i-1).toNat) h4) (gc (oX (g:=aA) h5 h4) (gc h3 (gc (lS (i:=i.toNat) h1) (gc (oX (g:=aA) h2 h1) (gc (aY h0) gn))))))))
theorem aFl{u:List Int}{i:Int}(h0:(u.length:Int)≤i):aC Tp 0 aIe (gQ dl sk dc u i) (.exit 0) (gQ dl sk dc u i):=by
 exact aC.fin (g:=⟨(rng [(0,1),(2,4),(7,2),(10,30)]),[],[],[]⟩) (o:=[bF]) (l:=[_]) (by kernel_rfl) (gc (bG h0) gn)
end
section

def hZ(q:List Int)(s i:Nat):List Int:=((List.range i).filter fun j=>s / 2 ^ j % 2 == 1).map fun j=>q.getD j 0
def jE(q:List Int):Lqq:=(List.range (2 ^ q.length)).map fun s=>hZ q s q.length

theorem bLm{l:Nat}{q:List Int}(h0:0≤(q.length:Int)∧(q.length:Int)≤60∧IntKind.i64 = .i64)(h1:inR ((1:Int)*2 ^ ((q.length:Int).toNat))):eB Tp 0 (sub (cd Tryz.f182) [0]) ⟨fr 35 [(0,(.yld l)),(1,(.rp [(aG q)] 0))],[]⟩ .normal ⟨fr 35 [(0,(.yld l)),(1,(.rp [(aG q)] 0)),(8,(pI ((1:Int)*2 ^ ((q.length:Int).toNat)))),(9,(pI 0))],[]⟩:=by
 exact eB.fin (g:=⟨(rng [(2,6),(10,25)]),[],[],[]⟩) (o:=[.x (aG q)]) (l:=[_,_,[(aG q)][0]? = some (aG q)]) (by kernel_rfl) (gc h1 (gc h0 (gc rfl gn)))
theorem bLn{l:Nat}{q:List Int}{n8:Int}{s:Nat}:eB Tp 0 (sub (cd Tryz.f182) [1,0,0,0]) ⟨fr 35 [(0,(.yld l)),(1,(.rp [(aG q)] 0)),(8,(pI n8)),(9,(pI (s:Int)))],[]⟩ .normal ⟨fr 35 [(0,(.yld l)),(1,(.rp [(aG q)] 0)),(8,(pI n8)),(9,(pI (s:Int))),(10,(pB (decide ((s:Int)<n8))))],[]⟩:=by
 exact eB.fin (g:=⟨(rng [(2,6),(11,24)]),[],[],[]⟩) (o:=[]) (l:=[]) (by kernel_rfl) (gn)
theorem bLo{l:Nat}{q:List Int}{n8:Int}{s:Nat}:eB Tp 0 (sub (cd Tryz.f182) [1,0,0,1,1,0,0,0]) ⟨fr 35 [(0,(.yld l)),(1,(.rp [(aG q)] 0)),(8,(pI n8)),(9,(pI (s:Int)))],[]⟩ .normal ⟨fr 35 [(0,(.yld l)),(1,(.rp [(aG q)] 0)),(3,(pI (s:Int))),(8,(pI n8)),(9,(pI (s:Int)))],[]⟩:=by
 exact eB.fin (g:=⟨(rng [(2,1),(4,4),(10,25)]),[],[],[]⟩) (o:=[]) (l:=[]) (by kernel_rfl) (gn)
theorem bLp{l:Nat}{q:List Int}{n8:Int}{s:Nat}:eB Tp 0 (sub (cd Tryz.f182) [1,0,0,1,1,0,0,1,0]) ⟨fr 35 [(0,(.yld l)),(1,(.rp [(aG q)] 0)),(3,(pI (s:Int))),(8,(pI n8)),(9,(pI (s:Int)))],[]⟩ .normal ⟨fr 35 [(0,(.yld l)),(1,(.rp [(aG q)] 0)),(3,(pI (s:Int))),(4,(.p bW)),(8,(pI n8)),(9,(pI (s:Int)))],[]⟩:=by
 exact eB.fin (g:=⟨(rng [(2,1),(5,3),(10,25)]),[],[],[]⟩) (o:=[]) (l:=[]) (by kernel_rfl) (gn)
theorem bLq{l:Nat}{q:List Int}{n8:Int}{s:Nat}:eB Tp 0 (sub (cd Tryz.f182) [1,0,0,1,1,0,0,1,1,0,0]) ⟨fr 35 [(0,(.yld l)),(1,(.rp [(aG q)] 0)),(3,(pI (s:Int))),(4,(.p bW)),(8,(pI n8)),(9,(pI (s:Int)))],[]⟩ .normal ⟨fr 35 [(0,(.yld l)),(1,(.rp [(aG q)] 0)),(3,(pI (s:Int))),(4,(.own 0)),(8,(pI n8)),(9,(pI (s:Int))),(13,(pI (q.length:Int))),(14,(pI 0))],[some (.row 3 0 [])]⟩:=by
 exact eB.fin (g:=⟨(rng [(2,1),(5,3),(10,3),(15,20)]),[0],[],[(4,3)]⟩) (o:=[.x (aG q)]) (l:=[[(aG q)][0]? = some (aG q)]) (by kernel_rfl) (gc rfl gn)
theorem bLr{l:Nat}{q:List Int}{n8:Int}{s:Nat}{o:List Int}{i:Nat}:eB Tp 0 (sub (cd Tryz.f182) [1,0,0,1,1,0,0,1,1,0,1,0,0,0]) ⟨fr 35 [(0,(.yld l)),(1,(.rp [(aG q)] 0)),(3,(pI (s:Int))),(4,(.own 0)),(8,(pI n8)),(9,(pI (s:Int))),(13,(pI (q.length:Int))),(14,(pI (i:Int)))],[some (.row 3 o.length (o.map aA))]⟩ .normal ⟨fr 35 [(0,(.yld l)),(1,(.rp [(aG q)] 0)),(3,(pI (s:Int))),(4,(.own 0)),(8,(pI n8)),(9,(pI (s:Int))),(13,(pI (q.length:Int))),(14,(pI (i:Int))),(15,(pB (decide ((i:Int)<(q.length:Int)))))],[some (.row 3 o.length (o.map aA))]⟩:=by
 exact eB.fin (g:=⟨(rng [(2,1),(5,3),(10,3),(16,19)]),[0],[],[]⟩) (o:=[]) (l:=[]) (by kernel_rfl) (gn)
theorem bLs{l:Nat}{q:List Int}{n8:Int}{s:Nat}{o:List Int}{i:Nat}:eB Tp 0 (sub (cd Tryz.f182) [1,0,0,1,1,0,0,1,1,0,1,0,0,1,1,0,0,0]) ⟨fr 35 [(0,(.yld l)),(1,(.rp [(aG q)] 0)),(3,(pI (s:Int))),(4,(.own 0)),(8,(pI n8)),(9,(pI (s:Int))),(13,(pI (q.length:Int))),(14,(pI (i:Int)))],[some (.row 3 o.length (o.map aA))]⟩ .normal ⟨fr 35 [(0,(.yld l)),(1,(.rp [(aG q)] 0)),(3,(pI (s:Int))),(4,(.own 0)),(5,(pI (i:Int))),(8,(pI n8)),(9,(pI (s:Int))),(13,(pI (q.length:Int))),(14,(pI (i:Int)))],[some (.row 3 o.length (o.map aA))]⟩:=by
 exact eB.fin (g:=⟨(rng [(2,1),(6,2),(10,3),(15,20)]),[0],[],[]⟩) (o:=[]) (l:=[]) (by kernel_rfl) (gn)
theorem bLt{l:Nat}{q:List Int}{n8:Int}{s:Nat}{o:List Int}{i:Nat}(h0:0≤((s:Int).fdiv (2 ^ min ((i:Int).toNat) (IntKind.bits .i64)))∧((s:Int).fdiv (2 ^ min ((i:Int).toNat) (IntKind.bits .i64)))≤9223372036854775807∧(1:Int)=1∧IntKind.i64 = .i64):eB Tp 0 (sub (cd Tryz.f182) [1,0,0,1,1,0,0,1,1,0,1,0,0,1,1,0,0,1,0]) ⟨fr 35 [(0,(.yld l)),(1,(.rp [(aG q)] 0)),(3,(pI (s:Int))),(4,(.own 0)),(5,(pI (i:Int))),(8,(pI n8)),(9,(pI (s:Int))),(13,(pI (q.length:Int))),(14,(pI (i:Int)))],[some (.row 3 o.length (o.map aA))]⟩ .normal ⟨fr 35 [(0,(.yld l)),(1,(.rp [(aG q)] 0)),(3,(pI (s:Int))),(4,(.own 0)),(5,(pI (i:Int))),(8,(pI n8)),(9,(pI (s:Int))),(13,(pI (q.length:Int))),(14,(pI (i:Int))),(21,(pB ((((s:Int).fdiv (2 ^ min ((i:Int).toNat) (IntKind.bits .i64))) % 2) == (1:Int))))],[some (.row 3 o.length (o.map aA))]⟩:=by
 exact eB.fin (g:=⟨(rng [(2,1),(6,2),(10,3),(15,6),(22,13)]),[0],[],[]⟩) (o:=[]) (l:=[_,0≤(i:Int)]) (by kernel_rfl) (gc h0 (gc (kQ2 _) gn))
theorem bLu{l:Nat}{q:List Int}{n8:Int}{s:Nat}{o:List Int}{i:Nat}{x0:Int}(h0:q[i]? = some x0)(h1:[(aA x0)].length=1*1∧o.length+1≤1000000):eB Tp 0 (sub (cd Tryz.f182) [1,0,0,1,1,0,0,1,1,0,1,0,0,1,1,0,0,1,1,0]) ⟨fr 35 [(0,(.yld l)),(1,(.rp [(aG q)] 0)),(3,(pI (s:Int))),(4,(.own 0)),(5,(pI (i:Int))),(8,(pI n8)),(9,(pI (s:Int))),(13,(pI (q.length:Int))),(14,(pI (i:Int)))],[some (.row 3 o.length (o.map aA))]⟩ .normal ⟨fr 35 [(0,(.yld l)),(1,(.rp [(aG q)] 0)),(3,(pI (s:Int))),(4,(.own 0)),(8,(pI n8)),(9,(pI (s:Int))),(13,(pI (q.length:Int))),(14,(pI (i:Int)))],[some (.row 3 (o.length+1) ((o.map aA)++[(aA x0)]))]⟩:=by
 exact eB.fin (g:=⟨(rng [(2,1),(5,3),(10,3),(15,20)]),[2],[],[]⟩) (o:=[.x (aG q),.x (aA x0)]) (l:=[_,_,_,[(aG q)][0]? = some (aG q)]) (by kernel_rfl) (gc h1 (gc (atm aA h0) (gc (ixn aA h0) (gc rfl gn))))
theorem bLv{l:Nat}{q:List Int}{n8:Int}{s:Nat}{o:List Int}{i:Nat}(h0:inR (((i+1):Nat):Int)):eB Tp 0 (sub (cd Tryz.f182) [1,0,0,1,1,0,0,1,1,0,1,0,0,1,1,1]) ⟨fr 35 [(0,(.yld l)),(1,(.rp [(aG q)] 0)),(3,(pI (s:Int))),(4,(.own 0)),(8,(pI n8)),(9,(pI (s:Int))),(13,(pI (q.length:Int))),(14,(pI (i:Int)))],[some (.row 3 o.length (o.map aA))]⟩ .normal ⟨fr 35 [(0,(.yld l)),(1,(.rp [(aG q)] 0)),(3,(pI (s:Int))),(4,(.own 0)),(8,(pI n8)),(9,(pI (s:Int))),(13,(pI (q.length:Int))),(14,(pI (((i+1):Nat):Int)))],[some (.row 3 o.length (o.map aA))]⟩:=by
 exact eB.fin (g:=⟨(rng [(2,1),(5,3),(10,3),(15,20)]),[0],[],[]⟩) (o:=[]) (l:=[_]) (by kernel_rfl) (gc h0 gn)
theorem bLw{l:Nat}{q:List Int}{n8:Int}{s:Nat}(h0:inR (((s+1):Nat):Int)):eB Tp 0 (sub (cd Tryz.f182) [1,0,0,1,1,1]) ⟨fr 35 [(0,(.yld l)),(1,(.rp [(aG q)] 0)),(8,(pI n8)),(9,(pI (s:Int)))],[]⟩ .normal ⟨fr 35 [(0,(.yld l)),(1,(.rp [(aG q)] 0)),(8,(pI n8)),(9,(pI (((s+1):Nat):Int)))],[]⟩:=by
 exact eB.fin (g:=⟨(rng [(2,6),(10,25)]),[],[],[]⟩) (o:=[]) (l:=[_]) (by kernel_rfl) (gc h0 gn)
end
end KV
end Go.Proofs
section
namespace Go.Proofs
open Go.RowKit
namespace KV
attribute [local go_sem] Oper.semAt_some
theorem zD(l:List (Nat × AV)):∀ (n k:Nat),(frm l n k).length=n
 | 0,_=>rfl
 | n+1,k=>by unfold frm;rw [tC,zD]
theorem aQl(l:List (Nat × AV)):∀ (n k j:Nat) (h:j<(frm l n k).length),(frm l n k)[j]=look l (k+j)
 | 0,_,j,h=>by simp [frm] at h
 | n+1,k,0,h=>rfl
 | n+1,k,j+1,h=>by
  have:=aQl l n (k+1) j (by rw [zD] at h ⊢;omega)
  rw [show k+(j+1)=k+1+j by omega]
  exact this
theorem aLs{C:Cx}{M:Mem}{w:World}{us:Array Value}:∀ {l:List (Nat × AV)},(∀ p∈l,Rep C M w p.2 (us.getD p.1 undef))→∀ j,Rep C M w (look l j) (us.getD j undef)
 | [],_,j => .any _
 | (i,x)::r,h,j=>by
  unfold look
  split
  ·rename_i hb
   rw [← Nat.eq_of_beq_eq_true hb];exact h (i,x) (kV ..)
  ·exact aLs (fun p hp=>h p (kQ7 _ hp)) j
theorem aLt{C:Cx}{M:Mem}{w:World}{us:Array Value}{n:Nat}{l:List (Nat × AV)}(hs:us.size=n)(h:∀ p∈l,Rep C M w p.2 (us.getD p.1 undef)):eC C M w (fr n l) us:=by
 refine ⟨by rw [hs,zD],fun i hi => ?_⟩
 rw [aQl,gE];exact aLs h _
theorem tN{C:Cx}{M:Mem}{w:World}{us:Array Value}{n:Nat}{l:List (Nat × AV)}(h:eC C M w (fr n l) us)(i:Nat)(hi:i<n):Rep C M w (look l i) (us.getD i undef):=by
 have:=h.rep i (by rw [zD];exact hi)
 rwa [aQl,gE] at this

section
variable {P:Program}
def InK(Cv:Cx)(V:World)(v0:Value)(st:St)(a:Act)(w:World):Prop:=Sim Tp Cv [] V st a w∧a.tmps.getD 1 undef=v0∧a.defers=[]
theorem InK.step{Cv:Cx}{V:World}{v0:Value}{c:Code}{st st':St}{a:Act}{w:World}{n:Nat}{K:Act→World→Prop}{Q:Exit→Act→World→Prop}(h:eB Tp 0 c st .normal st')(hw:wrR c 1=false)(hi:InK Cv V v0 st a w)
  (hK:∀ a' w',InK Cv V v0 st' a' w'→K a' w'):c.wpIn (Fen none) n Tp (Exit.then K Q) a w :=
 wpIn_mono (h Cv [] V a w (by simp) hi.1 none n) fun e a' w' hq=>by
  obtain ⟨he,hs,hk⟩:=hq;subst he;exact hK a' w' ⟨hs,(hk.1 1 hw).trans hi.2.1,hk.2.trans hi.2.2⟩
end
noncomputable abbrev cO:Code:=cd Tryz.f182
abbrev stA(l:Nat)(q:List Int)(n8:Int)(s:Nat):St:=⟨fr 35 [(0,.yld l),(1,.rp [aG q] 0),(8,.p (aA n8)),(9,.p (aA (s:Int)))],[]⟩
abbrev stB(l:Nat)(q:List Int)(n8:Int)(s:Nat)(o:List Int)(i:Nat):St:=⟨fr 35 [(0,.yld l),(1,.rp [aG q] 0),(3,.p (aA (s:Int))),(4,.own 0),(8,.p (aA n8)),(9,.p (aA (s:Int))),(13,.p (aA (q.length:Int))),(14,.p (aA (i:Int)))],[some (.row 3 o.length (o.map aA))]⟩
theorem bAr(q:List Int)(s i:Nat):hZ q s (i+1)=hZ q s i++if s / 2 ^ i % 2 == 1 then [q.getD i 0] else []:=by
 unfold hZ;rw [List.range_succ,rU,gI]
 congr 1
 cases h:s / 2 ^ i % 2 == 1 <;> simp [h]
theorem aLu(q:List Int)(s i:Nat):(hZ q s i).length≤i:=by
 unfold hZ;rw [kQ9];have:=wD (fun j=>s / 2 ^ j % 2 == 1) (List.range i)
 rwa [aNy] at this
theorem bLl(s i:Nat)(hi:i≤60):(s:Int).fdiv (2 ^ min ((i:Int).toNat) (IntKind.bits .i64))=((s / 2 ^ i:Nat):Int):=by
 have hb:IntKind.bits .i64=64:=rfl;rw [aNz,hb,Nat.min_eq_left (by omega),Int.fdiv_eq_ediv_of_nonneg _ (by exact_mod_cast Nat.zero_le _)]
 push_cast
 rfl
theorem bFx{Cv:Cx}{V:World}{v0:Value}{l:Nat}{q:List Int}{n8:Int}{s:Nat}(hq:q.length≤60)(hs:s≤9223372036854775807){n:Nat}{K:Act→World→Prop}{Q:Exit→Act→World→Prop}{a:Act}{w:World}
  (hi:InK Cv V v0 (stB l q n8 s [] 0) a w) (hK:∀ a' w',InK Cv V v0 (stB l q n8 s (hZ q s q.length) q.length) a' w'→K a' w') :
  (Code.block 2 (.loop (sub cO [1,0,0,1,1,0,0,1,1,0,1,0,0]))).wpIn (Fen none) n Tp (Exit.then K Q) a w:=by
 refine wpIn_block ?_;refine wpIn_loop_ghost (fun k a w=>∃ i,i≤q.length∧k=q.length-i∧InK Cv V v0 (stB l q n8 s (hZ q s i) i) a w) q.length ⟨0,by omega,by omega,hi⟩ ?_
 rintro k a w ⟨i,hil,rfl,hI⟩;have e1:sub cO [1,0,0,1,1,0,0,1,1,0,1,0,0] = .seq (sub cO [1,0,0,1,1,0,0,1,1,0,1,0,0,0]) (.seq (.cond (.tmp 15) .skip (.exit 2)) (.seq (.block 3 (.seq (sub cO [1,0,0,1,1,0,0,1,1,0,1,0,0,1,1,0,0,0]) (.seq (sub cO [1,0,0,1,1,0,0,1,1,0,1,0,0,1,1,0,0,1,0]) (.cond (.tmp 21) (sub cO [1,0,0,1,1,0,0,1,1,0,1,0,0,1,1,0,0,1,1,0]) .skip)))) (sub cO [1,0,0,1,1,0,0,1,1,0,1,0,0,1,1,1]))):=by kernel_rfl
 rw [e1];refine wpIn_seq ?_;refine InK.step bLr (by kernel_rfl) hI fun a1 w1 h1 => ?_
 refine wpIn_seq ?_;obtain ⟨⟨C1,hS1,_⟩,_⟩:=id h1;have hc15:a1.eval (.tmp 15) = .bool (decide ((i:Int)<(q.length:Int))):=by
  have:=tN hS1 15 (by omega)
  show a1.tmps.getD 15 undef=_;generalize a1.tmps.getD 15 undef=u at this
  have h2:Rep C1 _ w1 (.p (.v (.bool (decide ((i:Int)<(q.length:Int)))))) u:=this;cases h2 with
  | p _ _ h=>cases h;rfl
 by_cases hlt:i<q.length
 ·refine wpIn_cond_true (by rw [hc15,decide_eq_true (by omega)]) (wpIn_skip ?_)
  show Code.wpIn _ _ _ _ _ _ _;have h1':InK Cv V v0 (stB l q n8 s (hZ q s i) i) a1 w1:=⟨(eJ (g:=⟨[15],[0],[],[]⟩) (k:=0) (dU _) (by kernel_rfl) h1.1),h1.2⟩
  refine wpIn_seq ?_;have hsd:=bLl s i (by omega)
  have hx:q[i]? = some (q.getD i 0):=by rw [kQ4,kQ0 hlt];rfl
  have hpl:=aLu q s i;have hfin:∀ a2 w2,InK Cv V v0 (stB l q n8 s (hZ q s (i+1)) i) a2 w2→(sub cO [1,0,0,1,1,0,0,1,1,0,1,0,0,1,1,1]).wpIn (Fen none) n Tp (Exit.then (fun a' w'=>∃ n',n'<q.length-i∧∃ i',i'≤q.length∧n'=q.length-i'∧InK Cv V v0 (stB l q n8 s (hZ q s i') i') a' w') (Exit.inBlock 2 (Exit.then K Q))) a2 w2:=fun a2 w2 h2 =>
   InK.step (bLv (aO (by omega))) (by kernel_rfl) h2 fun a3 w3 h3=>⟨q.length-(i+1),by omega,i+1,by omega,rfl,h3⟩
  refine wpIn_block ?_;refine wpIn_seq ?_;refine InK.step bLs (by kernel_rfl) h1' fun a2 w2 h2 => ?_
  refine wpIn_seq ?_;have hle:s / 2 ^ i≤s:=Nat.div_le_self _ _;refine InK.step (bLt (s:=s) (i:=i) ⟨by rw [hsd];exact kQ2 _,by rw [hsd];exact Int.ofNat_le.2 (gJ hle hs),rfl,rfl⟩) (by kernel_rfl) h2 fun a3 w3 h3 => ?_
  obtain ⟨⟨C3,hS3,_⟩,_⟩:=id h3;have hc21:a3.eval (.tmp 21) = .bool (s / 2 ^ i % 2 == 1):=by
   have:=tN hS3 21 (by omega)
   show a3.tmps.getD 21 undef=_;generalize a3.tmps.getD 21 undef=u at this
   have h2:Rep C3 _ w3 (.p (.v (.bool (((s:Int).fdiv (2 ^ min ((i:Int).toNat) (IntKind.bits .i64))) % 2 == 1)))) u:=this;cases h2 with
   | p _ _ h =>
    cases h;rw [hsd]
    congr 1
    generalize s / 2 ^ i=z;rw [Bool.eq_iff_iff,beq_iff_eq,beq_iff_eq];omega
  have h3':InK Cv V v0 ⟨fr 35 [(0,.yld l),(1,.rp [aG q] 0),(3,.p (aA (s:Int))),(4,.own 0),(5,.p (aA (i:Int))),(8,.p (aA n8)),(9,.p (aA (s:Int))),(13,.p (aA (q.length:Int))),(14,.p (aA (i:Int)))],[some (.row 3 (hZ q s i).length ((hZ q s i).map aA))]⟩ a3 w3:=⟨(eJ (g:=⟨[21],[0],[],[]⟩) (k:=0) (dU _) (by kernel_rfl) h3.1),h3.2⟩
  have hp:=bAr q s i;cases hb:s / 2 ^ i % 2 == 1 with
  | true =>
   refine wpIn_cond_true (by rw [hc21,hb]) ?_
   rw [hb,if_pos rfl] at hp
   refine wpIn_mono (bLu (o:=hZ q s i) hx ⟨rfl,by omega⟩ Cv [] V a3 w3 (by simp) h3'.1 none n) ?_
   rintro e a4 w4 ⟨rfl,h4,hk4⟩;refine hfin a4 w4 ⟨?_,(hk4.1 1 (by kernel_rfl)).trans h3'.2.1,hk4.2.trans h3'.2.2⟩
   have e8:(stB l q n8 s (hZ q s (i+1)) i)=⟨fr 35 [(0,.yld l),(1,.rp [aG q] 0),(3,.p (aA (s:Int))),(4,.own 0),(8,.p (aA n8)),(9,.p (aA (s:Int))),(13,.p (aA (q.length:Int))),(14,.p (aA (i:Int)))],[some (.row 3 ((hZ q s i).length+1) ((hZ q s i).map aA++[aA (q.getD i 0)]))]⟩:=by
    rw [hp];unfold stB;rw [mD,gI];rfl
   rw [e8];exact h4
  | false =>
   refine wpIn_cond_false (by rw [hc21,hb]) (wpIn_skip ?_)
   rw [hb,if_neg (by simp),List.append_nil] at hp
   refine hfin a3 w3 ?_;rw [hp];exact ⟨(eJ (g:=⟨[5],[0],[],[]⟩) (k:=0) (dU _) (by kernel_rfl) h3'.1),h3'.2⟩
 ·obtain rfl:i=q.length:=by omega
  refine wpIn_cond_false (by rw [hc15,decide_eq_false (by omega)]) (wpIn_exit ?_)
  show Exit.inBlock 2 (Exit.then K Q) (.exit 2) a1 w1
  unfold Exit.inBlock;dsimp only;rw [if_pos rfl];exact hK a1 w1 ⟨(eJ (g:=⟨[15],[0],[],[]⟩) (k:=0) (dU _) (by kernel_rfl) h1.1),h1.2⟩
theorem aId{a:Act}{W:World}{l id t0 t1 t2 t3:Nat}{ts:Array TypeId}{p0 p1 p2 p3:String}{f0 f1 f2 f3:Array Edge}{u:Value}{A B:World→Prop}{K:Act→World→Prop}{Q:Exit→Act→World→Prop}
  (hs:a.tmps.size=35) (h0:a.tmps.getD 0 undef = .func (.yield l) #[] #[]) (h4:a.tmps.getD 4 undef=u)
  (hy:YieldAt (Fen none) 1 Tp l #[u] W (fun e W'=>(e = .returned (.bool true)∧A W')∨(e = .returned (.bool false)∧B W')))
  (hA:∀ a' W',A W'→a'.defers=a.defers→a'.tmps.size=35→(∀ i,i<30→a'.tmps.getD i undef=a.tmps.getD i undef)→a'.tmps.getD 33 undef = .bool false→K a' W')
  (hB:∀ a' W',B W'→a'.defers=a.defers→a'.tmps.getD 33 undef = .bool true→K a' W') :
  (Code.region id #[{ dst:=some 30,op := .move (.tmp 0),type:=t0,pos:=p0,after:=f0,guard:=none },{ dst:=some 31,op := .move (.tmp 4),type:=t1,pos:=p1,after:=f1,guard:=none },
   {dst:=some 32,op := .call { callee := .value (.tmp 30),args := #[.tmp 31],argTypes:=ts },type:=t2,pos:=p2,after:=f2,guard:=none },{ dst:=some 33,op := .unOp .not 4 (.tmp 32),type:=t3,pos:=p3,after:=f3,guard:=none }] false).wpIn (Fen none) 2 Tp (Exit.then K Q) a W:=by
 refine wpIn_region_lit (wpListIn_plain rfl fun K1 hK1 => ?_)
 unfold Oper.wpIn;refine ⟨fun f _=>trivial,?_⟩
 rw [Oper.semAt_plain _ _ _ (by intro c hc';cases hc')]
 simp only [execOp,Sem.run_pure];refine hK1 _ _ (wpListIn_plain rfl fun K2 hK2 => ?_)
 unfold Oper.wpIn;refine ⟨fun f _=>trivial,?_⟩
 rw [Oper.semAt_plain _ _ _ (by intro c hc';cases hc')]
 simp only [execOp,Sem.run_pure];refine hK2 _ _ (wpListIn_plain rfl fun K3 hK3 => ?_)
 unfold Oper.wpIn;refine ⟨fun f _=>trivial,?_⟩
 rw [Oper.semAt_plain _ _ _ (by intro c hc';cases hc')]
 obtain ⟨fn,tmps,assign,body,hrun,hR⟩:=hy;have e30:(((a.put (some 30) (a.eval (.tmp 0))).put (some 31) ((a.put (some 30) (a.eval (.tmp 0))).eval (.tmp 4)))).eval (.tmp 30) = .func (.yield l) #[] #[]:=by
  show ((a.tmps.setIfInBounds 30 (a.tmps.getD 0 undef)).setIfInBounds 31 _).getD 30 undef=_;rw [h0];simp [kQ1,Array.getElem?_setIfInBounds,hs]
 have e31:(((a.put (some 30) (a.eval (.tmp 0))).put (some 31) ((a.put (some 30) (a.eval (.tmp 0))).eval (.tmp 4)))).eval (.tmp 31)=u:=by
  show ((a.tmps.setIfInBounds 30 (a.tmps.getD 0 undef)).setIfInBounds 31 ((a.tmps.setIfInBounds 30 (a.tmps.getD 0 undef)).getD 4 undef)).getD 31 undef=_;rw [← h4];simp [kQ1,Array.getElem?_setIfInBounds,hs]
 have e45:∀ i,i<30→(((a.put (some 30) (a.eval (.tmp 0))).put (some 31) ((a.put (some 30) (a.eval (.tmp 0))).eval (.tmp 4)))).tmps.getD i undef=a.tmps.getD i undef:=fun i hi=>by
  rw [oF (fun e=>by cases e;omega),oF (fun e=>by cases e;omega)]
 have eD:(((a.put (some 30) (a.eval (.tmp 0))).put (some 31) ((a.put (some 30) (a.eval (.tmp 0))).eval (.tmp 4)))).defers=a.defers:=rfl;have eS:(((a.put (some 30) (a.eval (.tmp 0))).put (some 31) ((a.put (some 30) (a.eval (.tmp 0))).eval (.tmp 4)))).tmps.size=35:=by
  show ((a.tmps.setIfInBounds _ _).setIfInBounds _ _).size=35;simp [hs]
 revert e30 e31 e45 eD eS;dsimp only;generalize (((a.put (some 30) (a.eval (.tmp 0))).put (some 31) ((a.put (some 30) (a.eval (.tmp 0))).eval (.tmp 4))))=a2;intro e30 e31 e45 eD eS;have er:Sem.run Tp (execOp a2.eval { dst:=some 32,op := .call { callee := .value (.tmp 30),args := #[.tmp 31],argTypes:=ts },type:=t2,pos:=p2,after:=f2,guard:=none }) W = .ok (.round l fn tmps assign body) W:=by
  rw [← hrun];simp only [execOp,resolve,Deferred.ofValue,e30,e31,List.map_toArray,iI,List.map_nil,Sem.run_bind,Sem.run_pure,invoke];simp
 rw [er,Oper.uponIn_round];refine ⟨fun h=>by simp [Fen,Fence.wide] at h,hR.mono ?_⟩
 have last:∀ (b:Bool) (w3:World),(∀ a',a'.defers=a.defers→a'.tmps.size=35→(∀ i,i<30→a'.tmps.getD i undef=a.tmps.getD i undef)→a'.tmps.getD 33 undef = .bool (!b)→K a' w3)→K3 (a2.put (some 32) (.bool b)) w3:=fun b w3 hfin=>by
  refine hK3 _ _ (wpListIn_plain rfl fun K4 hK4 => ?_)
  unfold Oper.wpIn;refine ⟨fun f _=>trivial,?_⟩
  rw [Oper.semAt_plain _ _ _ (by intro c hc';cases hc')]
  have e32:(a2.put (some 32) (.bool b)).eval (.tmp 32) = .bool b:=by
   show (a2.tmps.setIfInBounds 32 _).getD 32 undef=_;simp [kQ1,eS]
  have eu:Sem.run Tp (execOp (a2.put (some 32) (.bool b)).eval { dst:=some 33,op := .unOp .not 4 (.tmp 32),type:=t3,pos:=p3,after:=f3,guard:=none }) w3 = .ok (.value (.bool !b)) w3:=by
   simp only [execOp,e32];rfl
  rw [eu];refine hK4 _ _ (wpListIn_nil (hfin _ eD ?_ (fun i hi => ?_) ?_))
  ·show ((a2.tmps.setIfInBounds _ _).setIfInBounds _ _).size=35
   simp [eS]
  ·rw [oF (fun e=>by cases e;omega),oF (fun e=>by cases e;omega)]
   exact e45 i hi
  ·show ((a2.tmps.setIfInBounds 32 _).setIfInBounds 33 _).getD 33 undef=_
   simp [kQ1,eS]
 rintro e w3 (⟨rfl,h⟩ | ⟨rfl,h⟩)
 ·exact last true w3 fun a' h1 h2 h3 h4=>hA a' w3 h h1 h2 h3 h4
 ·exact last false w3 fun a' h1 h2 h3 h4=>hB a' w3 h h1 h4
end KV
end Go.Proofs
end
section
namespace Go.Proofs
open Go.RowKit
namespace KV
structure Lp (l:Nat) (v0:Value) (n8:Int) (s:Nat) (a:Act):Prop where
 size:a.tmps.size=35
 s0:a.tmps.getD 0 undef = .func (.yield l) #[] #[]
 s1:a.tmps.getD 1 undef=v0
 s8:a.tmps.getD 8 undef = .int .i64 n8
 s9:a.tmps.getD 9 undef = .int .i64 (s:Int)
 df:a.defers=[]
abbrev cxF(F:Nat→Prop):Cx:={ ι:=fun _=>none,κ:=fun _=>0,F:=F,R:=[] }
theorem aTf{P:Program}{F:Nat→Prop}{W:World}(hF:∀ b,F b→b<W.heap.size):aR P (cxF F) [] W :=
 ⟨fun _ _ _ _ h=>by simp at h,fun _ _ _ h=>by simp at h,fun _ _ _ h=>by simp at h,fun _ _ _ _ _ h=>by simp at h,fun _ _ _ h=>by simp at h,hF,fun _ _ _ h=>by simp at h⟩
theorem aLq{C:Cx}{M:Mem}{w:World}{n:Int}{u:Value}(h:Rep C M w (.p (aA n)) u):u = .int .i64 n:=by
 cases h with
 | p _ _ h=>cases h;rfl
theorem Lp.ink{F:Nat→Prop}{l:Nat}{v0:Value}{q:List Int}{n8:Int}{s:Nat}{a:Act}{W:World}(h:Lp l v0 n8 s a)(hF:∀ b,F b→b<W.heap.size)(hr:Rep (cxF F) [] W (.rp [aG q] 0) v0):InK (cxF F) W v0 (stA l q n8 s) a W:=by
 refine ⟨⟨cxF F,aLt h.size ?_,aTf hF,Fr.refl _ _ _,?_⟩,h.s1,h.df⟩
 ·intro p hp
  simp only [iO,List.not_mem_nil,or_false] at hp
  rcases hp with rfl | rfl | rfl | rfl
  ·rw [h.s0];exact .yld l
  ·rw [h.s1];exact hr
  ·rw [h.s8];exact .p _ _ (.v _)
  ·rw [h.s9];exact .p _ _ (.v _)
 ·rw [h.df];exact .nil rfl (nM rfl)
theorem InK.lp{Cv:Cx}{V W:World}{l:Nat}{v0:Value}{n8:Int}{s:Nat}{a:Act}{st:St}(h:InK Cv V v0 st a W)(h35:st.t.length=35)(e0:st.t[0]? = some (.yld l))(e8:st.t[8]? = some (.p (aA n8)))(e9:st.t[9]? = some (.p (aA (s:Int)))):Lp l v0 n8 s a:=by
 obtain ⟨⟨C,hS,_⟩,h1,hd⟩:=h;refine ⟨hS.size.trans h35,?_,h1,aLq (hS.at e8),aLq (hS.at e9),hd⟩
 have:=hS.at e0
 revert this;generalize a.tmps.getD 0 undef=u;intro this;cases this;rfl
theorem aLr{C0 C:Cx}{V W:World}{M:Mem}(h:Fr C0 [] V C M W):V.grownBy W none :=
 ⟨h.os,h.tape,h.out,h.size,fun k hk _=>h.keep k hk (fun _ _ h=>by simp at h)⟩
theorem InK.grown{Cv:Cx}{V W:World}{v0:Value}{st:St}{a:Act}(h:InK Cv V v0 st a W):V.grownBy W none:=by
 obtain ⟨⟨C,_,_,hF,_⟩,_⟩:=h;exact aLr hF
theorem InK.kp{Cv:Cx}{V W:World}{v0:Value}{st:St}{a:Act}(h:InK Cv V v0 st a W){F:Nat→Prop}(hF:∀ b,F b→b<V.heap.size):KpG F V W :=
 ⟨h.grown.size,fun b hb=>oG h.grown b (hF b hb)⟩
theorem InK.rowH{F:Nat→Prop}{V W:World}{v0:Value}{st:St}{a:Act}{o:List Int}(h:InK (cxF F) V v0 st a W)(e4:st.t[4]? = some (.own 0))(em:st.m=[some (lJ o)])(hl:o.length≤1000):bFy Tp (o,a.tmps.getD 4 undef) V W:=by
 obtain ⟨⟨C,hS,hM,hF,_⟩,_⟩:=h;refine ⟨hl,C,em ▸ hM,em ▸ hS.at e4,fun b hb => ?_⟩
 rcases hF.new 0 (lJ o) b (by rw [em];rfl) rfl hb with h | ⟨i,o',h,_⟩
 ·exact h
 ·simp at h
theorem aTg{n:Nat}(h:n≤1152921504606846977):inR (n:Int):=by unfold inR;omega
theorem bFw{n:Nat}(h:n≤60):(2:Nat) ^ n≤1152921504606846976:=gJ (Nat.pow_le_pow_right (by omega) h) (by decide)
theorem bAo(q:List Int)(s:Nat)(h:s<2 ^ q.length):(jE q).take (s+1)=(jE q).take s++[hZ q s q.length]:=by
 rw [List.take_add_one]
 congr 1
 unfold jE;rw [iG,wE h];rfl
theorem vG(q:List Int):(jE q).length=2 ^ q.length:=by unfold jE;simp
set_option maxHeartbeats 2000000 in
theorem bAp{F:Nat→Prop}{q:List Int}(hq:q.length≤60){l:Nat}{v0:Value}{w:World}(hF:∀ b,F b→b<w.heap.size)(hr:Rep (cxF F) [] w (.rp [aG q] 0) v0){a:Act}(ha:a.tmps.size=35)(ha0:a.tmps.getD 0 undef = .func (.yield l) #[] #[])(ha1:a.tmps.getD 1 undef=v0)(had:a.defers=[])
  {J Jx:List (List Int × Value)→World→Prop} (hJ:AbidesFrom w.heap.size J) (hJx:AbidesFrom w.heap.size Jx)
  (hY:∀ pre x W0 W1,J pre W0→W0.grownBy W1 none→bFy Tp x W0 W1→pre.length<2 ^ q.length→YieldAt (Fen none) 1 Tp l #[x.2] W1 fun e W' =>
   (e = .returned (.bool true)∧J (pre++[x]) W'∧KpG F W0 W')∨(e = .returned (.bool false)∧Jx (pre++[x]) W'))
  (h0:J [] w) {R:Ending→World→Prop} (hR:∀ W',((∃ xs:List (List Int × Value),xs.map (·.1)=jE q∧J xs W')∨(∃ pre:List (List Int × Value),pre.map (·.1) <+: jE q∧Jx pre W'))→R (.returned (.tuple #[])) W') :
  cO.wpIn (Fen none) 2 Tp (bodyPost Tp Tryz.f182 R) a w:=by
 have hpow:=bFw hq;obtain ⟨N,hN⟩:∃ N,2 ^ q.length=N:=⟨_,rfl⟩;rw [hN] at hpow
 have c0 : cO = .seq (sub cO [0]) (.block 0 (.loop (.seq (sub cO [1, 0, 0, 0]) (.seq (.cond (.tmp 10) .skip (.exit 0)) (.seq (.block 1 (.seq (sub cO [1, 0, 0, 1, 1, 0, 0, 0]) (.seq (sub cO [1, 0, 0, 1, 1, 0, 0, 1, 0]) (.seq (.seq (sub cO [1, 0, 0, 1, 1, 0, 0, 1, 1, 0, 0]) (.block 2 (.loop (sub cO [1, 0, 0, 1, 1, 0, 0, 1, 1, 0, 1, 0, 0])))) (.seq (.region 10 #[{ dst := some 30, op := .move (.tmp 0), type := 155, pos := "outcome.go:38", after := #[], guard := none }, { dst := some 31, op := .move (.tmp 4), type := 33, pos := "outcome.go:38", after := #[], guard := none }, { dst := some 32, op := .call { callee := .value (.tmp 30), args := #[.tmp 31], argTypes := #[33] }, type := 4, pos := "outcome.go:38", after := #[{ on := 0, ground := .data }, { on := 1, ground := .data }], guard := none }, { dst := some 33, op := .unOp .not 4 (.tmp 32), type := 4, pos := "outcome.go:38", after := #[{ on := 2, ground := .data }], guard := none }] false) (.cond (.tmp 33) .ret .skip)))))) (sub cO [1, 0, 0, 1, 1, 1])))))) := by kernel_rfl
 rw [c0];have hsame:∀ {W'},KpG F w W'→Rep (cxF F) [] W' (.rp [aG q] 0) v0:=fun hk=>by
  cases hr with
  | rp _ _ b o us h1 h2 h3 =>
   exact .rp _ _ b o us (fun i hi=>⟨(h1 i hi).1,(eH (hk.same b (h1 i hi).1) _).trans (h1 i hi).2⟩) (fun i hi=>(h2 i hi).mono (fun _ h=>h) hk.same) h3
 have hFw:∀ {W'},KpG F w W'→∀ b,F b→b<W'.heap.size:=fun hk b hb=>kQ8 (hF b hb) hk.size
 have n8e:(1:Int)*2 ^ ((q.length:Int).toNat)=(N:Int):=by
  rw [aNz,Int.one_mul,← hN];push_cast;rfl
 have hI0:InK (cxF F) w v0 ⟨fr 35 [(0,.yld l),(1,.rp [aG q] 0)],[]⟩ a w:=by
  refine ⟨⟨cxF F,aLt ha ?_,aTf hF,Fr.refl _ _ _,by rw [had];exact .nil rfl (nM rfl)⟩,ha1,had⟩
  intro p hp;simp only [iO,List.not_mem_nil,or_false] at hp
  rcases hp with rfl | rfl
  ·rw [ha0];exact .yld l
  ·rw [ha1];exact hr
 refine wpIn_seq ?_;refine InK.step (bLm (l:=l) (q:=q) ⟨by omega,by omega,rfl⟩ (by rw [n8e];exact aTg (by omega))) (by kernel_rfl) hI0 fun a1 w1 h1 => ?_
 rw [n8e] at h1
 refine wpIn_block ?_;refine wpIn_loop_ghost (fun k a W=>∃ s,s≤N∧k=N-s∧Lp l v0 (N:Int) s a∧KpG F w W∧∃ pre:List (List Int × Value),pre.map (·.1)=(jE q).take s∧J pre W) (N)
  ⟨0,by omega,by omega,h1.lp (s:=0) (by rfl) (by rfl) (by rfl) (by rfl),h1.kp hF,[],by simp,hJ [] w w1 none h0 h1.grown (fun r e=>by cases e)⟩ ?_
 rintro k a W ⟨s,hs,rfl,hL,hK,pre,hpre,hJp⟩;have hI:=hL.ink (hFw hK) (hsame hK);have grow:∀ {W0 W':World} {ys},KpG F w W0→J ys W0→W0.grownBy W' none→J ys W':=fun hk hj hg=>hJ _ _ _ none hj hg (fun r e=>by cases e)
 refine wpIn_seq ?_;refine InK.step bLn (by kernel_rfl) hI fun a2 w2 h2 => ?_
 have hc10:a2.eval (.tmp 10) = .bool (decide ((s:Int)<(N:Int))):=by
  obtain ⟨⟨C2,hS2,_⟩,_⟩:=id h2;have:=tN hS2 10 (by omega)
  show a2.tmps.getD 10 undef=_;revert this;generalize a2.tmps.getD 10 undef=u;intro this;have h3:Rep C2 _ w2 (.p (.v (.bool (decide ((s:Int)<(N:Int)))))) u:=this;cases h3 with
  | p _ _ h=>cases h;rfl
 refine wpIn_seq ?_
 by_cases hlt:s<N
 ·refine wpIn_cond_true (by rw [hc10,decide_eq_true (by omega)]) (wpIn_skip ?_)
  show Code.wpIn _ _ _ _ _ _ _;have h2':InK (cxF F) W v0 (stA l q (N:Int) s) a2 w2:=⟨(eJ (g:=⟨[10],[],[],[]⟩) (k:=0) (dU _) (by kernel_rfl) h2.1),h2.2⟩
  refine wpIn_seq ?_;refine wpIn_block ?_;refine wpIn_seq ?_;refine InK.step bLo (by kernel_rfl) h2' fun a3 w3 h3 => ?_
  refine wpIn_seq ?_;refine InK.step bLp (by kernel_rfl) h3 fun a4 w4 h4 => ?_
  refine wpIn_seq ?_;refine wpIn_seq ?_;refine InK.step bLq (by kernel_rfl) h4 fun a5 w5 h5 => ?_
  refine bFx hq (by omega) h5 fun a6 w6 h6 => ?_
  refine wpIn_seq ?_;have hL6:Lp l v0 (N:Int) s a6:=h6.lp (s:=s) (by rfl) (by rfl) (by rfl) (by rfl)
  have hpl:pre.length=s:=by
   have:=congrArg List.length hpre;rw [kQ9,mX,vG,hN] at this
   omega
  have hrow:bFy Tp (hZ q s q.length,a6.tmps.getD 4 undef) W w6:=h6.rowH (by rfl) (by rfl) (gJ (aLu q s q.length) (by omega))
  have hmap:(pre++[(hZ q s q.length,a6.tmps.getD 4 undef)]).map (·.1)=(jE q).take (s+1):=by
   rw [bAo q s (hN ▸ hlt),gI,hpre];rfl
  refine aId hL6.size hL6.s0 rfl (hY pre _ W w6 hJp h6.grown hrow (by omega)) (A:=fun W'=>J (pre++[(hZ q s q.length,a6.tmps.getD 4 undef)]) W'∧KpG F W W') (B:=fun W'=>Jx (pre++[(hZ q s q.length,a6.tmps.getD 4 undef)]) W') ?_ ?_
  ·rintro a7 w7 ⟨hj7,hk7⟩ hd7 hs7 hl7 h33
   refine wpIn_cond_false h33 (wpIn_skip ?_);show Code.wpIn _ _ _ _ _ _ _;have hL7:Lp l v0 (N:Int) s a7:=⟨hs7,(hl7 0 (by omega)).trans hL6.s0,(hl7 1 (by omega)).trans hL6.s1,(hl7 8 (by omega)).trans hL6.s8,(hl7 9 (by omega)).trans hL6.s9,hd7.trans hL6.df⟩
   have hK7:=hK.trans hk7;refine InK.step (bLw (aTg (by omega))) (by kernel_rfl) (hL7.ink (hFw hK7) (hsame hK7)) fun a8 w8 h8 => ?_
   exact ⟨N-(s+1),by omega,s+1,by omega,rfl,h8.lp (by rfl) (by rfl) (by rfl) (by rfl),hK7.trans (h8.kp (hFw hK7)),_,hmap,grow hK7 hj7 h8.grown⟩
  ·rintro a7 w7 hj7 hd7 h33
   refine wpIn_cond_true h33 (wpIn_ret ?_);exact bodyPost_ret (results_none rfl _ _ _) (hd7.trans hL6.df) (hR _ (.inr ⟨_,by rw [hmap];exact List.take_prefix _ _,hj7⟩))
 ·have hsN:s=N:=by omega
  subst hsN;refine wpIn_cond_false (by rw [hc10,decide_eq_false (by omega)]) (wpIn_exit ?_)
  have hL2:Lp l v0 (s:Int) s a2:=h2.lp (by rfl) (by rfl) (by rfl) (by rfl)
  show Exit.inBlock 0 (bodyPost Tp Tryz.f182 R) (.exit 0) a2 w2;unfold Exit.inBlock;dsimp only;rw [if_pos rfl];refine ⟨hL2.df,_,results_none rfl _ _ _,hR _ (.inl ⟨pre,?_,grow hK hJp h2.grown⟩)⟩;rw [hpre,← hN,← vG,List.take_length]
theorem bVm{C:Cx}{M:Mem}{w:World}{cs:List PV}{k:Nat}{u:Value}(h:Rep C M w (.rp cs k) u):Rep (cxF C.F) [] w (.rp cs k) u:=by
 cases h with
 | rp _ _ b o us h1 h2 h3=>exact .rp _ _ b o us h1 h2 h3
theorem bVn{F:Nat→Prop}{w W:World}{cs:List PV}{k:Nat}{u:Value}(h:Rep (cxF F) [] w (.rp cs k) u)(hk:KpG F w W):Rep (cxF F) [] W (.rp cs k) u:=by
 cases h with
 | rp _ _ b o us h1 h2 h3=>exact .rp _ _ b o us (fun i hi=>⟨(h1 i hi).1,(eH (hk.same b (h1 i hi).1) _).trans (h1 i hi).2⟩) (fun i hi=>(h2 i hi).mono (fun _ h=>h) hk.same) h3
theorem bAq(y v0:Value)(k:Nat):(#[y] ++ #[v0]++Array.replicate k undef).size=2+k∧(#[y] ++ #[v0]++Array.replicate k undef).getD 0 undef=y∧(#[y] ++ #[v0]++Array.replicate k undef).getD 1 undef=v0:=by
 refine ⟨by simp,?_,?_⟩ <;> simp [kQ1,Array.getElem?_append]
theorem aFh(q:List Int)(hq:q.length≤60):bNf Tp (.fn 182 [] [.rp [aG q] 0]) 182 (2 ^ q.length) (jE q):=fun C M w u hu0 hFs=>by
 cases hu0 with
 | fn _ _ _ us vs h1 h2 h3 h4 =>
  obtain rfl:us = #[]:=by simpa using h1
  have q0:=h4 0 (by simp)
  simp only [List.getElem_cons_zero] at q0
  obtain ⟨v0,rfl⟩:∃ v0,vs = #[v0]:=by
   have:vs.toList.length=1:=by simpa using h2
   match hv:vs.toList,this with
   | [x0],_=>exact ⟨x0,by rw [← hv]⟩
  change Rep C M w (.rp [aG q] 0) v0 at q0
  have hr:=bVm q0;refine ⟨#[v0],rfl,fun l J Jx W hW hJ hJx hY h0 => ?_⟩
  have hk:KpG C.F w W:=⟨hW.size,fun b hb=>hW.block b (hFs b hb)⟩
  have hr':=bVn hr hk;refine callsIn_of_wp Tryz.func182 rfl trivial ?_ rfl;obtain ⟨k1,k2,k3⟩:=bAq (.func (.yield l) #[] #[]) v0 (Tryz.f182.ntmps-(#[Value.func (.yield l) #[] #[]] ++ #[v0]).size);exact bAp hq (fun b hb=>kQ8 (hFs b hb) hW.size) hr' (a:={ tmps := #[.func (.yield l) #[] #[]] ++ #[v0]++Array.replicate (Tryz.f182.ntmps-(#[Value.func (.yield l) #[] #[]] ++ #[v0]).size) undef,defers:=[] }) k1 k2 k3 rfl hJ hJx hY h0 fun W' h=>⟨⟨_,rfl⟩,h⟩
end KV
end Go.Proofs
end
