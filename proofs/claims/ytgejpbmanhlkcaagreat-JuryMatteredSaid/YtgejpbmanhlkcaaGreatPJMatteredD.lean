/- Parts of the proof of JMattered: laws of walks, contracts of functions, plain models. No condition. -/
import Derived.Sort.LoopGhostIn
import Derived.Test.YtgejpbmanhlkcaaGreatPJMatteredC
set_option linter.unusedVariables false
set_option linter.unusedSimpArgs false
set_option maxRecDepth 100000
namespace Go.Proofs
namespace KV
abbrev kVL (a b c d e f:Nat):List AV:=[.fn 154 [] [.ptr a 0,.ptr b 0,.ptr c 0,.ptr d 0],.fn 156 [] [.ptr e 0],.fn 157 [] [.ptr d 0,.ptr f 0],.fn 160 [] [.ptr d 0],.fn 158 [] [.ptr e 0]]
section
variable {dl:Int}{sk dc:Lqq}

noncomputable abbrev fC:Code:=sub (cd Tryz.f154) [1,1,1,0,1,0,0]
noncomputable abbrev gD:Code:=sub (cd Tryz.f153) [1,0,1,0,0]
abbrev pV(dl:Int)(sk dc:Lqq):AV := .rp (aH dl sk dc) 0
abbrev dA(dl:Int)(sk dc:Lqq)(ov:PV)(T:Lqb):Mem:=[some (.box 130 [(pV dl sk dc)]),some (.box 33 [(.p ov)]),some (.box 139 (kVL 4 5 0 2 6 1)),some (.mp (aG T) T.length),some (.box 207 [(.mp 3)]),some (.box 124 [(.fn 146 [(pV dl sk dc)] [])]),some (.box 209 [(.fn 153 [] [(.ptr 0 0),(.ptr 2 0)])])]
abbrev iB:AV:=(.agg (kVL 4 5 0 2 6 1))
abbrev vB0(dl:Int)(sk dc:Lqq):AO:=.box 130 [.rp (aH dl sk dc) 0]
abbrev vB2:AO:=.box 139 (kVL 4 5 0 2 6 1)
abbrev vB5(dl:Int)(sk dc:Lqq):AO:=.box 124 [.fn 146 [.rp (aH dl sk dc) 0] []]
abbrev vB6:AO:=.box 209 [(.fn 153 [] [(.ptr 0 0),(.ptr 2 0)])]
abbrev vU(dl:Int)(sk dc:Lqq)(ov:PV)(T:Lqb):Upd:=[(0,vB0 dl sk dc),(1,.box 33 [.p ov]),(2,vB2),(3,.mp (aG T) T.length),(4,.box 207 [.mp 3]),(5,vB5 dl sk dc),(6,vB6)]
abbrev rA(dl:Int)(sk dc:Lqq)(ov:PV)(x:List Int)(b:Bool)(T T2:Lqb):Prop:=FMM Tp 154 [.p (.agg (x.map aA)),.ptr 4 0,.ptr 5 0,.ptr 0 0,.ptr 2 0] (dA dl sk dc ov T) (pB b) (dA dl sk dc ov T2)
abbrev bSb(g:Nat)(dl:Int)(sk dc:Lqq)(ov:PV)(x z:List Int)(b:Bool)(T T2:Lqb):Prop:=FMM Tp 153 [.p (.agg (x.map aA)),.fn g [] [],.ptr 0 0,.ptr 2 0] (dA dl sk dc ov T) (.tup [.p (.agg (z.map aA)),.p (blP b)]) (dA dl sk dc ov T2)
abbrev aLv(dl:Int)(sk dc:Lqq)(ov:PV)(x z:List Int)(b:Bool)(T T2:Lqb):Prop:=FMM Tp 156 [.p (.agg (x.map aA)),.ptr 6 0] (dA dl sk dc ov T) (.tup [.p (.agg (z.map aA)),.p (blP b)]) (dA dl sk dc ov T2)
abbrev bSc(dl:Int)(sk dc:Lqq)(ov:PV)(x z:List Int)(b:Bool)(T T2:Lqb):Prop:=FMM Tp 158 [.p (.agg (x.map aA)),.ptr 6 0] (dA dl sk dc ov T) (.tup [.p (.agg (z.map aA)),.p (blP b)]) (dA dl sk dc ov T2)
abbrev bKx(dl:Int)(sk dc:Lqq)(ov:PV)(x:List Int)(b:Bool)(T T2:Lqb):Prop:=FMM Tp 157 [.p (.agg (x.map aA)),.ptr 2 0,.ptr 1 0] (dA dl sk dc ov T) (pB b) (dA dl sk dc ov T2)
abbrev zB(dl:Int)(sk dc:Lqq)(ov:PV)(x:List Int)(m:Int)(T T2:Lqb):Prop:=FMM Tp 160 [.p (.agg (x.map aA)),.ptr 2 0] (dA dl sk dc ov T) (pI m) (dA dl sk dc ov T2)
theorem bKy{k:Int}(h0:k=8){base:Nat}:FV Tp 155 [(pI k)] base (pB true) []:=by
 exact FV.fin Tryz.func155 rfl (o:=[bT,bT,bT]) (l:=[_,_,_]) (by kernel_rfl) (g3c (eW h0) gn)
theorem bKz{k:Int}{r0:Bool}(h0:k≠8)(er0:r0=(k == (9:Int))){base:Nat}:FV Tp 155 [(pI k)] base (pB r0) []:=by
 subst er0;exact FV.fin Tryz.func155 rfl (o:=[bF,bF,bF]) (l:=[_,_,_]) (by kernel_rfl) (g3c (bP h0) gn)
theorem bLa{k:Int}{r0:Bool}(er0:r0=(k == (6:Int))){base:Nat}:FV Tp 159 [(pI k)] base (pB r0) []:=by
 subst er0;exact FV.fin Tryz.func159 rfl (o:=[]) (l:=[]) (by kernel_rfl) (gn)
theorem bSd{k:Int}(h0:k=4){base:Nat}:FV Tp 148 [(pI k)] base (pB true) []:=by
 exact FV.fin Tryz.func148 rfl (o:=[bT,bT,bT]) (l:=[_,_,_]) (by kernel_rfl) (g3c (eW h0) gn)
theorem bSe{k:Int}{r0:Bool}(h0:k≠4)(er0:r0=(k == (7:Int))){base:Nat}:FV Tp 148 [(pI k)] base (pB r0) []:=by
 subst er0;exact FV.fin Tryz.func148 rfl (o:=[bF,bF,bF]) (l:=[_,_,_]) (by kernel_rfl) (g3c (bP h0) gn)
theorem mZ(k:Int){base:Nat}:FV Tp 155 [.p (aA k)] base (pB (cT k)) []:=by
 by_cases h:k=8
 ·rw [show cT k=true by simp [cT,h]];exact bKy h
 ·exact bKz h (by simp [cT,h])
theorem aIb(k:Int){base:Nat}:FV Tp 159 [.p (aA k)] base (pB (k == 6)) []:=bLa rfl
theorem wT(k:Int){base:Nat}:FV Tp 148 [.p (aA k)] base (pB (gG k)) []:=by
 by_cases h:k=4
 ·rw [show gG k=true by simp [gG,h]];exact bSd h
 ·exact bSe h (by simp [gG,h])
theorem bSf{x0 x1 x2 x3 x4 x5:Int}{r0:Bool}(h0:(gG x1)=true)(er0:r0=(decide (x2 > dl))){base:Nat}:FV Tp 146 [(.rp (aH dl sk dc) 0),(.p (dcE x0 x1 x2 x3 x4 x5))] base (pB r0) []:=by
 subst er0;exact FV.fin Tryz.func146 rfl (o:=[.c (pB (gG x1)) [],bT,bT,bT,bT,bT,bT,bT,.x (aA dl),bT,bT]) (l:=[_,_,(aH dl sk dc)[0]? = some (aA dl),_,_,_,_,_,_,_,_]) (by kernel_rfl) (g2c h0 (gc rfl (g7c h0 (gc (fk 1 (wT x1) rfl) gn))))
theorem bSg{x0 x1 x2 x3 x4 x5:Int}(h0:(gG x1)=false){base:Nat}:FV Tp 146 [(.rp (aH dl sk dc) 0),(.p (dcE x0 x1 x2 x3 x4 x5))] base (pB false) []:=by
 exact FV.fin Tryz.func146 rfl (o:=[.c (pB (gG x1)) [],bF,bF,bF,bF,bF,bF,bF,bF,bF]) (l:=[_,_,_,_,_,_,_,_,_,_]) (by kernel_rfl) (g8c h0 (gc h0 (gc (fk 1 (wT x1) rfl) gn)))
theorem aIc(dl:Int)(sk dc:Lqq)(x0 x1 x2 x3 x4 x5:Int){base:Nat}:FV Tp 146 [pV dl sk dc,.p (.agg [aA x0,aA x1,aA x2,aA x3,aA x4,aA x5])] base (pB (nB dl [x0,x1,x2,x3,x4,x5])) []:=by
 cases h:gG x1 with
 | true=>exact bSf h (by show (gG x1 && decide (dl<x2))=_;rw [h];rfl)
 | false=>rw [show nB dl [x0,x1,x2,x3,x4,x5]=false by show (gG x1 && decide (dl<x2))=_;rw [h];rfl];exact bSg h
abbrev sJ(ov:PV)(n:Int)(b:Bool):Prop:=∀ base:Nat,FV Tp 52 [.p ov,.p (aA n)] base (pB b) []
def cR(dl:Int)(sk:Lqq)(dc:Lqq)(ov:PV)(i:Nat)(l:Lqq)(n:Nat)(te:List (Value × PV))(tk:Nat)(c0:Int)(c1:Int)(c2:Int)(c3:Int)(c4:Int)(c5:Int):St:=⟨fr 35 [(1,(.fn 155 [] [])),(3,(.ptr 2 0)),(6,(.ptr 7 0)),(16,(.p (fS l))),(17,(pI (n:Int))),(18,(pI (i:Int)))],[some (vB0 dl sk dc),some (.box 33 [(.p ov)]),some vB2,some (.mp te tk),some (.box 207 [(.mp 3)]),some (vB5 dl sk dc),some vB6,some (.box 44 [(pI c0),(pI c1),(pI c2),(pI c3),(pI c4),(pI c5)])]⟩
theorem bLb{ov:PV}{T:Lqb}{x0 x1 x2 x3 x4 x5:Int}{y0:Lqq}{i'1:Nat}{l'2:Lqq}{n'3:Nat}{t'4:Lqb}{c0'5 c1'6 c2'7 c3'8 c4'9 c5'10:Int}(h0:cH .i64 (abE dc) (.int .i64 x0))(h1:(dH (abE dc) (.int .i64 x0))=true)(h2:eY (abE dc) (.int .i64 x0)=some (fS y0))(hl3:aJ Tp 7 gD (cR dl sk dc ov 0 y0 y0.length (aG T) T.length (0:Int) (0:Int) (0:Int) (0:Int) (0:Int) (0:Int)) (.exit 0) (cR dl sk dc ov i'1 l'2 n'3 (aG t'4) t'4.length c0'5 c1'6 c2'7 c3'8 c4'9 c5'10)):FMM Tp 153 [(.p (dcE x0 x1 x2 x3 x4 x5)),(.fn 155 [] []),(.ptr 0 0),(.ptr 2 0)] (dA dl sk dc ov T) (.tup [(.p (dcE 0 0 0 0 0 0)),(pB false)]) (dA dl sk dc ov t'4):=by
 exact FMM.fin (k:=7) (g:=⟨[],[],[],[]⟩) rfl Tryz.func153 rfl (o:=[.x (.mp (abE dc)),bT,.x (fS y0),.k 1 ⟨(rng [(0,1),(2,1),(4,2),(7,9),(19,15)]),[8],[],[]⟩ (.exit 0) (cR dl sk dc ov i'1 l'2 n'3 (aG t'4) t'4.length c0'5 c1'6 c2'7 c3'8 c4'9 c5'10)]) (l:=[_,_,_,_,(aH dl sk dc)[4]? = some (.mp (abE dc))]) (by kernel_rfl) (gc hl3.code (gc h2 (gc h1 (gc h0 (gc rfl gn)))))
theorem bLc{ov:PV}{T:Lqb}{x0 x1 x2 x3 x4 x5:Int}{y0:Lqq}{i'1:Nat}{l'2:Lqq}{n'3:Nat}{t'4:Lqb}{c0'5 c1'6 c2'7 c3'8 c4'9 c5'10:Int}(h0:cH .i64 (abE dc) (.int .i64 x0))(h1:(dH (abE dc) (.int .i64 x0))=true)(h2:eY (abE dc) (.int .i64 x0)=some (fS y0))(hl3:aJ Tp 7 gD (cR dl sk dc ov 0 y0 y0.length (aG T) T.length (0:Int) (0:Int) (0:Int) (0:Int) (0:Int) (0:Int)) .ret (cE (cR dl sk dc ov i'1 l'2 n'3 (aG t'4) t'4.length c0'5 c1'6 c2'7 c3'8 c4'9 c5'10) [(7,(.kb true))])):FMM Tp 153 [(.p (dcE x0 x1 x2 x3 x4 x5)),(.fn 155 [] []),(.ptr 0 0),(.ptr 2 0)] (dA dl sk dc ov T) (.tup [(.p (dcE c0'5 c1'6 c2'7 c3'8 c4'9 c5'10)),(pB true)]) (dA dl sk dc ov t'4):=by
 exact FMM.fin (k:=7) (g:=⟨[],[],[],[]⟩) rfl Tryz.func153 rfl (o:=[.x (.mp (abE dc)),bT,.x (fS y0),.k 1 ⟨(rng [(0,1),(2,1),(4,2),(7,9),(19,15)]),[8],[],[]⟩ .ret (cE (cR dl sk dc ov i'1 l'2 n'3 (aG t'4) t'4.length c0'5 c1'6 c2'7 c3'8 c4'9 c5'10) [(7,(.kb true))])]) (l:=[_,_,_,_,(aH dl sk dc)[4]? = some (.mp (abE dc))]) (by kernel_rfl) (gc hl3.code (gc h2 (gc h1 (gc h0 (gc rfl gn)))))
theorem bLd{ov:PV}{T:Lqb}{x0 x1 x2 x3 x4 x5:Int}{i'0:Nat}{l'1:Lqq}{n'2:Nat}{t'3:Lqb}{c0'4 c1'5 c2'6 c3'7 c4'8 c5'9:Int}(h0:cH .i64 (abE dc) (.int .i64 x0))(h1:(dH (abE dc) (.int .i64 x0))=false)(hl2:aJ Tp 7 gD (cR dl sk dc ov 0 ([]:Lqq) 0 (aG T) T.length (0:Int) (0:Int) (0:Int) (0:Int) (0:Int) (0:Int)) (.exit 0) (cR dl sk dc ov i'0 l'1 n'2 (aG t'3) t'3.length c0'4 c1'5 c2'6 c3'7 c4'8 c5'9)):FMM Tp 153 [(.p (dcE x0 x1 x2 x3 x4 x5)),(.fn 155 [] []),(.ptr 0 0),(.ptr 2 0)] (dA dl sk dc ov T) (.tup [(.p (dcE 0 0 0 0 0 0)),(pB false)]) (dA dl sk dc ov t'3):=by
 exact FMM.fin (k:=7) (g:=⟨[],[],[],[]⟩) rfl Tryz.func153 rfl (o:=[.x (.mp (abE dc)),bF,.k 1 ⟨(rng [(0,1),(2,1),(4,2),(7,9),(19,15)]),[8],[],[(16,99999)]⟩ (.exit 0) (cR dl sk dc ov i'0 l'1 n'2 (aG t'3) t'3.length c0'4 c1'5 c2'6 c3'7 c4'8 c5'9)]) (l:=[_,_,_,(aH dl sk dc)[4]? = some (.mp (abE dc))]) (by kernel_rfl) (gc hl2.code (gc h1 (gc h0 (gc rfl gn))))
theorem aPt{ov:PV}{i:Nat}{l:Lqq}{n:Nat}{t:Lqb}{c0 c1 c2 c3 c4 c5 y100 y101 y102 y103 y104 y105:Int}{b106:Bool}{T107 t':Lqb}(h0:(i:Int)<(n:Int))(h1:l[i]? = some [y100,y101,y102,y103,y104,y105])(h2:uni 6 l)(h3:(cT y101)=true)(h4:rA dl sk dc ov [y100,y101,y102,y103,y104,y105] b106 t T107)(h5:b106=true)(et'e:aG t'=(aG T107))(et'k:t'.length=T107.length):aC Tp 7 gD (cR dl sk dc ov i l n (aG t) t.length c0 c1 c2 c3 c4 c5) .ret (cE (cR dl sk dc ov i l n (aG t') t'.length y100 y101 y102 y103 y104 y105) [(7,(.kb true))]):=by
 have raw:aC Tp 7 gD (cR dl sk dc ov i l n (aG t) t.length c0 c1 c2 c3 c4 c5) .ret (cE (cR dl sk dc ov i l n (aG T107) T107.length y100 y101 y102 y103 y104 y105) [(7,(.kb true))]):=aC.fin (g:=⟨(rng [(0,1),(2,1),(4,2),(8,8),(19,15)]),[7],[],[]⟩) (o:=[bT,.x (dcE y100 y101 y102 y103 y104 y105),.c (pB (cT y101)) [],bT,bT,bT,bT,.c (pB b106) (vU dl sk dc ov T107),bT,bT]) (l:=[_,_,FC Tp 154 [(.p (dcE y100 y101 y102 y103 y104 y105)),(.ptr 4 0),(.ptr 5 0),(.ptr 0 0),(.ptr 2 0)] [(4,(.box 207 [(.mp 3)])),(5,(vB5 dl sk dc)),(0,(vB0 dl sk dc)),(2,vB2),(3,(.mp (aG t) t.length)),(6,vB6),(1,(.box 33 [(.p ov)]))] 9 (pB b106) (vU dl sk dc ov T107),_,_,_,_,_,_,_,0≤(i:Int)∧(i:Int)<(l.length:Int)∧(i*6)<(l.flatten.map aA).length,_]) (by kernel_rfl) (gc h5 (gc h3 (gc (FMM.fc (ids:=[0,1,2,3,4,5,6]) h4 (by kernel_rfl)) (g4c h3 (gc (fk 9 (mZ y101) rfl) (gc (aV (i:=i) h2 h1) (gc (bI (i:=i) h2 h1) (gc (cB (k:=6) (i:=(i:Int)) (by decide) h2 (kQ2 _) h1) (gc (aZ h0) gn)))))))))
 exact raw.cast (by rw [et'e,et'k])
theorem aPu{ov:PV}{i:Nat}{l:Lqq}{n:Nat}{t:Lqb}{c0 c1 c2 c3 c4 c5 y100 y101 y102 y103 y104 y105:Int}{b106:Bool}{T107:Lqb}{i':Nat}{t':Lqb}(h0:(i:Int)<(n:Int))(h1:l[i]? = some [y100,y101,y102,y103,y104,y105])(h2:uni 6 l)(h3:(cT y101)=true)(h4:rA dl sk dc ov [y100,y101,y102,y103,y104,y105] b106 t T107)(h5:b106=false)(h6:inR (((i+1):Nat):Int))(ei':i'=(i+1))(et'e:aG t'=(aG T107))(et'k:t'.length=T107.length):aC Tp 7 gD (cR dl sk dc ov i l n (aG t) t.length c0 c1 c2 c3 c4 c5) .normal (cR dl sk dc ov i' l n (aG t') t'.length c0 c1 c2 c3 c4 c5):=by
 subst ei';have raw:aC Tp 7 gD (cR dl sk dc ov i l n (aG t) t.length c0 c1 c2 c3 c4 c5) .normal (cR dl sk dc ov (i+1) l n (aG T107) T107.length c0 c1 c2 c3 c4 c5):=aC.fin (g:=⟨(rng [(0,1),(2,1),(4,2),(7,9),(19,15)]),[7],[],[]⟩) (o:=[bT,.x (dcE y100 y101 y102 y103 y104 y105),.c (pB (cT y101)) [],bT,bT,bT,bT,.c (pB b106) (vU dl sk dc ov T107),bT,bF]) (l:=[_,_,_,FC Tp 154 [(.p (dcE y100 y101 y102 y103 y104 y105)),(.ptr 4 0),(.ptr 5 0),(.ptr 0 0),(.ptr 2 0)] [(4,(.box 207 [(.mp 3)])),(5,(vB5 dl sk dc)),(0,(vB0 dl sk dc)),(2,vB2),(3,(.mp (aG t) t.length)),(6,vB6),(1,(.box 33 [(.p ov)]))] 9 (pB b106) (vU dl sk dc ov T107),_,_,_,_,_,_,_,0≤(i:Int)∧(i:Int)<(l.length:Int)∧(i*6)<(l.flatten.map aA).length,_]) (by kernel_rfl) (gc h6 (gc h5 (gc h3 (gc (FMM.fc (ids:=[0,1,2,3,4,5,6]) h4 (by kernel_rfl)) (g4c h3 (gc (fk 9 (mZ y101) rfl) (gc (aV (i:=i) h2 h1) (gc (bI (i:=i) h2 h1) (gc (cB (k:=6) (i:=(i:Int)) (by decide) h2 (kQ2 _) h1) (gc (aZ h0) gn))))))))))
 exact raw.cast (by rw [et'e,et'k])
theorem aPv{ov:PV}{i:Nat}{l:Lqq}{n:Nat}{t:Lqb}{c0 c1 c2 c3 c4 c5 y100 y101 y102 y103 y104 y105:Int}{i':Nat}(h0:(i:Int)<(n:Int))(h1:l[i]? = some [y100,y101,y102,y103,y104,y105])(h2:uni 6 l)(h3:(cT y101)=false)(h4:inR (((i+1):Nat):Int))(ei':i'=(i+1)):aC Tp 7 gD (cR dl sk dc ov i l n (aG t) t.length c0 c1 c2 c3 c4 c5) .normal (cR dl sk dc ov i' l n (aG t) t.length c0 c1 c2 c3 c4 c5):=by
 subst ei';exact aC.fin (g:=⟨(rng [(0,1),(2,1),(4,2),(7,9),(19,15)]),[7],[],[]⟩) (o:=[bT,.x (dcE y100 y101 y102 y103 y104 y105),.c (pB (cT y101)) [],bF,bF,bF,bF,bF]) (l:=[_,_,_,_,_,_,_,_,_,0≤(i:Int)∧(i:Int)<(l.length:Int)∧(i*6)<(l.flatten.map aA).length,_]) (by kernel_rfl) (gc h4 (g5c h3 (gc (fk 9 (mZ y101) rfl) (gc (aV (i:=i) h2 h1) (gc (bI (i:=i) h2 h1) (gc (cB (k:=6) (i:=(i:Int)) (by decide) h2 (kQ2 _) h1) (gc (aZ h0) gn)))))))
theorem aPw{ov:PV}{i:Nat}{l:Lqq}{n:Nat}{t:Lqb}{c0 c1 c2 c3 c4 c5:Int}(h0:(n:Int)≤(i:Int)):aC Tp 7 gD (cR dl sk dc ov i l n (aG t) t.length c0 c1 c2 c3 c4 c5) (.exit 0) (cR dl sk dc ov i l n (aG t) t.length c0 c1 c2 c3 c4 c5):=by
 exact aC.fin (g:=⟨(rng [(0,1),(2,1),(4,2),(7,9),(19,15)]),[7],[],[]⟩) (o:=[bF]) (l:=[_]) (by kernel_rfl) (gc (bJ h0) gn)
def cS(dl:Int)(sk:Lqq)(dc:Lqq)(ov:PV)(i:Nat)(l:Lqq)(n:Nat)(te:List (Value × PV))(tk:Nat)(c0:Int)(c1:Int)(c2:Int)(c3:Int)(c4:Int)(c5:Int):St:=⟨fr 35 [(1,(.fn 159 [] [])),(3,(.ptr 2 0)),(6,(.ptr 7 0)),(16,(.p (fS l))),(17,(pI (n:Int))),(18,(pI (i:Int)))],[some (vB0 dl sk dc),some (.box 33 [(.p ov)]),some vB2,some (.mp te tk),some (.box 207 [(.mp 3)]),some (vB5 dl sk dc),some vB6,some (.box 44 [(pI c0),(pI c1),(pI c2),(pI c3),(pI c4),(pI c5)])]⟩
theorem bLe{ov:PV}{T:Lqb}{x0 x1 x2 x3 x4 x5:Int}{y0:Lqq}{i'1:Nat}{l'2:Lqq}{n'3:Nat}{t'4:Lqb}{c0'5 c1'6 c2'7 c3'8 c4'9 c5'10:Int}(h0:cH .i64 (abE dc) (.int .i64 x0))(h1:(dH (abE dc) (.int .i64 x0))=true)(h2:eY (abE dc) (.int .i64 x0)=some (fS y0))(hl3:aJ Tp 7 gD (cS dl sk dc ov 0 y0 y0.length (aG T) T.length (0:Int) (0:Int) (0:Int) (0:Int) (0:Int) (0:Int)) (.exit 0) (cS dl sk dc ov i'1 l'2 n'3 (aG t'4) t'4.length c0'5 c1'6 c2'7 c3'8 c4'9 c5'10)):FMM Tp 153 [(.p (dcE x0 x1 x2 x3 x4 x5)),(.fn 159 [] []),(.ptr 0 0),(.ptr 2 0)] (dA dl sk dc ov T) (.tup [(.p (dcE 0 0 0 0 0 0)),(pB false)]) (dA dl sk dc ov t'4):=by
 exact FMM.fin (k:=7) (g:=⟨[],[],[],[]⟩) rfl Tryz.func153 rfl (o:=[.x (.mp (abE dc)),bT,.x (fS y0),.k 1 ⟨(rng [(0,1),(2,1),(4,2),(7,9),(19,15)]),[8],[],[]⟩ (.exit 0) (cS dl sk dc ov i'1 l'2 n'3 (aG t'4) t'4.length c0'5 c1'6 c2'7 c3'8 c4'9 c5'10)]) (l:=[_,_,_,_,(aH dl sk dc)[4]? = some (.mp (abE dc))]) (by kernel_rfl) (gc hl3.code (gc h2 (gc h1 (gc h0 (gc rfl gn)))))
theorem bLf{ov:PV}{T:Lqb}{x0 x1 x2 x3 x4 x5:Int}{y0:Lqq}{i'1:Nat}{l'2:Lqq}{n'3:Nat}{t'4:Lqb}{c0'5 c1'6 c2'7 c3'8 c4'9 c5'10:Int}(h0:cH .i64 (abE dc) (.int .i64 x0))(h1:(dH (abE dc) (.int .i64 x0))=true)(h2:eY (abE dc) (.int .i64 x0)=some (fS y0))(hl3:aJ Tp 7 gD (cS dl sk dc ov 0 y0 y0.length (aG T) T.length (0:Int) (0:Int) (0:Int) (0:Int) (0:Int) (0:Int)) .ret (cE (cS dl sk dc ov i'1 l'2 n'3 (aG t'4) t'4.length c0'5 c1'6 c2'7 c3'8 c4'9 c5'10) [(7,(.kb true))])):FMM Tp 153 [(.p (dcE x0 x1 x2 x3 x4 x5)),(.fn 159 [] []),(.ptr 0 0),(.ptr 2 0)] (dA dl sk dc ov T) (.tup [(.p (dcE c0'5 c1'6 c2'7 c3'8 c4'9 c5'10)),(pB true)]) (dA dl sk dc ov t'4):=by
 exact FMM.fin (k:=7) (g:=⟨[],[],[],[]⟩) rfl Tryz.func153 rfl (o:=[.x (.mp (abE dc)),bT,.x (fS y0),.k 1 ⟨(rng [(0,1),(2,1),(4,2),(7,9),(19,15)]),[8],[],[]⟩ .ret (cE (cS dl sk dc ov i'1 l'2 n'3 (aG t'4) t'4.length c0'5 c1'6 c2'7 c3'8 c4'9 c5'10) [(7,(.kb true))])]) (l:=[_,_,_,_,(aH dl sk dc)[4]? = some (.mp (abE dc))]) (by kernel_rfl) (gc hl3.code (gc h2 (gc h1 (gc h0 (gc rfl gn)))))
theorem bLg{ov:PV}{T:Lqb}{x0 x1 x2 x3 x4 x5:Int}{i'0:Nat}{l'1:Lqq}{n'2:Nat}{t'3:Lqb}{c0'4 c1'5 c2'6 c3'7 c4'8 c5'9:Int}(h0:cH .i64 (abE dc) (.int .i64 x0))(h1:(dH (abE dc) (.int .i64 x0))=false)(hl2:aJ Tp 7 gD (cS dl sk dc ov 0 ([]:Lqq) 0 (aG T) T.length (0:Int) (0:Int) (0:Int) (0:Int) (0:Int) (0:Int)) (.exit 0) (cS dl sk dc ov i'0 l'1 n'2 (aG t'3) t'3.length c0'4 c1'5 c2'6 c3'7 c4'8 c5'9)):FMM Tp 153 [(.p (dcE x0 x1 x2 x3 x4 x5)),(.fn 159 [] []),(.ptr 0 0),(.ptr 2 0)] (dA dl sk dc ov T) (.tup [(.p (dcE 0 0 0 0 0 0)),(pB false)]) (dA dl sk dc ov t'3):=by
 exact FMM.fin (k:=7) (g:=⟨[],[],[],[]⟩) rfl Tryz.func153 rfl (o:=[.x (.mp (abE dc)),bF,.k 1 ⟨(rng [(0,1),(2,1),(4,2),(7,9),(19,15)]),[8],[],[(16,99999)]⟩ (.exit 0) (cS dl sk dc ov i'0 l'1 n'2 (aG t'3) t'3.length c0'4 c1'5 c2'6 c3'7 c4'8 c5'9)]) (l:=[_,_,_,(aH dl sk dc)[4]? = some (.mp (abE dc))]) (by kernel_rfl) (gc hl2.code (gc h1 (gc h0 (gc rfl gn))))
theorem aPx{ov:PV}{i:Nat}{l:Lqq}{n:Nat}{t:Lqb}{c0 c1 c2 c3 c4 c5 y100 y101 y102 y103 y104 y105:Int}{b106:Bool}{T107 t':Lqb}(h0:(i:Int)<(n:Int))(h1:l[i]? = some [y100,y101,y102,y103,y104,y105])(h2:uni 6 l)(h3:(y101 == 6)=true)(h4:rA dl sk dc ov [y100,y101,y102,y103,y104,y105] b106 t T107)(h5:b106=true)(et'e:aG t'=(aG T107))(et'k:t'.length=T107.length):aC Tp 7 gD (cS dl sk dc ov i l n (aG t) t.length c0 c1 c2 c3 c4 c5) .ret (cE (cS dl sk dc ov i l n (aG t') t'.length y100 y101 y102 y103 y104 y105) [(7,(.kb true))]):=by
 have raw:aC Tp 7 gD (cS dl sk dc ov i l n (aG t) t.length c0 c1 c2 c3 c4 c5) .ret (cE (cS dl sk dc ov i l n (aG T107) T107.length y100 y101 y102 y103 y104 y105) [(7,(.kb true))]):=aC.fin (g:=⟨(rng [(0,1),(2,1),(4,2),(8,8),(19,15)]),[7],[],[]⟩) (o:=[bT,.x (dcE y100 y101 y102 y103 y104 y105),.c (pB (y101 == 6)) [],bT,bT,bT,bT,.c (pB b106) (vU dl sk dc ov T107),bT,bT]) (l:=[_,_,FC Tp 154 [(.p (dcE y100 y101 y102 y103 y104 y105)),(.ptr 4 0),(.ptr 5 0),(.ptr 0 0),(.ptr 2 0)] [(4,(.box 207 [(.mp 3)])),(5,(vB5 dl sk dc)),(0,(vB0 dl sk dc)),(2,vB2),(3,(.mp (aG t) t.length)),(6,vB6),(1,(.box 33 [(.p ov)]))] 9 (pB b106) (vU dl sk dc ov T107),_,_,_,_,_,_,_,0≤(i:Int)∧(i:Int)<(l.length:Int)∧(i*6)<(l.flatten.map aA).length,_]) (by kernel_rfl) (gc h5 (gc h3 (gc (FMM.fc (ids:=[0,1,2,3,4,5,6]) h4 (by kernel_rfl)) (g4c h3 (gc (fk 9 (aIb y101) rfl) (gc (aV (i:=i) h2 h1) (gc (bI (i:=i) h2 h1) (gc (cB (k:=6) (i:=(i:Int)) (by decide) h2 (kQ2 _) h1) (gc (aZ h0) gn)))))))))
 exact raw.cast (by rw [et'e,et'k])
theorem aPy{ov:PV}{i:Nat}{l:Lqq}{n:Nat}{t:Lqb}{c0 c1 c2 c3 c4 c5 y100 y101 y102 y103 y104 y105:Int}{b106:Bool}{T107:Lqb}{i':Nat}{t':Lqb}(h0:(i:Int)<(n:Int))(h1:l[i]? = some [y100,y101,y102,y103,y104,y105])(h2:uni 6 l)(h3:(y101 == 6)=true)(h4:rA dl sk dc ov [y100,y101,y102,y103,y104,y105] b106 t T107)(h5:b106=false)(h6:inR (((i+1):Nat):Int))(ei':i'=(i+1))(et'e:aG t'=(aG T107))(et'k:t'.length=T107.length):aC Tp 7 gD (cS dl sk dc ov i l n (aG t) t.length c0 c1 c2 c3 c4 c5) .normal (cS dl sk dc ov i' l n (aG t') t'.length c0 c1 c2 c3 c4 c5):=by
 subst ei';have raw:aC Tp 7 gD (cS dl sk dc ov i l n (aG t) t.length c0 c1 c2 c3 c4 c5) .normal (cS dl sk dc ov (i+1) l n (aG T107) T107.length c0 c1 c2 c3 c4 c5):=aC.fin (g:=⟨(rng [(0,1),(2,1),(4,2),(7,9),(19,15)]),[7],[],[]⟩) (o:=[bT,.x (dcE y100 y101 y102 y103 y104 y105),.c (pB (y101 == 6)) [],bT,bT,bT,bT,.c (pB b106) (vU dl sk dc ov T107),bT,bF]) (l:=[_,_,_,FC Tp 154 [(.p (dcE y100 y101 y102 y103 y104 y105)),(.ptr 4 0),(.ptr 5 0),(.ptr 0 0),(.ptr 2 0)] [(4,(.box 207 [(.mp 3)])),(5,(vB5 dl sk dc)),(0,(vB0 dl sk dc)),(2,vB2),(3,(.mp (aG t) t.length)),(6,vB6),(1,(.box 33 [(.p ov)]))] 9 (pB b106) (vU dl sk dc ov T107),_,_,_,_,_,_,_,0≤(i:Int)∧(i:Int)<(l.length:Int)∧(i*6)<(l.flatten.map aA).length,_]) (by kernel_rfl) (gc h6 (gc h5 (gc h3 (gc (FMM.fc (ids:=[0,1,2,3,4,5,6]) h4 (by kernel_rfl)) (g4c h3 (gc (fk 9 (aIb y101) rfl) (gc (aV (i:=i) h2 h1) (gc (bI (i:=i) h2 h1) (gc (cB (k:=6) (i:=(i:Int)) (by decide) h2 (kQ2 _) h1) (gc (aZ h0) gn))))))))))
 exact raw.cast (by rw [et'e,et'k])
theorem aPz{ov:PV}{i:Nat}{l:Lqq}{n:Nat}{t:Lqb}{c0 c1 c2 c3 c4 c5 y100 y101 y102 y103 y104 y105:Int}{i':Nat}(h0:(i:Int)<(n:Int))(h1:l[i]? = some [y100,y101,y102,y103,y104,y105])(h2:uni 6 l)(h3:(y101 == 6)=false)(h4:inR (((i+1):Nat):Int))(ei':i'=(i+1)):aC Tp 7 gD (cS dl sk dc ov i l n (aG t) t.length c0 c1 c2 c3 c4 c5) .normal (cS dl sk dc ov i' l n (aG t) t.length c0 c1 c2 c3 c4 c5):=by
 subst ei';exact aC.fin (g:=⟨(rng [(0,1),(2,1),(4,2),(7,9),(19,15)]),[7],[],[]⟩) (o:=[bT,.x (dcE y100 y101 y102 y103 y104 y105),.c (pB (y101 == 6)) [],bF,bF,bF,bF,bF]) (l:=[_,_,_,_,_,_,_,_,_,0≤(i:Int)∧(i:Int)<(l.length:Int)∧(i*6)<(l.flatten.map aA).length,_]) (by kernel_rfl) (gc h4 (g5c h3 (gc (fk 9 (aIb y101) rfl) (gc (aV (i:=i) h2 h1) (gc (bI (i:=i) h2 h1) (gc (cB (k:=6) (i:=(i:Int)) (by decide) h2 (kQ2 _) h1) (gc (aZ h0) gn)))))))
theorem aQa{ov:PV}{i:Nat}{l:Lqq}{n:Nat}{t:Lqb}{c0 c1 c2 c3 c4 c5:Int}(h0:(n:Int)≤(i:Int)):aC Tp 7 gD (cS dl sk dc ov i l n (aG t) t.length c0 c1 c2 c3 c4 c5) (.exit 0) (cS dl sk dc ov i l n (aG t) t.length c0 c1 c2 c3 c4 c5):=by
 exact aC.fin (g:=⟨(rng [(0,1),(2,1),(4,2),(7,9),(19,15)]),[7],[],[]⟩) (o:=[bF]) (l:=[_]) (by kernel_rfl) (gc (bJ h0) gn)
def bR(dl:Int)(sk:Lqq)(dc:Lqq)(ov:PV)(x0:Int)(x1:Int)(x2:Int)(x3:Int)(x4:Int)(x5:Int)(is:Bool)(i:Nat)(l:Lqq)(n:Nat)(te:List (Value × PV))(tk:Nat):St:=⟨fr 79 [(1,(.ptr 4 0)),(4,(.ptr 2 0)),(5,(.ptr 7 0)),(6,(.kb false)),(9,(pB is)),(32,(.p (fS l))),(33,(pI (n:Int))),(34,(pI (i:Int)))],[some (vB0 dl sk dc),some (.box 33 [(.p ov)]),some vB2,some (.mp te tk),some (.box 207 [(.mp 3)]),some (vB5 dl sk dc),some vB6,some (.box 44 [(pI x0),(pI x1),(pI x2),(pI x3),(pI x4),(pI x5)])]⟩
theorem bSh{ov:PV}{T:Lqb}{x0 x1 x2 x3 x4 x5:Int}{y0:Bool}(h0:cH .i64 (aG T) (.int .i64 x0))(h1:(dH (aG T) (.int .i64 x0))=true)(h2:eY (aG T) (.int .i64 x0)=some (blP y0)):FMM Tp 154 [(.p (dcE x0 x1 x2 x3 x4 x5)),(.ptr 4 0),(.ptr 5 0),(.ptr 0 0),(.ptr 2 0)] (dA dl sk dc ov T) (pB y0) (dA dl sk dc ov T):=by
 exact FMM.fin (k:=7) (g:=⟨[],[],[],[]⟩) rfl Tryz.func154 rfl (o:=[bT,.x (blP y0)]) (l:=[_,_,_]) (by kernel_rfl) (gc h2 (gc h1 (gc h0 gn)))
theorem bSi{ov:PV}{T:Lqb}{x0 x1 x2 x3 x4 x5:Int}{y0:Lqq}{is'1:Bool}{i'2:Nat}{l'3:Lqq}{n'4:Nat}{t'5:Lqb}(h0:cH .i64 (aG T) (.int .i64 x0))(h1:(dH (aG T) (.int .i64 x0))=false)(h2:cH .i64 (abE dc) (.int .i64 x0))(h3:(dH (abE dc) (.int .i64 x0))=true)(h4:eY (abE dc) (.int .i64 x0)=some (fS y0))(hl5:aJ Tp 7 fC (bR dl sk dc ov x0 x1 x2 x3 x4 x5 (!(nB dl [x0,x1,x2,x3,x4,x5])) 0 y0 y0.length (aG T) T.length) (.exit 0) (bR dl sk dc ov x0 x1 x2 x3 x4 x5 is'1 i'2 l'3 n'4 (aG t'5) t'5.length))(h6:cH .i64 (aG t'5) (.int .i64 x0))(h7:(dH (aG t'5) (.int .i64 x0))=true):FMM Tp 154 [(.p (dcE x0 x1 x2 x3 x4 x5)),(.ptr 4 0),(.ptr 5 0),(.ptr 0 0),(.ptr 2 0)] (dA dl sk dc ov T) (pB is'1) [some (vB0 dl sk dc),some (.box 33 [(.p ov)]),some vB2,some (.mp (oP (aG t'5) (.int .i64 x0) (blP is'1)) t'5.length),some (.box 207 [(.mp 3)]),some (vB5 dl sk dc),some vB6]:=by
 exact FMM.fin (k:=7) (g:=⟨[],[],[],[]⟩) rfl Tryz.func154 rfl (o:=[bF,.c (pB (nB dl [x0,x1,x2,x3,x4,x5])) [],.x (.mp (abE dc)),bT,.x (fS y0),.k 1 ⟨(rng [(0,1),(2,2),(7,2),(10,22),(35,39)]),[7],[],[]⟩ (.exit 0) (bR dl sk dc ov x0 x1 x2 x3 x4 x5 is'1 i'2 l'3 n'4 (aG t'5) t'5.length),bT]) (l:=[_,_,_,_,_,_,(aH dl sk dc)[4]? = some (.mp (abE dc)),_,_,_]) (by kernel_rfl) (gc h7 (gc h6 (gc hl5.code (gc h4 (gc h3 (gc h2 (gc rfl (gc (fk 8 (aIc dl sk dc x0 x1 x2 x3 x4 x5) rfl) (gc h1 (gc h0 gn))))))))))
theorem bSj{ov:PV}{T:Lqb}{x0 x1 x2 x3 x4 x5:Int}{y0:Lqq}{is'1:Bool}{i'2:Nat}{l'3:Lqq}{n'4:Nat}{t'5:Lqb}(h0:cH .i64 (aG T) (.int .i64 x0))(h1:(dH (aG T) (.int .i64 x0))=false)(h2:cH .i64 (abE dc) (.int .i64 x0))(h3:(dH (abE dc) (.int .i64 x0))=true)(h4:eY (abE dc) (.int .i64 x0)=some (fS y0))(hl5:aJ Tp 7 fC (bR dl sk dc ov x0 x1 x2 x3 x4 x5 (!(nB dl [x0,x1,x2,x3,x4,x5])) 0 y0 y0.length (aG T) T.length) (.exit 0) (bR dl sk dc ov x0 x1 x2 x3 x4 x5 is'1 i'2 l'3 n'4 (aG t'5) t'5.length))(h6:cH .i64 (aG t'5) (.int .i64 x0))(h7:(dH (aG t'5) (.int .i64 x0))=false):FMM Tp 154 [(.p (dcE x0 x1 x2 x3 x4 x5)),(.ptr 4 0),(.ptr 5 0),(.ptr 0 0),(.ptr 2 0)] (dA dl sk dc ov T) (pB is'1) [some (vB0 dl sk dc),some (.box 33 [(.p ov)]),some vB2,some (.mp ((aG t'5)++[((.int .i64 x0),(blP is'1))]) (t'5.length+1)),some (.box 207 [(.mp 3)]),some (vB5 dl sk dc),some vB6]:=by
 exact FMM.fin (k:=7) (g:=⟨[],[],[],[]⟩) rfl Tryz.func154 rfl (o:=[bF,.c (pB (nB dl [x0,x1,x2,x3,x4,x5])) [],.x (.mp (abE dc)),bT,.x (fS y0),.k 1 ⟨(rng [(0,1),(2,2),(7,2),(10,22),(35,39)]),[7],[],[]⟩ (.exit 0) (bR dl sk dc ov x0 x1 x2 x3 x4 x5 is'1 i'2 l'3 n'4 (aG t'5) t'5.length),bF]) (l:=[_,_,_,_,_,_,(aH dl sk dc)[4]? = some (.mp (abE dc)),_,_,_]) (by kernel_rfl) (gc h7 (gc h6 (gc hl5.code (gc h4 (gc h3 (gc h2 (gc rfl (gc (fk 8 (aIc dl sk dc x0 x1 x2 x3 x4 x5) rfl) (gc h1 (gc h0 gn))))))))))
theorem bSk{ov:PV}{T:Lqb}{x0 x1 x2 x3 x4 x5:Int}{is'0:Bool}{i'1:Nat}{l'2:Lqq}{n'3:Nat}{t'4:Lqb}(h0:cH .i64 (aG T) (.int .i64 x0))(h1:(dH (aG T) (.int .i64 x0))=false)(h2:cH .i64 (abE dc) (.int .i64 x0))(h3:(dH (abE dc) (.int .i64 x0))=false)(hl4:aJ Tp 7 fC (bR dl sk dc ov x0 x1 x2 x3 x4 x5 (!(nB dl [x0,x1,x2,x3,x4,x5])) 0 ([]:Lqq) 0 (aG T) T.length) (.exit 0) (bR dl sk dc ov x0 x1 x2 x3 x4 x5 is'0 i'1 l'2 n'3 (aG t'4) t'4.length))(h5:cH .i64 (aG t'4) (.int .i64 x0))(h6:(dH (aG t'4) (.int .i64 x0))=true):FMM Tp 154 [(.p (dcE x0 x1 x2 x3 x4 x5)),(.ptr 4 0),(.ptr 5 0),(.ptr 0 0),(.ptr 2 0)] (dA dl sk dc ov T) (pB is'0) [some (vB0 dl sk dc),some (.box 33 [(.p ov)]),some vB2,some (.mp (oP (aG t'4) (.int .i64 x0) (blP is'0)) t'4.length),some (.box 207 [(.mp 3)]),some (vB5 dl sk dc),some vB6]:=by
 exact FMM.fin (k:=7) (g:=⟨[],[],[],[]⟩) rfl Tryz.func154 rfl (o:=[bF,.c (pB (nB dl [x0,x1,x2,x3,x4,x5])) [],.x (.mp (abE dc)),bF,.k 1 ⟨(rng [(0,1),(2,2),(7,2),(10,22),(35,39)]),[7],[],[(32,99999)]⟩ (.exit 0) (bR dl sk dc ov x0 x1 x2 x3 x4 x5 is'0 i'1 l'2 n'3 (aG t'4) t'4.length),bT]) (l:=[_,_,_,_,_,(aH dl sk dc)[4]? = some (.mp (abE dc)),_,_,_]) (by kernel_rfl) (gc h6 (gc h5 (gc hl4.code (gc h3 (gc h2 (gc rfl (gc (fk 8 (aIc dl sk dc x0 x1 x2 x3 x4 x5) rfl) (gc h1 (gc h0 gn)))))))))
theorem bSl{ov:PV}{T:Lqb}{x0 x1 x2 x3 x4 x5:Int}{is'0:Bool}{i'1:Nat}{l'2:Lqq}{n'3:Nat}{t'4:Lqb}(h0:cH .i64 (aG T) (.int .i64 x0))(h1:(dH (aG T) (.int .i64 x0))=false)(h2:cH .i64 (abE dc) (.int .i64 x0))(h3:(dH (abE dc) (.int .i64 x0))=false)(hl4:aJ Tp 7 fC (bR dl sk dc ov x0 x1 x2 x3 x4 x5 (!(nB dl [x0,x1,x2,x3,x4,x5])) 0 ([]:Lqq) 0 (aG T) T.length) (.exit 0) (bR dl sk dc ov x0 x1 x2 x3 x4 x5 is'0 i'1 l'2 n'3 (aG t'4) t'4.length))(h5:cH .i64 (aG t'4) (.int .i64 x0))(h6:(dH (aG t'4) (.int .i64 x0))=false):FMM Tp 154 [(.p (dcE x0 x1 x2 x3 x4 x5)),(.ptr 4 0),(.ptr 5 0),(.ptr 0 0),(.ptr 2 0)] (dA dl sk dc ov T) (pB is'0) [some (vB0 dl sk dc),some (.box 33 [(.p ov)]),some vB2,some (.mp ((aG t'4)++[((.int .i64 x0),(blP is'0))]) (t'4.length+1)),some (.box 207 [(.mp 3)]),some (vB5 dl sk dc),some vB6]:=by
 exact FMM.fin (k:=7) (g:=⟨[],[],[],[]⟩) rfl Tryz.func154 rfl (o:=[bF,.c (pB (nB dl [x0,x1,x2,x3,x4,x5])) [],.x (.mp (abE dc)),bF,.k 1 ⟨(rng [(0,1),(2,2),(7,2),(10,22),(35,39)]),[7],[],[(32,99999)]⟩ (.exit 0) (bR dl sk dc ov x0 x1 x2 x3 x4 x5 is'0 i'1 l'2 n'3 (aG t'4) t'4.length),bF]) (l:=[_,_,_,_,_,(aH dl sk dc)[4]? = some (.mp (abE dc)),_,_,_]) (by kernel_rfl) (gc h6 (gc h5 (gc hl4.code (gc h3 (gc h2 (gc rfl (gc (fk 8 (aIc dl sk dc x0 x1 x2 x3 x4 x5) rfl) (gc h1 (gc h0 gn)))))))))
theorem aYq{ov:PV}{x0 x1 x2 x3 x4 x5:Int}{is:Bool}{i:Nat}{l:Lqq}{n:Nat}{t:Lqb}{y100 y101 y102 y103 y104 y105:Int}{b106:Bool}{T107:Lqb}{i':Nat}{t':Lqb}(h0:(i:Int)<(n:Int))(h1:l[i]? = some [y100,y101,y102,y103,y104,y105])(h2:uni 6 l)(h3:y101=5)(h4:is=true)(h5:rA dl sk dc ov [y100,y101,y102,y103,y104,y105] b106 t T107)(h6:b106=true)(h7:inR (((i+1):Nat):Int))(ei':i'=(i+1))(et'e:aG t'=(aG T107))(et'k:t'.length=T107.length):aC Tp 7 fC (bR dl sk dc ov x0 x1 x2 x3 x4 x5 is i l n (aG t) t.length) .normal (bR dl sk dc ov x0 x1 x2 x3 x4 x5 false i' l n (aG t') t'.length):=by
 subst ei';have raw:aC Tp 7 fC (bR dl sk dc ov x0 x1 x2 x3 x4 x5 is i l n (aG t) t.length) .normal (bR dl sk dc ov x0 x1 x2 x3 x4 x5 false (i+1) l n (aG T107) T107.length):=aC.fin (g:=⟨(rng [(0,1),(2,2),(7,2),(10,22),(35,39)]),[7],[],[(9,0)]⟩) (o:=[bT,.x (dcE y100 y101 y102 y103 y104 y105),bT,bT,bT,bT,bT,bT,bT,bT,.c (pB b106) (vU dl sk dc ov T107),bT,bT,bT,bT,bT,bT,bT,bT,bT,bT,bT]) (l:=[_,_,_,_,_,_,_,_,_,_,_,_,FC Tp 154 [(.p (dcE y100 y101 y102 y103 y104 y105)),(.ptr 4 0),(.ptr 5 0),(.ptr 0 0),(.ptr 2 0)] [(4,(.box 207 [(.mp 3)])),(5,(vB5 dl sk dc)),(0,(vB0 dl sk dc)),(2,vB2),(3,(.mp (aG t) t.length)),(6,vB6),(1,(.box 33 [(.p ov)]))] 9 (pB b106) (vU dl sk dc ov T107),_,_,_,_,_,_,_,_,_,_,0≤(i:Int)∧(i:Int)<(l.length:Int)∧(i*6)<(l.flatten.map aA).length,_]) (by kernel_rfl) (gc h7 (gc h6 (gc (eW h3) (gc h6 (g4c (eW h3) (g4c h6 (gc (FMM.fc (ids:=[0,1,2,3,4,5,6]) h5 (by kernel_rfl)) (g2c h4 (g6c (eW h3) (gc (aV (i:=i) h2 h1) (gc (bI (i:=i) h2 h1) (gc (cB (k:=6) (i:=(i:Int)) (by decide) h2 (kQ2 _) h1) (gc (aZ h0) gn)))))))))))))
 exact raw.cast (by rw [et'e,et'k])
theorem aYr{ov:PV}{x0 x1 x2 x3 x4 x5:Int}{is:Bool}{i:Nat}{l:Lqq}{n:Nat}{t:Lqb}{y100 y101 y102 y103 y104 y105:Int}{b106:Bool}{T107:Lqb}{i':Nat}{t':Lqb}(h0:(i:Int)<(n:Int))(h1:l[i]? = some [y100,y101,y102,y103,y104,y105])(h2:uni 6 l)(h3:y101=5)(h4:is=true)(h5:rA dl sk dc ov [y100,y101,y102,y103,y104,y105] b106 t T107)(h6:b106=false)(h7:inR (((i+1):Nat):Int))(ei':i'=(i+1))(et'e:aG t'=(aG T107))(et'k:t'.length=T107.length):aC Tp 7 fC (bR dl sk dc ov x0 x1 x2 x3 x4 x5 is i l n (aG t) t.length) .normal (bR dl sk dc ov x0 x1 x2 x3 x4 x5 is i' l n (aG t') t'.length):=by
 subst ei';have raw:aC Tp 7 fC (bR dl sk dc ov x0 x1 x2 x3 x4 x5 is i l n (aG t) t.length) .normal (bR dl sk dc ov x0 x1 x2 x3 x4 x5 is (i+1) l n (aG T107) T107.length):=aC.fin (g:=⟨(rng [(0,1),(2,2),(7,2),(10,22),(35,39)]),[7],[],[]⟩) (o:=[bT,.x (dcE y100 y101 y102 y103 y104 y105),bT,bT,bT,bT,bT,bT,bT,bT,.c (pB b106) (vU dl sk dc ov T107),bF,bF,bF,bF,bF,bF]) (l:=[_,_,_,_,_,_,_,FC Tp 154 [(.p (dcE y100 y101 y102 y103 y104 y105)),(.ptr 4 0),(.ptr 5 0),(.ptr 0 0),(.ptr 2 0)] [(4,(.box 207 [(.mp 3)])),(5,(vB5 dl sk dc)),(0,(vB0 dl sk dc)),(2,vB2),(3,(.mp (aG t) t.length)),(6,vB6),(1,(.box 33 [(.p ov)]))] 9 (pB b106) (vU dl sk dc ov T107),_,_,_,_,_,_,_,_,_,_,0≤(i:Int)∧(i:Int)<(l.length:Int)∧(i*6)<(l.flatten.map aA).length,_]) (by kernel_rfl) (gc h7 (g6c h6 (gc (FMM.fc (ids:=[0,1,2,3,4,5,6]) h5 (by kernel_rfl)) (g2c h4 (g6c (eW h3) (gc (aV (i:=i) h2 h1) (gc (bI (i:=i) h2 h1) (gc (cB (k:=6) (i:=(i:Int)) (by decide) h2 (kQ2 _) h1) (gc (aZ h0) gn)))))))))
 exact raw.cast (by rw [et'e,et'k])
theorem aYs{ov:PV}{x0 x1 x2 x3 x4 x5:Int}{is:Bool}{i:Nat}{l:Lqq}{n:Nat}{t:Lqb}{y100 y101 y102 y103 y104 y105:Int}{i':Nat}(h0:(i:Int)<(n:Int))(h1:l[i]? = some [y100,y101,y102,y103,y104,y105])(h2:uni 6 l)(h3:y101=5)(h4:is=false)(h5:inR (((i+1):Nat):Int))(ei':i'=(i+1)):aC Tp 7 fC (bR dl sk dc ov x0 x1 x2 x3 x4 x5 is i l n (aG t) t.length) .normal (bR dl sk dc ov x0 x1 x2 x3 x4 x5 is i' l n (aG t) t.length):=by
 subst ei';exact aC.fin (g:=⟨(rng [(0,1),(2,2),(7,2),(10,22),(35,39)]),[7],[],[]⟩) (o:=[bT,.x (dcE y100 y101 y102 y103 y104 y105),bT,bT,bT,bT,bT,bT,bF,bF]) (l:=[_,_,_,_,_,_,_,_,_,_,_,0≤(i:Int)∧(i:Int)<(l.length:Int)∧(i*6)<(l.flatten.map aA).length,_]) (by kernel_rfl) (gc h5 (g2c h4 (g6c (eW h3) (gc (aV (i:=i) h2 h1) (gc (bI (i:=i) h2 h1) (gc (cB (k:=6) (i:=(i:Int)) (by decide) h2 (kQ2 _) h1) (gc (aZ h0) gn)))))))
theorem aYt{ov:PV}{x0 x1 x2 x3 x4 x5:Int}{is:Bool}{i:Nat}{l:Lqq}{n:Nat}{t:Lqb}{y100 y101 y102 y103 y104 y105:Int}{b106:Bool}{T107:Lqb}{b108:Bool}{T109:Lqb}{i':Nat}{t':Lqb}(h0:(i:Int)<(n:Int))(h1:l[i]? = some [y100,y101,y102,y103,y104,y105])(h2:uni 6 l)(h3:y101≠5)(h4:y101=7)(h5:is=true)(h6:(cT x1)=false)(h7:rA dl sk dc ov [y100,y101,y102,y103,y104,y105] b106 t T107)(h8:b106=true)(h9:bKx dl sk dc ov [y100,y101,y102,y103,y104,y105] b108 T107 T109)(h10:b108=true)(h11:inR (((i+1):Nat):Int))(ei':i'=(i+1))(et'e:aG t'=(aG T109))(et'k:t'.length=T109.length):aC Tp 7 fC (bR dl sk dc ov x0 x1 x2 x3 x4 x5 is i l n (aG t) t.length) .normal (bR dl sk dc ov x0 x1 x2 x3 x4 x5 false i' l n (aG t') t'.length):=by
 subst ei';have raw:aC Tp 7 fC (bR dl sk dc ov x0 x1 x2 x3 x4 x5 is i l n (aG t) t.length) .normal (bR dl sk dc ov x0 x1 x2 x3 x4 x5 false (i+1) l n (aG T109) T109.length):=aC.fin (g:=⟨(rng [(0,1),(2,2),(7,2),(10,22),(35,39)]),[7],[],[(9,0)]⟩) (o:=[bT,.x (dcE y100 y101 y102 y103 y104 y105),bF,bF,bF,bF,bT,bT,bT,.c (pB (cT x1)) [],bT,bF,bT,bF,bT,bT,bT,bT,bT,bT,.c (pB b106) (vU dl sk dc ov T107),bT,bT,bT,bT,bT,bF,bF,bF,bF,.c (pB b108) (vU dl sk dc ov T109),bT,bF,bT,bT]) (l:=[_,_,_,_,_,FC Tp 157 [(.p (dcE y100 y101 y102 y103 y104 y105)),(.ptr 2 0),(.ptr 1 0)] [(2,vB2),(1,(.box 33 [(.p ov)])),(4,(.box 207 [(.mp 3)])),(5,(vB5 dl sk dc)),(0,(vB0 dl sk dc)),(6,vB6),(3,(.mp (aG T107) T107.length))] 9 (pB b108) (vU dl sk dc ov T109),_,_,_,_,_,_,_,_,_,FC Tp 154 [(.p (dcE y100 y101 y102 y103 y104 y105)),(.ptr 4 0),(.ptr 5 0),(.ptr 0 0),(.ptr 2 0)] [(4,(.box 207 [(.mp 3)])),(5,(vB5 dl sk dc)),(0,(vB0 dl sk dc)),(2,vB2),(3,(.mp (aG t) t.length)),(6,vB6),(1,(.box 33 [(.p ov)]))] 9 (pB b106) (vU dl sk dc ov T107),_,_,_,_,_,_,_,_,_,_,_,_,_,_,_,_,_,_,_,_,0≤(i:Int)∧(i:Int)<(l.length:Int)∧(i*6)<(l.flatten.map aA).length,_]) (by kernel_rfl) (gc h11 (gc h10 (gc h8 (gc (bP h3) (gc h8 (gc (FMM.fc (ids:=[0,1,2,3,4,5,6]) h9 (by kernel_rfl)) (g4c (bP h3) (g4c h8 (gc (cL h6) (gc (FMM.fc (ids:=[0,1,2,3,4,5,6]) h7 (by kernel_rfl)) (g4c (cL h6) (g2c h5 (gc (bP h3) (gc (eW h4) (gc (bP h3) (gc (eW h4) (gc (fk 9 (mZ x1) rfl) (g3c (eW h4) (g4c (bP h3) (gc (aV (i:=i) h2 h1) (gc (bI (i:=i) h2 h1) (gc (cB (k:=6) (i:=(i:Int)) (by decide) h2 (kQ2 _) h1) (gc (aZ h0) gn)))))))))))))))))))))))
 exact raw.cast (by rw [et'e,et'k])
theorem aYu{ov:PV}{x0 x1 x2 x3 x4 x5:Int}{is:Bool}{i:Nat}{l:Lqq}{n:Nat}{t:Lqb}{y100 y101 y102 y103 y104 y105:Int}{b106:Bool}{T107:Lqb}{b108:Bool}{T109:Lqb}{i':Nat}{t':Lqb}(h0:(i:Int)<(n:Int))(h1:l[i]? = some [y100,y101,y102,y103,y104,y105])(h2:uni 6 l)(h3:y101≠5)(h4:y101=7)(h5:is=true)(h6:(cT x1)=false)(h7:rA dl sk dc ov [y100,y101,y102,y103,y104,y105] b106 t T107)(h8:b106=true)(h9:bKx dl sk dc ov [y100,y101,y102,y103,y104,y105] b108 T107 T109)(h10:b108=false)(h11:inR (((i+1):Nat):Int))(ei':i'=(i+1))(et'e:aG t'=(aG T109))(et'k:t'.length=T109.length):aC Tp 7 fC (bR dl sk dc ov x0 x1 x2 x3 x4 x5 is i l n (aG t) t.length) .normal (bR dl sk dc ov x0 x1 x2 x3 x4 x5 is i' l n (aG t') t'.length):=by
 subst ei';have raw:aC Tp 7 fC (bR dl sk dc ov x0 x1 x2 x3 x4 x5 is i l n (aG t) t.length) .normal (bR dl sk dc ov x0 x1 x2 x3 x4 x5 is (i+1) l n (aG T109) T109.length):=aC.fin (g:=⟨(rng [(0,1),(2,2),(7,2),(10,22),(35,39)]),[7],[],[]⟩) (o:=[bT,.x (dcE y100 y101 y102 y103 y104 y105),bF,bF,bF,bF,bT,bT,bT,.c (pB (cT x1)) [],bT,bF,bT,bF,bT,bT,bT,bT,bT,bT,.c (pB b106) (vU dl sk dc ov T107),bT,bT,bT,bT,bT,bF,bF,bF,bF,.c (pB b108) (vU dl sk dc ov T109),bT,bF,bT,bF]) (l:=[_,_,_,_,_,FC Tp 157 [(.p (dcE y100 y101 y102 y103 y104 y105)),(.ptr 2 0),(.ptr 1 0)] [(2,vB2),(1,(.box 33 [(.p ov)])),(4,(.box 207 [(.mp 3)])),(5,(vB5 dl sk dc)),(0,(vB0 dl sk dc)),(6,vB6),(3,(.mp (aG T107) T107.length))] 9 (pB b108) (vU dl sk dc ov T109),_,_,_,_,_,_,_,_,_,FC Tp 154 [(.p (dcE y100 y101 y102 y103 y104 y105)),(.ptr 4 0),(.ptr 5 0),(.ptr 0 0),(.ptr 2 0)] [(4,(.box 207 [(.mp 3)])),(5,(vB5 dl sk dc)),(0,(vB0 dl sk dc)),(2,vB2),(3,(.mp (aG t) t.length)),(6,vB6),(1,(.box 33 [(.p ov)]))] 9 (pB b106) (vU dl sk dc ov T107),_,_,_,_,_,_,_,_,_,_,_,_,_,_,_,_,_,_,_,_,0≤(i:Int)∧(i:Int)<(l.length:Int)∧(i*6)<(l.flatten.map aA).length,_]) (by kernel_rfl) (gc h11 (gc h10 (gc h8 (gc (bP h3) (gc h8 (gc (FMM.fc (ids:=[0,1,2,3,4,5,6]) h9 (by kernel_rfl)) (g4c (bP h3) (g4c h8 (gc (cL h6) (gc (FMM.fc (ids:=[0,1,2,3,4,5,6]) h7 (by kernel_rfl)) (g4c (cL h6) (g2c h5 (gc (bP h3) (gc (eW h4) (gc (bP h3) (gc (eW h4) (gc (fk 9 (mZ x1) rfl) (g3c (eW h4) (g4c (bP h3) (gc (aV (i:=i) h2 h1) (gc (bI (i:=i) h2 h1) (gc (cB (k:=6) (i:=(i:Int)) (by decide) h2 (kQ2 _) h1) (gc (aZ h0) gn)))))))))))))))))))))))
 exact raw.cast (by rw [et'e,et'k])
theorem aYv{ov:PV}{x0 x1 x2 x3 x4 x5:Int}{is:Bool}{i:Nat}{l:Lqq}{n:Nat}{t:Lqb}{y100 y101 y102 y103 y104 y105:Int}{b106:Bool}{T107:Lqb}{i':Nat}{t':Lqb}(h0:(i:Int)<(n:Int))(h1:l[i]? = some [y100,y101,y102,y103,y104,y105])(h2:uni 6 l)(h3:y101≠5)(h4:y101=7)(h5:is=true)(h6:(cT x1)=false)(h7:rA dl sk dc ov [y100,y101,y102,y103,y104,y105] b106 t T107)(h8:b106=false)(h9:inR (((i+1):Nat):Int))(ei':i'=(i+1))(et'e:aG t'=(aG T107))(et'k:t'.length=T107.length):aC Tp 7 fC (bR dl sk dc ov x0 x1 x2 x3 x4 x5 is i l n (aG t) t.length) .normal (bR dl sk dc ov x0 x1 x2 x3 x4 x5 is i' l n (aG t') t'.length):=by
 subst ei';have raw:aC Tp 7 fC (bR dl sk dc ov x0 x1 x2 x3 x4 x5 is i l n (aG t) t.length) .normal (bR dl sk dc ov x0 x1 x2 x3 x4 x5 is (i+1) l n (aG T107) T107.length):=aC.fin (g:=⟨(rng [(0,1),(2,2),(7,2),(10,22),(35,39)]),[7],[],[]⟩) (o:=[bT,.x (dcE y100 y101 y102 y103 y104 y105),bF,bF,bF,bF,bT,bT,bT,.c (pB (cT x1)) [],bT,bF,bT,bF,bT,bT,bT,bT,bT,bT,.c (pB b106) (vU dl sk dc ov T107),bT,bF,bF,bF,bF,bF,bF]) (l:=[_,_,_,_,_,_,_,_,FC Tp 154 [(.p (dcE y100 y101 y102 y103 y104 y105)),(.ptr 4 0),(.ptr 5 0),(.ptr 0 0),(.ptr 2 0)] [(4,(.box 207 [(.mp 3)])),(5,(vB5 dl sk dc)),(0,(vB0 dl sk dc)),(2,vB2),(3,(.mp (aG t) t.length)),(6,vB6),(1,(.box 33 [(.p ov)]))] 9 (pB b106) (vU dl sk dc ov T107),_,_,_,_,_,_,_,_,_,_,_,_,_,_,_,_,_,_,_,_,0≤(i:Int)∧(i:Int)<(l.length:Int)∧(i*6)<(l.flatten.map aA).length,_]) (by kernel_rfl) (gc h9 (g6c h8 (gc (cL h6) (gc (FMM.fc (ids:=[0,1,2,3,4,5,6]) h7 (by kernel_rfl)) (g4c (cL h6) (g2c h5 (gc (bP h3) (gc (eW h4) (gc (bP h3) (gc (eW h4) (gc (fk 9 (mZ x1) rfl) (g3c (eW h4) (g4c (bP h3) (gc (aV (i:=i) h2 h1) (gc (bI (i:=i) h2 h1) (gc (cB (k:=6) (i:=(i:Int)) (by decide) h2 (kQ2 _) h1) (gc (aZ h0) gn)))))))))))))))))
 exact raw.cast (by rw [et'e,et'k])
theorem aYw{ov:PV}{x0 x1 x2 x3 x4 x5:Int}{is:Bool}{i:Nat}{l:Lqq}{n:Nat}{t:Lqb}{y100 y101 y102 y103 y104 y105:Int}{i':Nat}(h0:(i:Int)<(n:Int))(h1:l[i]? = some [y100,y101,y102,y103,y104,y105])(h2:uni 6 l)(h3:y101≠5)(h4:y101=7)(h5:is=true)(h6:(cT x1)=true)(h7:inR (((i+1):Nat):Int))(ei':i'=(i+1)):aC Tp 7 fC (bR dl sk dc ov x0 x1 x2 x3 x4 x5 is i l n (aG t) t.length) .normal (bR dl sk dc ov x0 x1 x2 x3 x4 x5 is i' l n (aG t) t.length):=by
 subst ei';exact aC.fin (g:=⟨(rng [(0,1),(2,2),(7,2),(10,22),(35,39)]),[7],[],[]⟩) (o:=[bT,.x (dcE y100 y101 y102 y103 y104 y105),bF,bF,bF,bF,bT,bT,bT,.c (pB (cT x1)) [],bT,bF,bT,bF,bT,bT,bF,bF,bF,bF,bF]) (l:=[_,_,_,_,_,_,_,_,_,_,_,_,_,_,_,_,_,_,_,_,_,_,0≤(i:Int)∧(i:Int)<(l.length:Int)∧(i*6)<(l.flatten.map aA).length,_]) (by kernel_rfl) (gc h7 (g5c (aY h6) (g2c h5 (gc (bP h3) (gc (eW h4) (gc (bP h3) (gc (eW h4) (gc (fk 9 (mZ x1) rfl) (g3c (eW h4) (g4c (bP h3) (gc (aV (i:=i) h2 h1) (gc (bI (i:=i) h2 h1) (gc (cB (k:=6) (i:=(i:Int)) (by decide) h2 (kQ2 _) h1) (gc (aZ h0) gn))))))))))))))
theorem aYx{ov:PV}{x0 x1 x2 x3 x4 x5:Int}{is:Bool}{i:Nat}{l:Lqq}{n:Nat}{t:Lqb}{y100 y101 y102 y103 y104 y105:Int}{i':Nat}(h0:(i:Int)<(n:Int))(h1:l[i]? = some [y100,y101,y102,y103,y104,y105])(h2:uni 6 l)(h3:y101≠5)(h4:y101=7)(h5:is=false)(h6:inR (((i+1):Nat):Int))(ei':i'=(i+1)):aC Tp 7 fC (bR dl sk dc ov x0 x1 x2 x3 x4 x5 is i l n (aG t) t.length) .normal (bR dl sk dc ov x0 x1 x2 x3 x4 x5 is i' l n (aG t) t.length):=by
 subst ei';exact aC.fin (g:=⟨(rng [(0,1),(2,2),(7,2),(10,22),(35,39)]),[7],[],[]⟩) (o:=[bT,.x (dcE y100 y101 y102 y103 y104 y105),bF,bF,bF,bF,bT,bT,bT,.c (pB (cT x1)) [],bT,bF,bT,bF,bF,bF]) (l:=[_,_,_,_,_,_,_,_,_,_,_,_,_,_,_,_,_,0≤(i:Int)∧(i:Int)<(l.length:Int)∧(i*6)<(l.flatten.map aA).length,_]) (by kernel_rfl) (gc h6 (g2c h5 (gc (bP h3) (gc (eW h4) (gc (bP h3) (gc (eW h4) (gc (fk 9 (mZ x1) rfl) (g3c (eW h4) (g4c (bP h3) (gc (aV (i:=i) h2 h1) (gc (bI (i:=i) h2 h1) (gc (cB (k:=6) (i:=(i:Int)) (by decide) h2 (kQ2 _) h1) (gc (aZ h0) gn)))))))))))))
theorem aYy{ov:PV}{x0 x1 x2 x3 x4 x5:Int}{is:Bool}{i:Nat}{l:Lqq}{n:Nat}{t:Lqb}{y100 y101 y102 y103 y104 y105:Int}{i':Nat}(h0:(i:Int)<(n:Int))(h1:l[i]? = some [y100,y101,y102,y103,y104,y105])(h2:uni 6 l)(h3:y101≠5)(h4:y101≠7)(h5:is=true)(h6:inR (((i+1):Nat):Int))(ei':i'=(i+1)):aC Tp 7 fC (bR dl sk dc ov x0 x1 x2 x3 x4 x5 is i l n (aG t) t.length) .normal (bR dl sk dc ov x0 x1 x2 x3 x4 x5 is i' l n (aG t) t.length):=by
 subst ei';exact aC.fin (g:=⟨(rng [(0,1),(2,2),(7,2),(10,22),(35,39)]),[7],[],[]⟩) (o:=[bT,.x (dcE y100 y101 y102 y103 y104 y105),bF,bF,bF,bF,bF,bF,bF,bF,bF,bF,bF,bT,bT]) (l:=[_,_,_,_,_,_,_,_,_,_,_,_,_,_,_,_,0≤(i:Int)∧(i:Int)<(l.length:Int)∧(i*6)<(l.flatten.map aA).length,_]) (by kernel_rfl) (gc h6 (g2c h5 (gc (bP h3) (gc (bP h4) (gc (bP h3) (g4c (bP h4) (g4c (bP h3) (gc (aV (i:=i) h2 h1) (gc (bI (i:=i) h2 h1) (gc (cB (k:=6) (i:=(i:Int)) (by decide) h2 (kQ2 _) h1) (gc (aZ h0) gn)))))))))))
theorem aYz{ov:PV}{x0 x1 x2 x3 x4 x5:Int}{is:Bool}{i:Nat}{l:Lqq}{n:Nat}{t:Lqb}{y100 y101 y102 y103 y104 y105:Int}{i':Nat}(h0:(i:Int)<(n:Int))(h1:l[i]? = some [y100,y101,y102,y103,y104,y105])(h2:uni 6 l)(h3:y101≠5)(h4:y101≠7)(h5:is=false)(h6:inR (((i+1):Nat):Int))(ei':i'=(i+1)):aC Tp 7 fC (bR dl sk dc ov x0 x1 x2 x3 x4 x5 is i l n (aG t) t.length) .normal (bR dl sk dc ov x0 x1 x2 x3 x4 x5 is i' l n (aG t) t.length):=by
 subst ei';exact aC.fin (g:=⟨(rng [(0,1),(2,2),(7,2),(10,22),(35,39)]),[7],[],[]⟩) (o:=[bT,.x (dcE y100 y101 y102 y103 y104 y105),bF,bF,bF,bF,bF,bF,bF,bF,bF,bF,bF,bF,bF]) (l:=[_,_,_,_,_,_,_,_,_,_,_,_,_,_,_,_,0≤(i:Int)∧(i:Int)<(l.length:Int)∧(i*6)<(l.flatten.map aA).length,_]) (by kernel_rfl) (gc h6 (g2c h5 (gc (bP h3) (gc (bP h4) (gc (bP h3) (g4c (bP h4) (g4c (bP h3) (gc (aV (i:=i) h2 h1) (gc (bI (i:=i) h2 h1) (gc (cB (k:=6) (i:=(i:Int)) (by decide) h2 (kQ2 _) h1) (gc (aZ h0) gn)))))))))))
theorem aQb{ov:PV}{x0 x1 x2 x3 x4 x5:Int}{is:Bool}{i:Nat}{l:Lqq}{n:Nat}{t:Lqb}(h0:(n:Int)≤(i:Int)):aC Tp 7 fC (bR dl sk dc ov x0 x1 x2 x3 x4 x5 is i l n (aG t) t.length) (.exit 0) (bR dl sk dc ov x0 x1 x2 x3 x4 x5 is i l n (aG t) t.length):=by
 exact aC.fin (g:=⟨(rng [(0,1),(2,2),(7,2),(10,22),(35,39)]),[7],[],[]⟩) (o:=[bF]) (l:=[_]) (by kernel_rfl) (gc (bJ h0) gn)
theorem bFk{ov:PV}{T:Lqb}{x0 x1 x2 x3 x4 x5 z0 z1 z2 z3 z4 z5:Int}{b6:Bool}{T7:Lqb}(h0:bSb 155 dl sk dc ov [x0,x1,x2,x3,x4,x5] [z0,z1,z2,z3,z4,z5] b6 T T7):FMM Tp 156 [(.p (dcE x0 x1 x2 x3 x4 x5)),(.ptr 6 0)] (dA dl sk dc ov T) (.tup [(.p (dcE z0 z1 z2 z3 z4 z5)),(pB b6)]) (dA dl sk dc ov T7):=by
 exact FMM.fin (k:=7) (g:=⟨[],[],[],[]⟩) rfl Tryz.func156 rfl (o:=[.c (.tup [(.p (dcE z0 z1 z2 z3 z4 z5)),(pB b6)]) (vU dl sk dc ov T7)]) (l:=[FC Tp 153 [(.p (dcE x0 x1 x2 x3 x4 x5)),(.fn 155 [] []),(.ptr 0 0),(.ptr 2 0)] [(0,(vB0 dl sk dc)),(2,vB2),(4,(.box 207 [(.mp 3)])),(5,(vB5 dl sk dc)),(6,vB6),(1,(.box 33 [(.p ov)])),(3,(.mp (aG T) T.length))] 9 (.tup [(.p (dcE z0 z1 z2 z3 z4 z5)),(pB b6)]) (vU dl sk dc ov T7)]) (by kernel_rfl) (gc (FMM.fc (ids:=[0,1,2,3,4,5,6]) h0 (by kernel_rfl)) gn)
theorem bFl{ov:PV}{T:Lqb}{x0 x1 x2 x3 x4 x5 z0 z1 z2 z3 z4 z5:Int}{b6:Bool}{T7:Lqb}(h0:bSb 159 dl sk dc ov [x0,x1,x2,x3,x4,x5] [z0,z1,z2,z3,z4,z5] b6 T T7):FMM Tp 158 [(.p (dcE x0 x1 x2 x3 x4 x5)),(.ptr 6 0)] (dA dl sk dc ov T) (.tup [(.p (dcE z0 z1 z2 z3 z4 z5)),(pB b6)]) (dA dl sk dc ov T7):=by
 exact FMM.fin (k:=7) (g:=⟨[],[],[],[]⟩) rfl Tryz.func158 rfl (o:=[.c (.tup [(.p (dcE z0 z1 z2 z3 z4 z5)),(pB b6)]) (vU dl sk dc ov T7)]) (l:=[FC Tp 153 [(.p (dcE x0 x1 x2 x3 x4 x5)),(.fn 159 [] []),(.ptr 0 0),(.ptr 2 0)] [(0,(vB0 dl sk dc)),(2,vB2),(4,(.box 207 [(.mp 3)])),(5,(vB5 dl sk dc)),(6,vB6),(1,(.box 33 [(.p ov)])),(3,(.mp (aG T) T.length))] 9 (.tup [(.p (dcE z0 z1 z2 z3 z4 z5)),(pB b6)]) (vU dl sk dc ov T7)]) (by kernel_rfl) (gc (FMM.fc (ids:=[0,1,2,3,4,5,6]) h0 (by kernel_rfl)) gn)
theorem bSm{ov:PV}{T:Lqb}{x0 x1 x2 x3 x4 x5 z0 z1 z2 z3 z4 z5:Int}{b6:Bool}{T7:Lqb}{r0:Bool}(h0:aLv dl sk dc ov [x0,x1,x2,x3,x4,x5] [z0,z1,z2,z3,z4,z5] b6 T T7)(h1:b6=true)(er0:r0=(z1 == (8:Int))):FMM Tp 157 [(.p (dcE x0 x1 x2 x3 x4 x5)),(.ptr 2 0),(.ptr 1 0)] (dA dl sk dc ov T) (pB r0) (dA dl sk dc ov T7):=by
 subst er0;exact FMM.fin (k:=7) (g:=⟨[],[],[],[]⟩) rfl Tryz.func157 rfl (o:=[.c (.tup [(.p (dcE z0 z1 z2 z3 z4 z5)),(pB b6)]) (vU dl sk dc ov T7),bT]) (l:=[_,FC Tp 156 [(.p (dcE x0 x1 x2 x3 x4 x5)),(.ptr 6 0)] [(6,vB6),(0,(vB0 dl sk dc)),(2,vB2),(4,(.box 207 [(.mp 3)])),(5,(vB5 dl sk dc)),(1,(.box 33 [(.p ov)])),(3,(.mp (aG T) T.length))] 8 (.tup [(.p (dcE z0 z1 z2 z3 z4 z5)),(pB b6)]) (vU dl sk dc ov T7)]) (by kernel_rfl) (gc h1 (gc (FMM.fc (ids:=[0,1,2,3,4,5,6]) h0 (by kernel_rfl)) gn))
theorem bSn{ov:PV}{T:Lqb}{x0 x1 x2 x3 x4 x5 z0 z1 z2 z3 z4 z5:Int}{b6:Bool}{T7:Lqb}{b8:Bool}(h0:aLv dl sk dc ov [x0,x1,x2,x3,x4,x5] [z0,z1,z2,z3,z4,z5] b6 T T7)(h1:b6=false)(h2:sJ ov x0 b8):FMM Tp 157 [(.p (dcE x0 x1 x2 x3 x4 x5)),(.ptr 2 0),(.ptr 1 0)] (dA dl sk dc ov T) (pB b8) (dA dl sk dc ov T7):=by
 exact FMM.fin (k:=7) (g:=⟨[],[],[],[]⟩) rfl Tryz.func157 rfl (o:=[.c (.tup [(.p (dcE z0 z1 z2 z3 z4 z5)),(pB b6)]) (vU dl sk dc ov T7),bF,.c (pB b8) []]) (l:=[FC Tp 52 [(.p ov),(pI x0)] [] 9 (pB b8) [],_,FC Tp 156 [(.p (dcE x0 x1 x2 x3 x4 x5)),(.ptr 6 0)] [(6,vB6),(0,(vB0 dl sk dc)),(2,vB2),(4,(.box 207 [(.mp 3)])),(5,(vB5 dl sk dc)),(1,(.box 33 [(.p ov)])),(3,(.mp (aG T) T.length))] 8 (.tup [(.p (dcE z0 z1 z2 z3 z4 z5)),(pB b6)]) (vU dl sk dc ov T7)]) (by kernel_rfl) (gc (FV.fc (h2 _) rfl) (gc h1 (gc (FMM.fc (ids:=[0,1,2,3,4,5,6]) h0 (by kernel_rfl)) gn)))
theorem bSo{ov:PV}{T:Lqb}{x0 x1 x2 x3 x4 x5 z0 z1 z2 z3 z4 z5:Int}{b6:Bool}{T7:Lqb}{m8:Int}{T9:Lqb}(h0:bSc dl sk dc ov [x0,x1,x2,x3,x4,x5] [z0,z1,z2,z3,z4,z5] b6 T T7)(h1:b6=true)(h2:zB dl sk dc ov [z0,z1,z2,z3,z4,z5] m8 T7 T9):FMM Tp 160 [(.p (dcE x0 x1 x2 x3 x4 x5)),(.ptr 2 0)] (dA dl sk dc ov T) (pI m8) (dA dl sk dc ov T9):=by
 exact FMM.fin (k:=7) (g:=⟨[],[],[],[]⟩) rfl Tryz.func160 rfl (o:=[.c (.tup [(.p (dcE z0 z1 z2 z3 z4 z5)),(pB b6)]) (vU dl sk dc ov T7),bT,.c (pI m8) (vU dl sk dc ov T9)]) (l:=[FC Tp 160 [(.p (dcE z0 z1 z2 z3 z4 z5)),(.ptr 2 0)] [(2,vB2),(4,(.box 207 [(.mp 3)])),(5,(vB5 dl sk dc)),(0,(vB0 dl sk dc)),(6,vB6),(1,(.box 33 [(.p ov)])),(3,(.mp (aG T7) T7.length))] 9 (pI m8) (vU dl sk dc ov T9),_,FC Tp 158 [(.p (dcE x0 x1 x2 x3 x4 x5)),(.ptr 6 0)] [(6,vB6),(0,(vB0 dl sk dc)),(2,vB2),(4,(.box 207 [(.mp 3)])),(5,(vB5 dl sk dc)),(1,(.box 33 [(.p ov)])),(3,(.mp (aG T) T.length))] 8 (.tup [(.p (dcE z0 z1 z2 z3 z4 z5)),(pB b6)]) (vU dl sk dc ov T7)]) (by kernel_rfl) (gc (FMM.fc (ids:=[0,1,2,3,4,5,6]) h2 (by kernel_rfl)) (gc h1 (gc (FMM.fc (ids:=[0,1,2,3,4,5,6]) h0 (by kernel_rfl)) gn)))
theorem bSp{ov:PV}{T:Lqb}{x0 x1 x2 x3 x4 x5 z0 z1 z2 z3 z4 z5:Int}{b6:Bool}{T7:Lqb}(h0:bSc dl sk dc ov [x0,x1,x2,x3,x4,x5] [z0,z1,z2,z3,z4,z5] b6 T T7)(h1:b6=false):FMM Tp 160 [(.p (dcE x0 x1 x2 x3 x4 x5)),(.ptr 2 0)] (dA dl sk dc ov T) (pI x4) (dA dl sk dc ov T7):=by
 exact FMM.fin (k:=7) (g:=⟨[],[],[],[]⟩) rfl Tryz.func160 rfl (o:=[.c (.tup [(.p (dcE z0 z1 z2 z3 z4 z5)),(pB b6)]) (vU dl sk dc ov T7),bF]) (l:=[_,FC Tp 158 [(.p (dcE x0 x1 x2 x3 x4 x5)),(.ptr 6 0)] [(6,vB6),(0,(vB0 dl sk dc)),(2,vB2),(4,(.box 207 [(.mp 3)])),(5,(vB5 dl sk dc)),(1,(.box 33 [(.p ov)])),(3,(.mp (aG T) T.length))] 8 (.tup [(.p (dcE z0 z1 z2 z3 z4 z5)),(pB b6)]) (vU dl sk dc ov T7)]) (by kernel_rfl) (gc h1 (gc (FMM.fc (ids:=[0,1,2,3,4,5,6]) h0 (by kernel_rfl)) gn))
theorem aId:FMM Tp 87 [(.rp (aH dl sk dc) 0),(.p cC)] [] iB [some (vB0 dl sk dc),some (.box 33 [(.p cC)]),some vB2,some (.mp [] 0),some (.box 207 [(.mp 3)]),some (vB5 dl sk dc),some vB6]:=by
 exact FMM.fin (k:=0) (g:=⟨[],[0,1,3,4,5,6,7],[],[]⟩) rfl Tryz.func87 rfl (o:=[]) (l:=[]) (by kernel_rfl) (gn)
theorem pM{on:Nat}{ol:List PV}:FMM Tp 87 [(.rp (aH dl sk dc) 0),(.p (.sl on ol))] [] iB [some (vB0 dl sk dc),some (.box 33 [(.p (.sl on ol))]),some vB2,some (.mp [] 0),some (.box 207 [(.mp 3)]),some (vB5 dl sk dc),some vB6]:=by
 exact FMM.fin (k:=0) (g:=⟨[],[0,1,3,4,5,6,7],[],[]⟩) rfl Tryz.func87 rfl (o:=[]) (l:=[]) (by kernel_rfl) (gn)
end
section
section
variable {dc:Lqq}
theorem aHx(h:bZ dc){n:Int}(hn:1≤n∧n≤9999):cH .i64 (abE dc) (.int .i64 n):=by
 have ha:=aQe h;refine ⟨fun e he => ?_,nO (by omega),?_⟩
 ·obtain ⟨p,hp,rfl⟩:=dF.1 he
  obtain ⟨q1,q2,q3⟩:=ha.mem p hp;cases hx:p.2 with
  | nil=>exact absurd hx q2
  | cons x r =>
   have:x∈dc.reverse.filter fun x=>dAb x == p.1:=by rw [← q3,hx];exact gZ ..
   obtain ⟨h1,h2⟩:=vB.1 this;have:=kM h x (yY.1 h1);have h2:dAb x=p.1:=by simpa using h2
   exact nO (by omega)
 ·have:(abE dc).map (fun e=>iP e.1)=(abM dc).map (·.1):=by
   unfold abE;rw [sH];rfl
  rw [this];exact ha.nd
theorem aHy(h:bZ dc){n:Int}(hn:0<n):(dH (abE dc) (.int .i64 n)=true∧eY (abE dc) (.int .i64 n)=some (.sl (bU dc n).length ((bU dc n).flatten.map aA)))∨(dH (abE dc) (.int .i64 n)=false∧bU dc n=[]):=by
 have ha:=aQe h;have e1:dH (abE dc) (.int .i64 n)=(abM dc).any fun e=>e.1 == n:=by
  unfold dH abE;rw [List.any_map]
  congr 1
 have e2:eY (abE dc) (.int .i64 n)=((abM dc).find? fun e=>e.1 == n).map fun e => .sl e.2.length (e.2.flatten.map aA):=by
  unfold eY abE;generalize abM dc=L
  induction L with
  | nil=>rfl
  | cons p L ih =>
   rw [iJ,List.find?_cons,List.find?_cons];have e:(decide (iP (((Value.int IntKind.i64 p.1),PV.sl p.2.length (p.2.flatten.map aA)):Value × PV).1=iP (Value.int IntKind.i64 n)))=(p.1 == n):=by
    show decide (p.1=n)=(p.1 == n);rw [Bool.eq_iff_iff];simp
   rw [e];cases p.1 == n with
   | true=>rfl
   | false=>exact ih
 rw [e1,e2];cases hf:(abM dc).find? fun e=>e.1 == n with
 | some e =>
  have h1:=wK hf;have h2:e.1=n:=by simpa using aWe hf
  obtain ⟨q1,q2,q3⟩:=ha.mem e h1;refine .inl ⟨List.any_eq_true.2 ⟨e,h1,by simpa using h2⟩,?_⟩
  have:e.2=bU dc n:=by rw [q3,h2];rfl
  rw [Option.map_some,this]
 | none =>
  refine .inr ⟨?_,?_⟩
  ·rw [List.any_eq_false]
   intro e he;exact aHd.1 hf e he
  ·rw [← bFq h hn]
   unfold yI;rw [hf]
theorem iA(h:bZ dc)(n:Int):uni 6 (bU dc n):=fun y hy=>h.ud y (eJ hy).1
theorem wS(h:bZ dc)(n:Int):(bU dc n).length≤1000:=by
 have:=uZ (fun x=>dAb x == n) dc.reverse
 have h2:=h.len;rw [List.length_reverse] at this
 unfold bU;omega
theorem aTg{α:Type}{p:α→Bool}{l:List α}{i:Nat}{x:α}(hi:l[i]? = some x)(hp:p x=true)(hj:∀ j y,j<i→l[j]? = some y→p y=false):l.find? p=some x:=by
 obtain ⟨h1,h2⟩:=kQ3.1 hi;rw [List.find?_eq_some_iff_getElem];exact ⟨hp,i,h1,h2,fun j h=>by
  rw [hj j l[j] h (kQ0 (by omega))];rfl⟩
end
def zero6:List Int:=[0,0,0,0,0,0]
section
variable (dl:Int) (sk dc:Lqq) (oc:List Int) (ov:PV)
def pU(x:List Int):Prop:=∀ T,cK dl oc dc T→∃ T',cK dl oc dc T'∧rA dl sk dc ov x (dQ dl oc dc x) T T'
def bPe(g:Nat)(q:List Int→Bool)(x:List Int):Prop:=∀ T,cK dl oc dc T→∃ T',cK dl oc dc T'∧bSb g dl sk dc ov x (((bU dc (dN x)).find? fun y=>q y && dQ dl oc dc y).getD zero6) ((bU dc (dN x)).find? fun y=>q y && dQ dl oc dc y).isSome T T'
def bPf(x:List Int):Prop:=∀ T,cK dl oc dc T→∃ T',cK dl oc dc T'∧aLv dl sk dc ov x ((tR dl oc dc x).getD zero6) (tR dl oc dc x).isSome T T'
def bPg(x:List Int):Prop:=∀ T,cK dl oc dc T→∃ T',cK dl oc dc T'∧bSc dl sk dc ov x ((aIe dl oc dc x).getD zero6) (aIe dl oc dc x).isSome T T'
def aTh(x:List Int):Prop:=∀ T,cK dl oc dc T→∃ T',cK dl oc dc T'∧bKx dl sk dc ov x (aBx dl oc dc x) T T'
def bPh(x:List Int):Prop:=∀ T,cK dl oc dc T→∃ T',cK dl oc dc T'∧zB dl sk dc ov x (nA dl oc dc x) T T'
end
section
variable {dl:Int} {sk dc:Lqq} {oc:List Int} {ov:PV}
theorem aYo(l:Lqq)(hu:uni 6 l)(hl:l.length≤1000)(hC:∀ y∈l,pU dl sk dc oc ov y)(T:Lqb)(hT:cK dl oc dc T) :
  (∃ i T' y,l[i]? = some y∧(cT (dK y) && dQ dl oc dc y)=true∧(∀ j z,j<i→l[j]? = some z→(cT (dK z) && dQ dl oc dc z)=false)∧cK dl oc dc T'∧aJ Tp 7 (sub (cd Tryz.f153) [1,0,1,0,0]) (cR dl sk dc ov 0 l l.length (aG T) T.length 0 0 0 0 0 0) .ret (cE (cR dl sk dc ov i l l.length (aG T') T'.length (y.getD 0 0) (y.getD 1 0) (y.getD 2 0) (y.getD 3 0) (y.getD 4 0) (y.getD 5 0)) [(7,.kb true)])) ∨
  ((l.find? fun y=>cT (dK y) && dQ dl oc dc y)=none∧∃ T',cK dl oc dc T'∧aJ Tp 7 (sub (cd Tryz.f153) [1,0,1,0,0]) (cR dl sk dc ov 0 l l.length (aG T) T.length 0 0 0 0 0 0) (.exit 0) (cR dl sk dc ov l.length l l.length (aG T') T'.length 0 0 0 0 0 0)):=by
 have hx:∀ i,i<l.length→∃ a b c d e f,l[i]? = some [a,b,c,d,e,f]∧l.getD i []=[a,b,c,d,e,f]∧[a,b,c,d,e,f]∈l:=fun i hi=>by
  obtain ⟨a,b,c,d,e,f,h⟩:=len6 (hu _ (iQ hi));have h1:l[i]? = some [a,b,c,d,e,f]:=by rw [kQ0 hi,h]
  exact ⟨a,b,c,d,e,f,h1,by rw [kQ4,h1];rfl,kQ5 h1⟩
 rcases aJ.exF (P:=Tp) (k:=7) (b:=sub (cd Tryz.f153) [1,0,1,0,0]) (e1 := .ret) (e2 := .exit 0) (fun i T=>cR dl sk dc ov i l l.length (aG T) T.length 0 0 0 0 0 0)
  (fun i T=>cE (cR dl sk dc ov i l l.length (aG T) T.length ((l.getD i []).getD 0 0) ((l.getD i []).getD 1 0) ((l.getD i []).getD 2 0) ((l.getD i []).getD 3 0) ((l.getD i []).getD 4 0) ((l.getD i []).getD 5 0)) [(7,.kb true)])
  (fun T=>cR dl sk dc ov l.length l l.length (aG T) T.length 0 0 0 0 0 0) (cK dl oc dc) (by simp) (by simp) (fun i=>cT (dK (l.getD i [])) && dQ dl oc dc (l.getD i [])) l.length
  (fun i T1 hi h1 hp=>by
   obtain ⟨a,b,c,d,e,f,g1,g2,g3⟩:=hx i hi;rw [g2] at hp
   cases hq:cT b with
   | false=>exact ⟨T1,h1,aPv (by omega) g1 hu hq (aP (by omega)) rfl⟩
   | true =>
    have hp:(cT b && dQ dl oc dc [a,b,c,d,e,f])=false:=hp;rw [hq,iR] at hp
    obtain ⟨T2,h2,c2⟩:=hC _ g3 T1 h1;rw [hp] at c2
    exact ⟨T2,h2,aPu (by omega) g1 hu hq c2 rfl (aP (by omega)) rfl rfl rfl⟩)
  (fun i T1 hi h1 hp=>by
   obtain ⟨a,b,c,d,e,f,g1,g2,g3⟩:=hx i hi;rw [g2] at hp ⊢
   rw [kQ7] at hp
   obtain ⟨T2,h2,c2⟩:=hC _ g3 T1 h1;rw [hp.2] at c2
   exact ⟨T2,h2,aPt (by omega) g1 hu hp.1 c2 rfl rfl rfl⟩)
  (fun T1 h1=>aPw (by omega)) hT with ⟨i,T',h1,h2,h3,h4,h5⟩ | ⟨h1,T',h2,h3⟩
 ·obtain ⟨a,b,c,d,e,f,g1,g2,g3⟩:=hx i h1
  rw [g2] at h2 h5
  refine .inl ⟨i,T',_,g1,h2,fun j z hj hz => ?_,h4,h5⟩
  have:=h3 j hj;rw [kQ4,hz] at this
  exact this
 ·refine .inr ⟨?_,T',h2,h3⟩
  rw [aHd];intro y hy;obtain ⟨i,hi,rfl⟩:=List.mem_iff_getElem.1 hy;have:=h1 i hi;rw [kQ4,kQ0 hi] at this
  simpa using this
theorem bKv(hd:bZ dc){x:List Int}(hx:x∈dc)(hC:∀ y∈bU dc (dN x),pU dl sk dc oc ov y):bPe dl sk dc oc ov 155 (fun y=>cT (dK y)) x:=fun T hT=>by
 have hn:=dS hd hx;have hk:=aHx hd hn;have hL:=aYo (bU dc (dN x)) (iA hd _) (wS hd _) hC T hT;obtain ⟨x0,x1,x2,x3,x4,x5,rfl⟩:=len6 (hd.ud x hx)
 rcases aHy hd (n:=dN [x0,x1,x2,x3,x4,x5]) (by omega) with ⟨h1,h2⟩ | ⟨h1,h2⟩
 ·rcases hL with ⟨i,T',y,q1,q2,q3,q4,q5⟩ | ⟨q1,T',q2,q3⟩
  ·have hf:=aTg (p:=fun y=>cT (dK y) && dQ dl oc dc y) q1 q2 q3
   rw [hf];obtain ⟨a,b,c,d,e,f,rfl⟩:=len6 (iA hd _ _ (kQ5 q1));exact ⟨T',q4,bLc hk h1 h2 q5⟩
  ·rw [q1]
   exact ⟨T',q2,bLb hk h1 h2 q3⟩
 ·rw [h2] at hL ⊢
  rcases hL with ⟨i,T',y,q1,q2,q3,q4,q5⟩ | ⟨q1,T',q2,q3⟩
  ·simp at q1
  ·exact ⟨T',q2,bLd hk h1 q3⟩
theorem aYp(l:Lqq)(hu:uni 6 l)(hl:l.length≤1000)(hC:∀ y∈l,pU dl sk dc oc ov y)(T:Lqb)(hT:cK dl oc dc T) :
  (∃ i T' y,l[i]? = some y∧(dK y == 6 && dQ dl oc dc y)=true∧(∀ j z,j<i→l[j]? = some z→(dK z == 6 && dQ dl oc dc z)=false)∧cK dl oc dc T'∧aJ Tp 7 (sub (cd Tryz.f153) [1,0,1,0,0]) (cS dl sk dc ov 0 l l.length (aG T) T.length 0 0 0 0 0 0) .ret (cE (cS dl sk dc ov i l l.length (aG T') T'.length (y.getD 0 0) (y.getD 1 0) (y.getD 2 0) (y.getD 3 0) (y.getD 4 0) (y.getD 5 0)) [(7,.kb true)])) ∨
  ((l.find? fun y=>dK y == 6 && dQ dl oc dc y)=none∧∃ T',cK dl oc dc T'∧aJ Tp 7 (sub (cd Tryz.f153) [1,0,1,0,0]) (cS dl sk dc ov 0 l l.length (aG T) T.length 0 0 0 0 0 0) (.exit 0) (cS dl sk dc ov l.length l l.length (aG T') T'.length 0 0 0 0 0 0)):=by
 have hx:∀ i,i<l.length→∃ a b c d e f,l[i]? = some [a,b,c,d,e,f]∧l.getD i []=[a,b,c,d,e,f]∧[a,b,c,d,e,f]∈l:=fun i hi=>by
  obtain ⟨a,b,c,d,e,f,h⟩:=len6 (hu _ (iQ hi));have h1:l[i]? = some [a,b,c,d,e,f]:=by rw [kQ0 hi,h]
  exact ⟨a,b,c,d,e,f,h1,by rw [kQ4,h1];rfl,kQ5 h1⟩
 rcases aJ.exF (P:=Tp) (k:=7) (b:=sub (cd Tryz.f153) [1,0,1,0,0]) (e1 := .ret) (e2 := .exit 0) (fun i T=>cS dl sk dc ov i l l.length (aG T) T.length 0 0 0 0 0 0)
  (fun i T=>cE (cS dl sk dc ov i l l.length (aG T) T.length ((l.getD i []).getD 0 0) ((l.getD i []).getD 1 0) ((l.getD i []).getD 2 0) ((l.getD i []).getD 3 0) ((l.getD i []).getD 4 0) ((l.getD i []).getD 5 0)) [(7,.kb true)])
  (fun T=>cS dl sk dc ov l.length l l.length (aG T) T.length 0 0 0 0 0 0) (cK dl oc dc) (by simp) (by simp) (fun i=>dK (l.getD i []) == 6 && dQ dl oc dc (l.getD i [])) l.length
  (fun i T1 hi h1 hp=>by
   obtain ⟨a,b,c,d,e,f,g1,g2,g3⟩:=hx i hi;rw [g2] at hp
   cases hq:(b == 6) with
   | false=>exact ⟨T1,h1,aPz (by omega) g1 hu hq (aP (by omega)) rfl⟩
   | true =>
    have hp:((b == 6) && dQ dl oc dc [a,b,c,d,e,f])=false:=hp;rw [hq,iR] at hp
    obtain ⟨T2,h2,c2⟩:=hC _ g3 T1 h1;rw [hp] at c2
    exact ⟨T2,h2,aPy (by omega) g1 hu hq c2 rfl (aP (by omega)) rfl rfl rfl⟩)
  (fun i T1 hi h1 hp=>by
   obtain ⟨a,b,c,d,e,f,g1,g2,g3⟩:=hx i hi;rw [g2] at hp ⊢
   rw [kQ7] at hp
   obtain ⟨T2,h2,c2⟩:=hC _ g3 T1 h1;rw [hp.2] at c2
   exact ⟨T2,h2,aPx (by omega) g1 hu hp.1 c2 rfl rfl rfl⟩)
  (fun T1 h1=>aQa (by omega)) hT with ⟨i,T',h1,h2,h3,h4,h5⟩ | ⟨h1,T',h2,h3⟩
 ·obtain ⟨a,b,c,d,e,f,g1,g2,g3⟩:=hx i h1
  rw [g2] at h2 h5
  refine .inl ⟨i,T',_,g1,h2,fun j z hj hz => ?_,h4,h5⟩
  have:=h3 j hj;rw [kQ4,hz] at this
  exact this
 ·refine .inr ⟨?_,T',h2,h3⟩
  rw [aHd];intro y hy;obtain ⟨i,hi,rfl⟩:=List.mem_iff_getElem.1 hy;have:=h1 i hi;rw [kQ4,kQ0 hi] at this
  simpa using this
theorem bKw(hd:bZ dc){x:List Int}(hx:x∈dc)(hC:∀ y∈bU dc (dN x),pU dl sk dc oc ov y):bPe dl sk dc oc ov 159 (fun y=>dK y == 6) x:=fun T hT=>by
 have hn:=dS hd hx;have hk:=aHx hd hn;have hL:=aYp (bU dc (dN x)) (iA hd _) (wS hd _) hC T hT;obtain ⟨x0,x1,x2,x3,x4,x5,rfl⟩:=len6 (hd.ud x hx)
 rcases aHy hd (n:=dN [x0,x1,x2,x3,x4,x5]) (by omega) with ⟨h1,h2⟩ | ⟨h1,h2⟩
 ·rcases hL with ⟨i,T',y,q1,q2,q3,q4,q5⟩ | ⟨q1,T',q2,q3⟩
  ·have hf:=aTg (p:=fun y=>dK y == 6 && dQ dl oc dc y) q1 q2 q3
   rw [hf];obtain ⟨a,b,c,d,e,f,rfl⟩:=len6 (iA hd _ _ (kQ5 q1));exact ⟨T',q4,bLf hk h1 h2 q5⟩
  ·rw [q1]
   exact ⟨T',q2,bLe hk h1 h2 q3⟩
 ·rw [h2] at hL ⊢
  rcases hL with ⟨i,T',y,q1,q2,q3,q4,q5⟩ | ⟨q1,T',q2,q3⟩
  ·simp at q1
  ·exact ⟨T',q2,bLg hk h1 q3⟩

theorem bFg(hd:bZ dc){x:List Int}(hx:x∈dc)(hC:∀ y∈bU dc (dN x),pU dl sk dc oc ov y):bPf dl sk dc oc ov x:=fun T hT=>by
 obtain ⟨T',h1,h2⟩:=bKv hd hx hC T hT;rw [← aCa hd hx] at h2
 obtain ⟨x0,x1,x2,x3,x4,x5,rfl⟩:=len6 (hd.ud x hx);have hz:∀ z,tR dl oc dc [x0,x1,x2,x3,x4,x5]=some z→z.length=6:=fun z hz=>by
  rw [aCa hd hx] at hz
  exact iA hd _ z (wK hz)
 cases hr:tR dl oc dc [x0,x1,x2,x3,x4,x5] with
 | none =>
  rw [hr] at h2
  exact ⟨T',h1,bFk (z0:=0) (z1:=0) (z2:=0) (z3:=0) (z4:=0) (z5:=0) h2⟩
 | some z =>
  obtain ⟨a,b,c,d,e,f,rfl⟩:=len6 (hz z hr);rw [hr] at h2
  exact ⟨T',h1,bFk h2⟩
theorem bRz(hd:bZ dc){x:List Int}(hx:x∈dc)(hC:∀ y∈bU dc (dN x),pU dl sk dc oc ov y):bPg dl sk dc oc ov x:=fun T hT=>by
 obtain ⟨T',h1,h2⟩:=bKw hd hx hC T hT;rw [← aCb hd hx] at h2
 obtain ⟨x0,x1,x2,x3,x4,x5,rfl⟩:=len6 (hd.ud x hx);have hz:∀ z,aIe dl oc dc [x0,x1,x2,x3,x4,x5]=some z→z.length=6:=fun z hz=>by
  rw [aCb hd hx] at hz
  exact iA hd _ z (wK hz)
 cases hr:aIe dl oc dc [x0,x1,x2,x3,x4,x5] with
 | none =>
  rw [hr] at h2
  exact ⟨T',h1,bFl (z0:=0) (z1:=0) (z2:=0) (z3:=0) (z4:=0) (z5:=0) h2⟩
 | some z =>
  obtain ⟨a,b,c,d,e,f,rfl⟩:=len6 (hz z hr);rw [hr] at h2
  exact ⟨T',h1,bFl h2⟩
theorem bFh(hd:bZ dc)(hov:∀ n,sJ ov n (oc.contains n)){x:List Int}(hx:x∈dc)(hC:∀ y∈bU dc (dN x),pU dl sk dc oc ov y):aTh dl sk dc oc ov x:=fun T hT=>by
 obtain ⟨T',h1,h2⟩:=bFg hd hx hC T hT;rw [bSs hd hx];obtain ⟨x0,x1,x2,x3,x4,x5,rfl⟩:=len6 (hd.ud x hx);have hz:∀ z,tR dl oc dc [x0,x1,x2,x3,x4,x5]=some z→z.length=6:=fun z hz=>by
  rw [aCa hd hx] at hz
  exact iA hd _ z (wK hz)
 cases hr:tR dl oc dc [x0,x1,x2,x3,x4,x5] with
 | none =>
  rw [hr] at h2
  exact ⟨T',h1,bSn (z0:=0) (z1:=0) (z2:=0) (z3:=0) (z4:=0) (z5:=0) h2 rfl (hov _)⟩
 | some z =>
  obtain ⟨a,b,c,d,e,f,rfl⟩:=len6 (hz z hr);rw [hr] at h2
  exact ⟨T',h1,bSm h2 rfl rfl⟩
abbrev pL(dl:Int)(oc:List Int)(dc:Lqq)(x y:List Int):Bool:=vF x y && dQ dl oc dc y && (dK y == 5 || aBx dl oc dc y)
theorem bFi{x0 x1 x2 x3 x4 x5:Int}(hd:bZ dc)(l:Lqq)(hu:uni 6 l)(hl:l.length≤1000)(hC:∀ y∈l,pU dl sk dc oc ov y)(hU:∀ y∈l,aTh dl sk dc oc ov y)(T:Lqb)(hT:cK dl oc dc T)(is:Bool) :
  ∃ T',cK dl oc dc T'∧aJ Tp 7 (sub (cd Tryz.f154) [1,1,1,0,1,0,0]) (bR dl sk dc ov x0 x1 x2 x3 x4 x5 is 0 l l.length (aG T) T.length) (.exit 0) (bR dl sk dc ov x0 x1 x2 x3 x4 x5 (is && !(l.any (pL dl oc dc [x0,x1,x2,x3,x4,x5]))) l.length l l.length (aG T') T'.length):=by
 have hx:∀ i,i<l.length→∃ a b c d e f,l[i]? = some [a,b,c,d,e,f]∧[a,b,c,d,e,f]∈l:=fun i hi=>by
  obtain ⟨a,b,c,d,e,f,h⟩:=len6 (hu _ (iQ hi));have h1:l[i]? = some [a,b,c,d,e,f]:=by rw [kQ0 hi,h]
  exact ⟨a,b,c,d,e,f,h1,kQ5 h1⟩
 have et:∀ i y,l[i]? = some y→(l.take (i+1)).any (pL dl oc dc [x0,x1,x2,x3,x4,x5])=((l.take i).any (pL dl oc dc [x0,x1,x2,x3,x4,x5]) || pL dl oc dc [x0,x1,x2,x3,x4,x5] y):=fun i y h=>by
  rw [List.take_add_one,h,List.any_append];simp
 obtain ⟨acc, ⟨h1,h2⟩,h3⟩:=aJ.ex (P:=Tp) (k:=7) (b:=sub (cd Tryz.f154) [1,1,1,0,1,0,0]) (e := .exit 0) (fun i (a:Bool × Lqb)=>bR dl sk dc ov x0 x1 x2 x3 x4 x5 a.1 i l l.length (aG a.2) a.2.length)
  (fun a=>bR dl sk dc ov x0 x1 x2 x3 x4 x5 a.1 l.length l l.length (aG a.2) a.2.length) (fun i a=>cK dl oc dc a.2∧a.1=(is && !((l.take i).any (pL dl oc dc [x0,x1,x2,x3,x4,x5])))) (by simp) l.length
  (fun i acc hi hI=>by
   obtain ⟨b,T1⟩:=acc;obtain ⟨h1,h2⟩:=hI;dsimp only at h1 h2
   obtain ⟨a,k,c,d,e,f,g1,g3⟩:=hx i hi;rw [et i _ g1];cases hb:b with
   | false =>
    rw [hb] at h2
    have hI:∀ q:Bool,false=(is && !((l.take i).any (pL dl oc dc [x0,x1,x2,x3,x4,x5]) || q)):=fun q=>by
     revert h2;cases is <;> cases (l.take i).any (pL dl oc dc [x0,x1,x2,x3,x4,x5]) <;> cases q <;> simp
    by_cases h5:k=5
    ·exact ⟨(false,T1),⟨h1,hI _⟩,aYs (by omega) g1 hu h5 rfl (aP (by omega)) rfl⟩
    ·by_cases h7:k=7
     ·exact ⟨(false,T1),⟨h1,hI _⟩,aYx (by omega) g1 hu h5 h7 rfl (aP (by omega)) rfl⟩
     ·exact ⟨(false,T1),⟨h1,hI _⟩,aYz (by omega) g1 hu h5 h7 rfl (aP (by omega)) rfl⟩
   | true =>
    rw [hb] at h2
    have hI:∀ q:Bool,(!q)=(is && !((l.take i).any (pL dl oc dc [x0,x1,x2,x3,x4,x5]) || q)):=fun q=>by
     revert h2;cases is <;> cases (l.take i).any (pL dl oc dc [x0,x1,x2,x3,x4,x5]) <;> cases q <;> simp
    have hIt:∀ q:Bool,q=true→false=(is && !((l.take i).any (pL dl oc dc [x0,x1,x2,x3,x4,x5]) || q)):=fun q hq=>by
     rw [← hI,hq];rfl
    have hIf:∀ q:Bool,q=false→true=(is && !((l.take i).any (pL dl oc dc [x0,x1,x2,x3,x4,x5]) || q)):=fun q hq=>by
     rw [← hI,hq];rfl
    obtain ⟨T2,q1,q2⟩:=hC _ g3 T1 h1
    by_cases h5:k=5
    ·cases hc:dQ dl oc dc [a,k,c,d,e,f] with
     | true =>
      rw [hc] at q2
      exact ⟨(false,T2),⟨q1,hIt _ (by subst h5;simp [pL,vF,hc])⟩,aYq (by omega) g1 hu h5 rfl q2 rfl (aP (by omega)) rfl rfl rfl⟩
     | false =>
      rw [hc] at q2
      exact ⟨(true,T2),⟨q1,hIf _ (by simp [pL,hc])⟩,aYr (by omega) g1 hu h5 rfl q2 rfl (aP (by omega)) rfl rfl rfl⟩
    ·by_cases h7:k=7
     ·cases hr:cT x1 with
      | true=>exact ⟨(true,T1),⟨h1,hIf _ (by simp [pL,vF,hr,h5])⟩,aYw (by omega) g1 hu h5 h7 rfl hr (aP (by omega)) rfl⟩
      | false =>
       cases hc:dQ dl oc dc [a,k,c,d,e,f] with
       | true =>
        rw [hc] at q2
        obtain ⟨T3,q3,q4⟩:=hU _ g3 T2 q1;cases hu2:aBx dl oc dc [a,k,c,d,e,f] with
        | true =>
         rw [hu2] at q4
         exact ⟨(false,T3),⟨q3,hIt _ (by subst h7;simp [pL,vF,hc,hr,hu2])⟩,aYt (by omega) g1 hu h5 h7 rfl hr q2 rfl q4 rfl (aP (by omega)) rfl rfl rfl⟩
        | false =>
         rw [hu2] at q4
         exact ⟨(true,T3),⟨q3,hIf _ (by simp [pL,vF,hu2,h5])⟩,aYu (by omega) g1 hu h5 h7 rfl hr q2 rfl q4 rfl (aP (by omega)) rfl rfl rfl⟩
       | false =>
        rw [hc] at q2
        exact ⟨(true,T2),⟨q1,hIf _ (by simp [pL,hc])⟩,aYv (by omega) g1 hu h5 h7 rfl hr q2 rfl (aP (by omega)) rfl rfl rfl⟩
     ·exact ⟨(true,T1),⟨h1,hIf _ (by simp [pL,vF,h5,h7])⟩,aYy (by omega) g1 hu h5 h7 rfl (aP (by omega)) rfl⟩)
  (fun acc hI=>aQb (by omega)) (acc:=(is,T)) ⟨hT,by simp⟩
 obtain ⟨b,T1⟩:=acc;dsimp only at h1 h2 h3
 rw [List.take_length] at h2
 rw [h2] at h3
 exact ⟨T1,h1,h3⟩
theorem bSa(hd:bZ dc){x:List Int}(hx:x∈dc)(hC:∀ y∈bU dc (dN x),pU dl sk dc oc ov y)(hU:∀ y∈bU dc (dN x),aTh dl sk dc oc ov y):pU dl sk dc oc ov x:=fun T hT=>by
 have hn:=dS hd hx;have hk:=aHx hd hn;obtain ⟨x0,x1,x2,x3,x4,x5,rfl⟩:=len6 (hd.ud x hx);obtain ⟨T',h1,hL⟩:=bFi (x0:=x0) (x1:=x1) (x2:=x2) (x3:=x3) (x4:=x4) (x5:=x5) hd (bU dc (dN [x0,x1,x2,x3,x4,x5])) (iA hd _) (wS hd _) hC hU T hT (!nB dl [x0,x1,x2,x3,x4,x5]);have hc:(!nB dl [x0,x1,x2,x3,x4,x5] && !((bU dc (dN [x0,x1,x2,x3,x4,x5])).any (pL dl oc dc [x0,x1,x2,x3,x4,x5])))=dQ dl oc dc [x0,x1,x2,x3,x4,x5]:=(bSr hd hx).symm;rw [hc] at hL
 cases hh:dH (aG T) (.int .i64 (dN [x0,x1,x2,x3,x4,x5])) with
 | true=>exact ⟨T,hT,bSh (hT.keys hd hn) hh (hT.look hd hx hh)⟩
 | false =>
  cases hh2:dH (aG T') (.int .i64 (dN [x0,x1,x2,x3,x4,x5])) with
  | true =>
   refine ⟨T',h1,?_⟩
   rcases aHy hd (n:=dN [x0,x1,x2,x3,x4,x5]) (by omega) with ⟨a1,a2⟩ | ⟨a1,a2⟩
   ·have:=bSi (x0:=x0) (hT.keys hd hn) hh hk a1 a2 hL (h1.keys hd hn) hh2
    rw [show oP (aG T') (.int .i64 x0) (blP (dQ dl oc dc [x0,x1,x2,x3,x4,x5]))=aG T' from h1.again hd hx] at this
    exact this
   ·rw [a2] at hL
    have:=bSk (x0:=x0) (hT.keys hd hn) hh hk a1 hL (h1.keys hd hn) hh2;rw [show oP (aG T') (.int .i64 x0) (blP (dQ dl oc dc [x0,x1,x2,x3,x4,x5]))=aG T' from h1.again hd hx] at this
    exact this
  | false =>
   refine ⟨T'++[(x0,dQ dl oc dc [x0,x1,x2,x3,x4,x5])],h1.put hx hh2,?_⟩;have e1:(T'++[(x0,dQ dl oc dc [x0,x1,x2,x3,x4,x5])]).length=T'.length+1:=by simp
   unfold rA dA;rw [aZa,e1]
   rcases aHy hd (n:=dN [x0,x1,x2,x3,x4,x5]) (by omega) with ⟨a1,a2⟩ | ⟨a1,a2⟩
   ·exact bSj (hT.keys hd hn) hh hk a1 a2 hL (h1.keys hd hn) hh2
   ·rw [a2] at hL
    exact bSl (hT.keys hd hn) hh hk a1 hL (h1.keys hd hn) hh2
theorem qZ(hd:bZ dc){x y:List Int}(hx:x∈dc)(hy:y∈bU dc (dN x)):y∈dc∧dN x<dN y:=by
 obtain ⟨h1,h2⟩:=eJ hy;exact ⟨h1,bFn hd h1 h2 (dS hd hx).1⟩
theorem aHz(hd:bZ dc)(hov:∀ n,sJ ov n (oc.contains n)):∀ (n:Nat) (x:List Int),x∈dc→10000-dN x≤(n:Int)→pU dl sk dc oc ov x
 | 0,x,hx,h=>by have:=dS hd hx;omega
 | n+1,x,hx,h=>bSa hd hx (fun y hy=>by
   obtain ⟨h1,h2⟩:=qZ hd hx hy;exact aHz hd hov n y h1 (by omega)) (fun y hy=>by
   obtain ⟨h1,h2⟩:=qZ hd hx hy;exact bFh hd hov h1 fun z hz=>by
    obtain ⟨h3,h4⟩:=qZ hd h1 hz;exact aHz hd hov n z h3 (by omega))
theorem bFj(hd:bZ dc)(hov:∀ n,sJ ov n (oc.contains n)){x:List Int}(hx:x∈dc):pU dl sk dc oc ov x:=aHz hd hov 10000 x hx (by have:=dS hd hx;omega)
theorem bYb(hd:bZ dc)(hov:∀ n,sJ ov n (oc.contains n)){x:List Int}(hx:x∈dc):bPf dl sk dc oc ov x:=bFg hd hx fun y hy=>bFj hd hov (eJ hy).1
theorem bYc(hd:bZ dc)(hov:∀ n,sJ ov n (oc.contains n)){x:List Int}(hx:x∈dc):bPg dl sk dc oc ov x:=bRz hd hx fun y hy=>bFj hd hov (eJ hy).1
theorem bYd(hd:bZ dc)(hov:∀ n,sJ ov n (oc.contains n)){x:List Int}(hx:x∈dc):aTh dl sk dc oc ov x:=bFh hd hov hx fun y hy=>bFj hd hov (eJ hy).1
theorem aTi(hd:bZ dc)(hov:∀ n,sJ ov n (oc.contains n)):∀ (n:Nat) (x:List Int),x∈dc→10000-dN x≤(n:Int)→bPh dl sk dc oc ov x
 | 0,x,hx,h=>by have:=dS hd hx;omega
 | n+1,x,hx,h=>fun T hT=>by
  obtain ⟨T',h1,h2⟩:=bYc (dl:=dl) (sk:=sk) hd hov hx T hT;rw [aTm hd hx];cases hr:aIe dl oc dc x with
  | none =>
   rw [hr] at h2
   obtain ⟨x0,x1,x2,x3,x4,x5,rfl⟩:=len6 (hd.ud x hx);exact ⟨T',h1,bSp (z0:=0) (z1:=0) (z2:=0) (z3:=0) (z4:=0) (z5:=0) h2 rfl⟩
  | some z =>
   have hz:z∈bU dc (dN x):=by
    rw [aCb hd hx] at hr
    exact wK hr
   obtain ⟨a1,a2⟩:=qZ hd hx hz;obtain ⟨T2,h3,h4⟩:=aTi hd hov n z a1 (by omega) T' h1
   rw [hr] at h2
   obtain ⟨x0,x1,x2,x3,x4,x5,rfl⟩:=len6 (hd.ud x hx);obtain ⟨a,b,c,d,e,f,rfl⟩:=len6 (hd.ud z a1);exact ⟨T2,h3,bSo h2 rfl h4⟩
theorem bYe(hd:bZ dc)(hov:∀ n,sJ ov n (oc.contains n)){x:List Int}(hx:x∈dc):bPh dl sk dc oc ov x:=aTi hd hov 10000 x hx (by have:=dS hd hx;omega)
theorem aIa(n:Int):sJ cC n (([]:List Int).contains n):=fun base=>FV.argwk (nM [] n (by simp)) (by kernel_rfl)
theorem aBw{l:List Int}(hl:l.length≤1000)(n:Int):sJ (aE l) n (l.contains n):=fun base=>nM l n hl
end
end
section
variable {P:Program} {T:TT} {E:Env} {C C0:Cx} {M M0 M1:Mem} {w w0:World}

def bkN(all:List Nat)(j:Nat):Option Nat:=all[j]?
def vR(all0:List Nat):List Nat→Mem→Option Upd
 | i::r,some o::m=>match mpO (bkN all0) o with
  | some o'=>(vR all0 r m).map ((i,o') :: ·)
  | none=>none
 | [],[]=>some []
 | _,_=>none

theorem aFv{all0:List Nat}:∀ {ids:List Nat} {m:Mem} {L:Upd},vR all0 ids m=some L→ids.Nodup →
  m.length=ids.length ∧
  ∀ (N:Mem),(∀ (p i:Nat) (o':AO),ids[p]? = some i→(bN (upds N L) i=some o'↔∃ o,m[p]? = some (some o)∧mpO (bkN all0) o=some o')) ∧
   ∀ j,j∉ids→bN (upds N L) j=bN N j
 | [],[],L,h,_=>by
  unfold vR at h;cases h
  refine ⟨rfl,fun N=>⟨fun p i o' hp=>by simp at hp,fun _ _=>rfl⟩⟩
 | i::r,some o::m,L,h,hd=>by
  unfold vR at h
  split at h
  ·rename_i o' ho
   simp only [kF] at h
   obtain ⟨L',hL',rfl⟩:=h;obtain ⟨hd1,hd2⟩:=List.nodup_cons.1 hd;obtain ⟨q1,q2⟩:=aFv (ids:=r) hL' hd2;refine ⟨by simpa using q1,fun N => ?_⟩
   obtain ⟨r1,r4⟩:=q2 (aW N i (some o'));refine ⟨fun p j o2 hp => ?_,fun j hj => ?_⟩
   ·cases p with
    | zero =>
     simp at hp;subst hp
     simp only [upds];rw [r4 i hd1,cV,if_pos rfl];constructor
     ·intro h;cases h;exact ⟨o,rfl,ho⟩
     ·rintro ⟨o3,h3,h4⟩
      simp at h3;subst h3
      rw [ho] at h4;exact h4
    | succ p =>
     simp only [upds];rw [List.getElem?_cons_succ] at hp
     rw [r1 p j o2 hp];rfl
   ·simp only [upds]
    rw [r4 j (fun e=>hj (kQ6 _ e)),cV,if_neg (fun e=>hj (by simp [e]))]
  ·cases h
 | [],_::_,L,h,_=>by unfold vR at h;cases h
 | _::_,[],L,h,_=>by unfold vR at h;cases h
 | _::_,none::_,L,h,_=>by unfold vR at h;cases h

theorem aCk{all0:List Nat}:∀ {ids:List Nat} {m:Mem} {L:Upd},vR all0 ids m=some L→∀ (p:Nat) (o1:AO),m[p]? = some (some o1)→∃ o',mpO (bkN all0) o1=some o'
 | [],[],L,h,p,o1,hp=>by simp at hp
 | i::r,some o::m,L,h,p,o1,hp=>by
  unfold vR at h
  split at h
  ·rename_i hx
   simp only [kF] at h
   obtain ⟨L',hL',_⟩:=h;cases p with
   | zero=>simp at hp;subst hp;exact ⟨_,hx⟩
   | succ p=>exact aCk hL' p o1 (by simpa using hp)
  ·cases h
 | [],_::_,L,h,_,_,_=>by unfold vR at h;cases h
 | _::_,[],L,h,_,_,_=>by unfold vR at h;cases h
 | _::_,none::_,L,h,_,_,_=>by unfold vR at h;cases h

def Cx.backN(C C1:Cx)(all:List Nat):Cx :=
 {ι:=fun j=>match idx all j 0 with | some p=>C1.ι p | none=>C.ι j
  κ:=fun j=>match idx all j 0 with | some p=>C1.κ p | none=>C.κ j
  F:=C1.F }

theorem bGr{ids news:List Nat}{r y:AV}{L:Upd}{C1:Cx}{w':World}{u:Value}(hd:distinct 0 ids=true)(hda:distinct 0 (ids++news)=true)(hb:∀ i∈news,eZ M i=true)
  (hs:rnM 0 ids (ids.map (at? M))=some M0) (hlv:∀ i∈ids,eG M i=true) (hU:vR (ids++news) (ids++news) M1=some L) (hy:mpA (bkN (ids++news)) r=some y)
  (hM:aR P C M w) (hF:Fr (C.rn 0 ids) M0 w C1 M1 w') (hM1:aR P C1 M1 w') (hr:Rep C1 M1 w' r u):Fr C M w (C.backN C1 (ids++news)) (upds M L) w'∧aR P (C.backN C1 (ids++news)) (upds M L) w'∧Rep (C.backN C1 (ids++news)) (upds M L) w' y u:=by
 obtain ⟨_,hnd⟩:=iN hd;obtain ⟨_,hna⟩:=iN hda;obtain ⟨hM0,hmp,hsrc⟩:=qB (k:=0) hM hd hs;have hlen:M0.length=ids.length:=by have:=(zV hs).1;simpa using this
 generalize hall:ids++news=all at *
 obtain ⟨hl1,hup⟩:=aFv hU hna;obtain ⟨u1,u4⟩:=hup M;have hL:=hM0.le hF;have inA:∀ (p i:Nat),ids[p]? = some i→all[p]? = some i:=fun p i h=>by
  rw [← hall,yW (kQ3.1 h).1];exact h
 have memA:∀ i,i∈all↔i∈ids∨i∈news:=fun i=>by rw [← hall];simp
 have newF:∀ (p i:Nat),all[p]? = some i→i∉ids→eZ M i=true:=fun p i h hn=>by
  rcases (memA i).1 (kQ5 h) with h | h
  ·exact absurd h hn
  ·exact hb i h
 have oldP:∀ (p i:Nat),all[p]? = some i→i∈ids→ids[p]? = some i:=fun p i h hn=>by
  obtain ⟨q,hq,he⟩:=List.mem_iff_getElem.1 hn;have h2:ids[q]? = some i:=by rw [kQ0 hq,he]
  have e1:=pF hna 0 h;have e2:=pF hna 0 (inA q i h2);rw [e1] at e2
  have:p=q:=by simpa using e2
  rw [this];exact h2
 have rnp:∀ p i,ids[p]? = some i→rnI 0 ids i=some p:=fun p i h=>by
  have:=pF hnd 0 h;unfold rnI;rw [show Nat.blt i 0=false from rfl,this,gJ]
 have shown0:∀ p i,ids[p]? = some i→∃ o o0,M[i]? = some (some o)∧o.live=true∧M0[p]? = some (some o0)∧o0.live=true∧(C.rn 0 ids).ι p=C.ι i∧(C.rn 0 ids).κ p=C.κ i:=fun p i hp=>by
  obtain ⟨o,h1,h2⟩:=dI (hlv i (kQ5 hp));obtain ⟨o0,h3,h4⟩:=hmp.fw _ _ _ (rnp p i hp) h1;exact ⟨o,o0,h1,h2,h3,by rw [bH h4];exact h2,hmp.at_ _ _ (rnp p i hp)⟩
 have sh_of:∀ (p:Nat) (o0:AO),M0[p]? = some (some o0)→∃ i o,ids[p]? = some i∧M[i]? = some (some o)∧o.live=true∧o0.live=true∧(C.rn 0 ids).ι p=C.ι i:=fun p o0 hp=>by
  obtain ⟨hl,_⟩:=kQ3.1 hp;have hp':ids[p]? = some ids[p]:=kQ0 (by omega)
  obtain ⟨o,o1,h1,h2,h3,h4,h5,_⟩:=shown0 p _ hp';rw [hp] at h3;cases h3
  exact ⟨_,o,hp',h1,h2,h4,h5⟩
 have apart:∀ (j:Nat) (o:AO) (b:Nat),j∉ids→M[j]? = some (some o)→o.live=true→C.ι j=some b→w'.heap[b]? = w.heap[b]? ∧ ¬ C1.F b∧∀ (p:Nat) (o1:AO),M1[p]? = some (some o1)→o1.live=true→C1.ι p≠some b:=fun j o b hj h1 h2 h3=>by
  have hb1:=hM.lt j o b h1 h2 h3;have no0:∀ (p:Nat) (o0:AO),M0[p]? = some (some o0)→o0.live=true→(C.rn 0 ids).ι p≠some b:=fun p o0 hp _ he=>by
   obtain ⟨i,o2,q1,q2,q3,_,q4⟩:=sh_of p o0 hp;rw [q4] at he
   have:=hM.inj j i o o2 b h1 h2 q2 q3 h3 he;subst this;exact hj (kQ5 q1)
  refine ⟨hF.keep b hb1 no0,fun hf => ?_,fun p o1 hp hl he => ?_⟩
  ·rcases hF.F2 b hf with q | q | ⟨p,o0,q1,q2,q3⟩
   ·exact hM.nF j o b h1 h2 h3 q
   ·omega
   ·exact no0 p o0 q1 q2 q3
  ·rcases hF.new p o1 b hp hl he with q | ⟨p0,o0,q1,q2,q3⟩
   ·omega
   ·exact no0 p0 o0 q1 q2 q3
 have ix:∀ j,(j∈all→∃ p,idx all j 0=some p∧all[p]? = some j)∧(j∉all→idx all j 0=none):=fun j=>by
  refine ⟨fun hj => ?_,fun hj => ?_⟩
  ·obtain ⟨p,hp,he⟩:=List.mem_iff_getElem.1 hj
   have:all[p]? = some j:=by rw [kQ0 hp,he]
   exact ⟨p,by simpa using pF hna 0 this,this⟩
  ·cases h1:idx all j 0 with
   | none=>rfl
   | some p =>
    obtain ⟨_,h2⟩:=uB _ _ _ _ h1;exact absurd (kQ5 h2) hj
 have cls:∀ (j:Nat) (o':AO),(upds M L)[j]? = some (some o')→(∃ p o1,all[p]? = some j∧M1[p]? = some (some o1)∧mpO (bkN all) o1=some o'∧(C.backN C1 all).ι j=C1.ι p∧(C.backN C1 all).κ j=C1.κ p) ∨
   (j∉ids∧j∉all∧M[j]? = some (some o')∧(C.backN C1 all).ι j=C.ι j∧(C.backN C1 all).κ j=C.κ j):=fun j o' hj=>by
  rw [← bE] at hj
  by_cases hm:j∈all
  ·obtain ⟨p,hp1,hp2⟩:=(ix j).1 hm
   obtain ⟨o1,h1,h2⟩:=(u1 p j o' hp2).1 hj;exact .inl ⟨p,o1,hp2,h1,h2,by simp [Cx.backN,hp1],by simp [Cx.backN,hp1]⟩
  ·have hn:=(ix j).2 hm
   rw [u4 j hm] at hj
   exact .inr ⟨fun h=>hm ((memA j).2 (.inl h)),hm,bE.1 hj,by simp [Cx.backN,hn],by simp [Cx.backN,hn]⟩
 have hF2:Fr C M w (C.backN C1 all) (upds M L) w':=by
  refine ⟨hF.os,hF.tape,hF.out,hF.size,fun b hb1 hn => ?_,fun i o ho => ?_,fun i o ho ty n cs hx => ?_,fun i o ho o' hx hl => ?_,fun j o b hj hl hjb => ?_,fun b hb=>hF.F1 b hb,fun b hb => ?_⟩
  ·exact hF.keep b hb1 fun p o0 hp hl he=>by
    obtain ⟨i,o2,q1,q2,q3,_,q4⟩:=sh_of p o0 hp;rw [q4] at he
    exact hn i o2 q2 q3 he
  ·by_cases hm:i∈all
   ·obtain ⟨p,hp1,hp2⟩:=(ix i).1 hm
    have hmi:i∈ids:=Classical.byContradiction fun hni=>cP (newF p i hp2 hni) o ho
    obtain ⟨_,o0,_,_,h3,h4,h5,h6⟩:=shown0 p i (oldP p i hp2 hmi);obtain ⟨⟨o1,q1⟩,q2,q3⟩:=hF.ids p o0 h3;refine ⟨?_,by simp only [Cx.backN,hp1];rw [q2,h5],by simp only [Cx.backN,hp1];rw [q3,h6]⟩
    obtain ⟨o',hq⟩:=aCk hU p o1 q1;exact ⟨o',bE.1 ((u1 p i o' hp2).2 ⟨o1,q1,hq⟩)⟩
   ·refine ⟨⟨o,bE.1 (by rw [u4 i hm];exact bE.2 ho)⟩,by simp [Cx.backN,(ix i).2 hm],by simp [Cx.backN,(ix i).2 hm]⟩
  ·rcases cls i _ hx with ⟨p,o1,q1,q2,q3,_⟩ | ⟨_,_,q3,_⟩
   ·have hmi:i∈ids:=Classical.byContradiction fun hni=>cP (newF p i q1 hni) o ho
    have q1:=oldP p i q1 hmi;rw [kU q3] at q2
    obtain ⟨o2,o0,h1,_,h3,_⟩:=shown0 p i q1;obtain ⟨cs',h5⟩:=hF.row p o0 h3 _ _ _ q2;obtain ⟨o4,h6,h7⟩:=hmp.bk _ _ _ (rnp p i q1) h5;rw [kU h7] at h6
    exact ⟨cs',h6⟩
   ·exact ⟨cs,q3⟩
  ·rcases cls i _ hx with ⟨p,o1,q1,q2,q3,_⟩ | ⟨_,_,q3,_⟩
   ·have hmi:i∈ids:=Classical.byContradiction fun hni=>cP (newF p i q1 hni) o ho
    obtain ⟨o2,o0,h1,h2,h3,_⟩:=shown0 p i (oldP p i q1 hmi);rw [ho] at h1;cases h1
    exact h2
   ·rw [ho] at q3;cases q3;exact hl
  ·have fin:∀ (p:Nat) (o1:AO),M1[p]? = some (some o1)→o1.live=true→C1.ι p=some b→w.heap.size≤b∨∃ (id0:Nat) (o0:AO),M[id0]? = some (some o0)∧o0.live=true∧C.ι id0=some b:=fun p o1 h1 h2 h3=>by
    rcases hF.new p o1 b h1 h2 h3 with q | ⟨p0,o0,q1,q2,q3⟩
    ·exact .inl q
    ·obtain ⟨i,o2,r1,r2,r3,_,r4⟩:=sh_of p0 o0 q1
     rw [r4] at q3
     exact .inr ⟨i,o2,r2,r3,q3⟩
   rcases cls j _ hj with ⟨p,o1,q1,q2,q3,q4,_⟩ | ⟨_,_,q3,q4,_⟩
   ·rw [q4] at hjb
    exact fin p o1 q2 (by rw [← bH q3];exact hl) hjb
   ·rw [q4] at hjb
    exact .inr ⟨j,o,q3,hl,hjb⟩
  ·rcases hF.F2 b hb with q | q | ⟨p,o0,q1,q2,q3⟩
   ·exact .inl q
   ·exact .inr (.inl q)
   ·obtain ⟨i,o2,r1,r2,r3,_,r4⟩:=sh_of p o0 q1
    rw [r4] at q3
    exact .inr (.inr ⟨i,o2,r2,r3,q3⟩)
 have hL2:=hM.le hF2;have hbk:aUu (bkN all) C1 (C.backN C1 all) M1 (upds M L):=by
  refine ⟨fun i j o' hij hj=>(u1 i j o' hij).1 (bE.2 hj),fun i j o hij hi => ?_,fun i j hij => ?_,fun _ h=>h⟩
  ·obtain ⟨o',hq⟩:=aCk hU i o hi
   exact ⟨o',bE.1 ((u1 i j o' hij).2 ⟨o,hi,hq⟩),hq⟩
  ·have:=pF hna 0 hij
   rw [gJ] at this
   simp [Cx.backN,this]
 refine ⟨hF2,⟨fun j ty n cs h => ?_,fun j ty cs h => ?_,fun j es cl h => ?_,fun j j' o1 o2 b q1 l1 q2 l2 e1 e2 => ?_,fun j o b h hl hb => ?_,hM1.Fs,fun j o b h hl hb => ?_⟩,rN hbk hr hy⟩
 ·rcases cls j _ h with ⟨p,o1,q1,q2,q3,q4,q5⟩ | ⟨q1,_,q3,q4,q5⟩
  ·rw [kU q3] at q2
   rw [q4,q5];exact hM1.row _ _ _ _ q2
  ·rw [q4,q5]
   rcases hM.row _ _ _ _ q3 with q | ⟨b,arr,inf,p0,p1,p2,p3,p4,p5,p6,p7,p8⟩
   ·exact .inl q
   ·exact .inr ⟨b,arr,inf,p0,by rw [(apart j _ b q1 q3 rfl p0).1];exact p1,p2,p3,p4,p5,p6,fun i hi=>(p7 i hi).mono hL2.F hL2.fz,p8⟩
 ·rcases cls j _ h with ⟨p,o1,q1,q2,q3,q4,q5⟩ | ⟨q1,_,q3,q4,q5⟩
  ·cases o1 with
   | box ty' l =>
    simp only [mpO,kF] at q3
    obtain ⟨l',hl',e⟩:=q3;cases e;obtain ⟨b,arr,p0,p1,p2,p3,p4⟩:=hM1.box _ _ _ q2;obtain ⟨n1,n2⟩:=fX hbk (w:=w') (us:=fun j=>arr.getD j undef) p3 hl'
    exact ⟨b,arr,by rw [q4];exact p0,p1,by omega,n2,fun j hj=>p4 j (by omega)⟩
   | row=>simp [mpO] at q3
   | mp=>simp [mpO] at q3
   | pk=>simp [mpO] at q3
   | dead=>simp [mpO] at q3
  ·obtain ⟨b,arr,p0,p1,p2,p3,p4⟩:=hM.box _ _ _ q3
   exact ⟨b,arr,by rw [q4];exact p0,by rw [(apart j _ b q1 q3 rfl p0).1];exact p1,p2,fun i hi=>(p3 i hi).mono hL2,p4⟩
 ·rcases cls j _ h with ⟨p,o1,q1,q2,q3,q4,q5⟩ | ⟨q1,_,q3,q4,q5⟩
  ·cases o1 with
   | mp es' cl' =>
    simp only [mpO,Option.some.injEq] at q3
    cases q3;obtain ⟨b,arr,p0,p1,p2,p3⟩:=hM1.mp _ _ _ q2;refine ⟨b,arr,by rw [q4];exact p0,p1,p2,fun j hj => ?_⟩
    obtain ⟨en,s1,s2,s3,s4⟩:=p3 j hj;exact ⟨en,s1,s2,s3,s4.mono hbk.F (fun _ _=>rfl)⟩
   | row=>simp [mpO] at q3
   | box=>simp [mpO] at q3
   | pk=>simp [mpO] at q3
   | dead=>simp [mpO] at q3
  ·obtain ⟨b,arr,p0,p1,p2,p3⟩:=hM.mp _ _ _ q3
   refine ⟨b,arr,by rw [q4];exact p0,by rw [(apart j _ b q1 q3 rfl p0).1];exact p1,p2,fun i hi => ?_⟩
   obtain ⟨en,s1,s2,s3,s4⟩:=p3 i hi;exact ⟨en,s1,s2,s3,s4.mono hL2.F hL2.fz⟩
 ·rcases cls j _ q1 with ⟨p,a1,r1,r2,r3,r4,_⟩ | ⟨r1,rb,r3,r4,_⟩ <;> rcases cls j' _ q2 with ⟨p',a2,t1,t2,t3,t4,_⟩ | ⟨t1,tb,t3,t4,_⟩
  all_goals (rw [r4] at e1;rw [t4] at e2)
  ·have:=hM1.inj p p' a1 a2 b r2 (by rw [← bH r3];exact l1) t2 (by rw [← bH t3];exact l2) e1 e2
   subst this;rw [r1] at t1;cases t1;rfl
  ·exact absurd e1 ((apart j' o2 b t1 t3 l2 e2).2.2 p a1 r2 (by rw [← bH r3];exact l1))
  ·exact absurd e2 ((apart j o1 b r1 r3 l1 e1).2.2 p' a2 t2 (by rw [← bH t3];exact l2))
  ·exact hM.inj j j' o1 o2 b r3 l1 t3 l2 e1 e2
 ·rcases cls j _ h with ⟨p,o1,q1,q2,q3,q4,q5⟩ | ⟨q1,_,q3,q4,q5⟩
  ·rw [q4] at hb
   exact hM1.nF _ _ b q2 (by rw [← bH q3];exact hl) hb
  ·rw [q4] at hb
   exact (apart j o b q1 q3 hl hb).2.1
 ·rcases cls j _ h with ⟨p,o1,q1,q2,q3,q4,q5⟩ | ⟨q1,_,q3,q4,q5⟩
  ·rw [q4] at hb
   exact hM1.lt _ _ b q2 (by rw [← bH q3];exact hl) hb
  ·rw [q4] at hb
   exact kQ8 (hM.lt j o b q3 hl hb) hF.size

def bGs(ids news:List Nat)(args:List AV)(bs:Upd)(M1:Mem)(r:AV):Option (List AV × Mem × AV × Upd):=match distinct 0 ids && distinct 0 (ids++news) && ids.all (eG (upds [] bs)) with
 | true=>match rnM 0 ids (ids.map (at? (upds [] bs))) with
  | some M0=>match rnL 0 ids args with
   | some args0=>match vR (ids++news) (ids++news) M1 with
    | some L=>match mpA (bkN (ids++news)) r with
     | some y=>some (args0,M0,y,L)
     | none=>none
    | none=>none
   | none=>none
  | none=>none
 | false=>none
theorem FMM.fcN{f base k:Nat}(hk:Nat.ble k 8=true){ids:List Nat}{args args0:List AV}{bs:Upd}{r y:AV}{L:Upd}(h:FMM P f args0 M0 r M1)(hs:bGs ids ((List.range k).map (base + ·)) args bs M1 r=some (args0,M0,y,L)):FC P f args bs base y L:=fun M hb hf hf2=>by
 unfold bGs at hs
 have hsub:aMz (upds [] bs) M:=fun id o ho=>by
  rcases pZ bs [] id o ho with h5 | h5
  ·exact hb _ h5
  ·simp [bN] at h5
 split at hs
 ·rename_i hd
  rw [kQ7,kQ7,fV] at hd
  obtain ⟨⟨hd1,hd2⟩,hd3⟩:=hd;have hlv:∀ i∈ids,∃ o,bN (upds [] bs) i=some o∧bN M i=some o∧o.live=true:=fun i hi=>by
   obtain ⟨o,h1,h2⟩:=dI (hd3 i hi);exact ⟨o,bE.2 h1,hsub _ _ (bE.2 h1),h2⟩
  split at hs
  ·rename_i h1
   split at hs
   ·rename_i h2
    split at hs
    ·rename_i h3
     split at hs
     ·rename_i h4
      cases hs;have he:ids.map (at? M)=ids.map (at? (upds [] bs)):=wL fun i hi=>by
       obtain ⟨o,q1,q2,_⟩:=hlv i hi;unfold at?
       rw [q1,q2]
      intro C w us hus hM n;have h1':rnM 0 ids (ids.map (at? M))=some M0:=by rw [he];exact h1
      obtain ⟨hM0,hmp,_⟩:=qB (k:=0) hM hd1 h1';refine (h (C.rn 0 ids) w us (aHh hmp hus h2) hM0 n).mono ?_;rintro e w' ⟨u,rfl,C1,hF,hM1,hr⟩;exact ⟨u,rfl,C.backN C1 (ids++(List.range k).map (base + ·)),bGr hd1 hd2 (fun i hi=>by
       obtain ⟨j,hj,rfl⟩:=dF.1 hi;have hj:=nH.1 hj;have hk:=Nat.le_of_ble_eq_true hk;exact hf2 j (by omega)) h1' (fun i hi=>by
       obtain ⟨o,_,q2,q3⟩:=hlv i hi;exact iU (bE.1 q2) q3) h3 h4 hM hF hM1 hr⟩
     ·cases hs
    ·cases hs
   ·cases hs
  ·cases hs
 ·cases hs
end
section
variable {dl:Int}{sk dc:Lqq}

noncomputable abbrev eA:Code:=sub (cd Tryz.f134) [1,1,0,1,0,0]
noncomputable abbrev nK:Code:=sub (cd Tryz.f83) [1,1,1,0,1,0,0]
theorem bEy:0≤(0:Int)∧(0:Int)<5:=by first | decide | simp
theorem bEz:0≤(1:Int)∧(1:Int)<5:=by first | decide | simp
theorem bFa:0≤(2:Int)∧(2:Int)<5:=by first | decide | simp
theorem bFb:0≤(3:Int)∧(3:Int)<5:=by first | decide | simp
theorem bFc:0≤(4:Int)∧(4:Int)<5:=by first | decide | simp
abbrev yZ(dl:Int)(sk dc:Lqq)(ov:PV)(x:List Int)(bib:Int)(b:Bool)(T T2:Lqb):Prop:=FMM Tp 136 [iB,.p (.agg (x.map aA)),.p (aA bib)] (dA dl sk dc ov T) (pB b) (dA dl sk dc ov T2)
abbrev aDt(dl:Int)(sk dc:Lqq)(ov:PV)(s:List Int)(n:Int)(b:Bool)(T T2:Lqb):Prop:=FMM Tp 134 [pV dl sk dc,.p (.agg (s.map aA)),iB] (dA dl sk dc ov T) (.tup [.p (aA n),.p (blP b)]) (dA dl sk dc ov T2)
theorem bRm{ov:PV}{T:Lqb}{x0 x1 x2 x3 x4 x5 bib:Int}{b0:Bool}{T1:Lqb}(h0:(decide (x1≤4))=true)(h1:x3=bib)(h2:rA dl sk dc ov [x0,x1,x2,x3,x4,x5] b0 T T1)(h3:b0=true)(h4:x1≠4):FMM Tp 136 [iB,(.p (dcE x0 x1 x2 x3 x4 x5)),(pI bib)] (dA dl sk dc ov T) (pB true) (dA dl sk dc ov T1):=by
 exact FMM.fin (k:=7) (g:=⟨[],[],[],[]⟩) rfl Tryz.func136 rfl (o:=[.c (pB (decide (x1≤4))) [],bT,bT,bT,bT,bT,bT,bT,bT,bT,.c (pB b0) (vU dl sk dc ov T1),bT,bT,bT,bT,bT,bT,bT,bT,bT,bT,bT,bT]) (l:=[_,_,_,_,_,_,_,_,_,_,_,_,FC Tp 154 [(.p (dcE x0 x1 x2 x3 x4 x5)),(.ptr 4 0),(.ptr 5 0),(.ptr 0 0),(.ptr 2 0)] [(4,(.box 207 [(.mp 3)])),(5,(vB5 dl sk dc)),(0,(vB0 dl sk dc)),(2,vB2),(3,(.mp (aG T) T.length)),(6,vB6),(1,(.box 33 [(.p ov)]))] 9 (pB b0) (vU dl sk dc ov T1),_,_,_,_,_,_,_,_,_,_]) (by kernel_rfl) (gc h3 (gc (oG h4) (gc h3 (g4c (oG h4) (g4c h3 (gc (eW h1) (gc (FMM.fc (ids:=[0,1,2,3,4,5,6]) h2 (by kernel_rfl)) (g4c (eW h1) (g5c h0 (gc (fk 9 (eH x1) rfl) gn))))))))))
theorem bRn{ov:PV}{T:Lqb}{x0 x1 x2 x3 x4 x5 bib:Int}{b0:Bool}{T1:Lqb}{b2:Bool}{T3:Lqb}(h0:(decide (x1≤4))=true)(h1:x3=bib)(h2:rA dl sk dc ov [x0,x1,x2,x3,x4,x5] b0 T T1)(h3:b0=true)(h4:x1=4)(h5:bKx dl sk dc ov [x0,x1,x2,x3,x4,x5] b2 T1 T3):FMM Tp 136 [iB,(.p (dcE x0 x1 x2 x3 x4 x5)),(pI bib)] (dA dl sk dc ov T) (pB b2) (dA dl sk dc ov T3):=by
 exact FMM.fin (k:=7) (g:=⟨[],[],[],[]⟩) rfl Tryz.func136 rfl (o:=[.c (pB (decide (x1≤4))) [],bT,bT,bT,bT,bT,bT,bT,bT,bT,.c (pB b0) (vU dl sk dc ov T1),bT,bT,bT,bT,bT,bF,bF,bF,bF,.c (pB b2) (vU dl sk dc ov T3),bT,bF,bT]) (l:=[_,_,_,FC Tp 157 [(.p (dcE x0 x1 x2 x3 x4 x5)),(.ptr 2 0),(.ptr 1 0)] [(2,vB2),(1,(.box 33 [(.p ov)])),(4,(.box 207 [(.mp 3)])),(5,(vB5 dl sk dc)),(0,(vB0 dl sk dc)),(6,vB6),(3,(.mp (aG T1) T1.length))] 9 (pB b2) (vU dl sk dc ov T3),_,_,_,_,_,_,_,_,_,FC Tp 154 [(.p (dcE x0 x1 x2 x3 x4 x5)),(.ptr 4 0),(.ptr 5 0),(.ptr 0 0),(.ptr 2 0)] [(4,(.box 207 [(.mp 3)])),(5,(vB5 dl sk dc)),(0,(vB0 dl sk dc)),(2,vB2),(3,(.mp (aG T) T.length)),(6,vB6),(1,(.box 33 [(.p ov)]))] 9 (pB b0) (vU dl sk dc ov T1),_,_,_,_,_,_,_,_,_,_]) (by kernel_rfl) (gc h3 (gc (mY h4) (gc h3 (gc (FMM.fc (ids:=[0,1,2,3,4,5,6]) h5 (by kernel_rfl)) (g4c (mY h4) (g4c h3 (gc (eW h1) (gc (FMM.fc (ids:=[0,1,2,3,4,5,6]) h2 (by kernel_rfl)) (g4c (eW h1) (g5c h0 (gc (fk 9 (eH x1) rfl) gn)))))))))))
theorem bRo{ov:PV}{T:Lqb}{x0 x1 x2 x3 x4 x5 bib:Int}{b0:Bool}{T1:Lqb}(h0:(decide (x1≤4))=true)(h1:x3=bib)(h2:rA dl sk dc ov [x0,x1,x2,x3,x4,x5] b0 T T1)(h3:b0=false):FMM Tp 136 [iB,(.p (dcE x0 x1 x2 x3 x4 x5)),(pI bib)] (dA dl sk dc ov T) (pB false) (dA dl sk dc ov T1):=by
 exact FMM.fin (k:=7) (g:=⟨[],[],[],[]⟩) rfl Tryz.func136 rfl (o:=[.c (pB (decide (x1≤4))) [],bT,bT,bT,bT,bT,bT,bT,bT,bT,.c (pB b0) (vU dl sk dc ov T1),bT,bF,bF,bF,bF,bF,bF]) (l:=[_,_,_,_,_,_,_,FC Tp 154 [(.p (dcE x0 x1 x2 x3 x4 x5)),(.ptr 4 0),(.ptr 5 0),(.ptr 0 0),(.ptr 2 0)] [(4,(.box 207 [(.mp 3)])),(5,(vB5 dl sk dc)),(0,(vB0 dl sk dc)),(2,vB2),(3,(.mp (aG T) T.length)),(6,vB6),(1,(.box 33 [(.p ov)]))] 9 (pB b0) (vU dl sk dc ov T1),_,_,_,_,_,_,_,_,_,_]) (by kernel_rfl) (g6c h3 (gc (eW h1) (gc (FMM.fc (ids:=[0,1,2,3,4,5,6]) h2 (by kernel_rfl)) (g4c (eW h1) (g5c h0 (gc (fk 9 (eH x1) rfl) gn))))))
theorem bRp{ov:PV}{T:Lqb}{x0 x1 x2 x3 x4 x5 bib:Int}(h0:(decide (x1≤4))=true)(h1:x3≠bib):FMM Tp 136 [iB,(.p (dcE x0 x1 x2 x3 x4 x5)),(pI bib)] (dA dl sk dc ov T) (pB false) (dA dl sk dc ov T):=by
 exact FMM.fin (k:=7) (g:=⟨[],[],[],[]⟩) rfl Tryz.func136 rfl (o:=[.c (pB (decide (x1≤4))) [],bT,bT,bT,bT,bT,bF,bF,bF,bF,bF]) (l:=[_,_,_,_,_,_,_,_,_,_,_]) (by kernel_rfl) (g5c (bP h1) (g5c h0 (gc (fk 9 (eH x1) rfl) gn)))
theorem bRq{ov:PV}{T:Lqb}{x0 x1 x2 x3 x4 x5 bib:Int}(h0:(decide (x1≤4))=false):FMM Tp 136 [iB,(.p (dcE x0 x1 x2 x3 x4 x5)),(pI bib)] (dA dl sk dc ov T) (pB false) (dA dl sk dc ov T):=by
 exact FMM.fin (k:=7) (g:=⟨[],[],[],[]⟩) rfl Tryz.func136 rfl (o:=[.c (pB (decide (x1≤4))) [],bF,bF,bF,bF,bF]) (l:=[_,_,_,_,_,_]) (by kernel_rfl) (g5c h0 (gc (fk 9 (eH x1) rfl) gn))
theorem bRr{a b r0:Int}(h0:inR (a+b))(er0:r0=(a+b)){base:Nat}:FV Tp 212 [(pI a),(pI b)] base (pI r0) []:=by
 subst er0;exact FV.fin Tryz.func212 rfl (o:=[]) (l:=[_]) (by kernel_rfl) (gc h0 gn)
theorem bRs{a b r0:Int}(h0:inR (a-b))(er0:r0=(a-b)){base:Nat}:FV Tp 213 [(pI a),(pI b)] base (pI r0) []:=by
 subst er0;exact FV.fin Tryz.func213 rfl (o:=[]) (l:=[_]) (by kernel_rfl) (gc h0 gn)
theorem bRt{a b r0:Int}(h0:inR ((1200:Int)*b))(h1:inR (a+((1200:Int)*b)))(er0:r0=(a+((1200:Int)*b))){base:Nat}:FV Tp 214 [(pI a),(pI b)] base (pI r0) []:=by
 subst er0;exact FV.fin Tryz.func214 rfl (o:=[]) (l:=[_,_]) (by kernel_rfl) (gc h1 (gc h0 gn))
theorem bRu{a b:Int}{base:Nat}:FV Tp 215 [(pI a),(pI b)] base (pI a) []:=by
 exact FV.fin Tryz.func215 rfl (o:=[]) (l:=[]) (by kernel_rfl) (gn)
theorem aHw(a b:Int)(h:inR (a+b)){base:Nat}:FV Tp 212 [.p (aA a),.p (aA b)] base (pI (a+b)) []:=bRr h rfl
theorem bFd(a b:Int)(h:inR (a-b)){base:Nat}:FV Tp 213 [.p (aA a),.p (aA b)] base (pI (a-b)) []:=bRs h rfl
theorem bFe(a b:Int)(h:inR (1200*b)∧inR (a+1200*b)){base:Nat}:FV Tp 214 [.p (aA a),.p (aA b)] base (pI (a+1200*b)) []:=bRt h.1 h.2 rfl
theorem bFf(a b:Int){base:Nat}:FV Tp 215 [.p (aA a),.p (aA b)] base (pI a) []:=bRu
theorem nL{base:Nat}:FV Tp 183 [] base (.agg [(.fn 212 [] []),(.fn 213 [] []),(.fn 214 [] []),(.fn 215 [] []),(.fn 212 [] [])]) []:=by
 exact FV.fin Tryz.func183 rfl (o:=[]) (l:=[]) (by kernel_rfl) (gn)
def pK(l:List Int)(m:Int)(i:Nat):St:=⟨fr 18 [(0,(pI m)),(4,(pI 0)),(7,(.p (aE l))),(8,(pI (l.length:Int))),(9,(pI (i:Int)))],[]⟩
theorem bRv{a:Int}{l:List Int}{m'0:Int}{i'1:Nat}(hl0:aJ Tp 0 (sub (cd Tryz.f184) [1,0,1,0,0]) (pK l a 0) (.exit 0) (pK l m'0 i'1)){base:Nat}:FV Tp 184 [(pI a),(.p (aE l))] base (pI m'0) []:=by
 exact FV.fin Tryz.func184 rfl (o:=[.k 6 ⟨(rng [(1,3),(5,2),(10,7)]),[],[],[]⟩ (.exit 0) (pK l m'0 i'1)]) (l:=[_]) (by kernel_rfl) (gc hl0.code gn)
theorem aXx{l:List Int}{m:Int}{i:Nat}{x100 m':Int}{i':Nat}(h0:(i:Int)<(l.length:Int))(h1:l[i]? = some x100)(h2:inR (((i+1):Nat):Int))(em':m'=(if x100 > m then x100 else m))(ei':i'=(i+1)):aC Tp 0 (sub (cd Tryz.f184) [1,0,1,0,0]) (pK l m i) .normal (pK l m' i'):=by
 subst em' ei';exact aC.fin (g:=⟨(rng [(1,3),(5,2),(10,7)]),[],[],[]⟩) (o:=[bT,.x (aA x100)]) (l:=[_,_,_,_]) (by kernel_rfl) (gc h2 (gc (atm aA h1) (gc (ixn aA h1) (gc (aZ h0) gn))))
theorem aXy{l:List Int}{m:Int}{i:Nat}(h0:(l.length:Int)≤(i:Int)):aC Tp 0 (sub (cd Tryz.f184) [1,0,1,0,0]) (pK l m i) (.exit 0) (pK l m i):=by
 exact aC.fin (g:=⟨(rng [(1,3),(5,2),(10,7)]),[],[],[]⟩) (o:=[bF]) (l:=[_]) (by kernel_rfl) (gc (bJ h0) gn)
def zA(a:Int)(l:List Int):Int:=l.foldl (fun m x=>if x > m then x else m) a
theorem aPq(a:Int)(l:List Int)(hl:l.length≤1000){base:Nat}:FV Tp 184 [.p (aA a),.p (aE l)] base (pI (zA a l)) [] :=
 bRv (aJ.range (P:=Tp) (k:=0) (e := .exit 0) (fun i m=>pK l m i) (fun m=>pK l m l.length) (fun m x=>if x > m then x else m) (fun _ _=>True) (by simp) l trivial
  (fun i x acc hx _=>⟨trivial,aXx (by have:=bD hx;omega) hx (aP (by have:=bD hx;omega)) rfl rfl⟩) (fun acc _=>aXy (by omega)))
def bK(dl:Int)(sk:Lqq)(dc:Lqq)(ov:PV)(s0:Int)(s1:Int)(out:Bool)(tot:Int)(i:Nat)(te:List (Value × PV))(tk:Nat):St:=⟨fr 54 [(4,(.ptr 7 0)),(5,(.ptr 8 0)),(6,(pI 0)),(7,(.kb false)),(8,(pB out)),(9,(pI tot)),(21,(.p (fS dc))),(22,(pI (dc.length:Int))),(23,(pI (i:Int)))],[some (vB0 dl sk dc),some (.box 33 [(.p ov)]),some vB2,some (.mp te tk),some (.box 207 [(.mp 3)]),some (vB5 dl sk dc),some vB6,some (.box 31 [(pI s0),(pI s1)]),some vB2]⟩
theorem bRw{ov:PV}{T:Lqb}{s0 s1:Int}{out'0:Bool}{tot'1:Int}{i'2:Nat}{t'3:Lqb}(hl0:aJ Tp 7 eA (bK dl sk dc ov s0 s1 (s1 == (-1:Int)) s1 0 (aG T) T.length) (.exit 0) (bK dl sk dc ov s0 s1 out'0 tot'1 i'2 (aG t'3) t'3.length))(h1:out'0=true):FMM Tp 134 [(.rp (aH dl sk dc) 0),(.p (.agg [(aA s0),(aA s1)])),iB] (dA dl sk dc ov T) (.tup [(pI 0),(pB true)]) (dA dl sk dc ov t'3):=by
 exact FMM.fin (k:=7) (g:=⟨[],[],[],[]⟩) rfl Tryz.func134 rfl (o:=[.x (fS dc),.k 1 ⟨(rng [(0,4),(10,11),(24,26)]),[7,8],[],[]⟩ (.exit 0) (bK dl sk dc ov s0 s1 out'0 tot'1 i'2 (aG t'3) t'3.length),bT]) (l:=[_,_,(aH dl sk dc)[2]? = some (fS dc)]) (by kernel_rfl) (gc h1 (gc hl0.code (gc rfl gn)))
theorem bRx{ov:PV}{T:Lqb}{s0 s1:Int}{out'0:Bool}{tot'1:Int}{i'2:Nat}{t'3:Lqb}{r0:Int}(hl0:aJ Tp 7 eA (bK dl sk dc ov s0 s1 (s1 == (-1:Int)) s1 0 (aG T) T.length) (.exit 0) (bK dl sk dc ov s0 s1 out'0 tot'1 i'2 (aG t'3) t'3.length))(h1:out'0=false)(h2:([tot'1]:List Int).length≤1000)(er0:r0=(zA (0:Int) ([tot'1]:List Int))):FMM Tp 134 [(.rp (aH dl sk dc) 0),(.p (.agg [(aA s0),(aA s1)])),iB] (dA dl sk dc ov T) (.tup [(pI r0),(pB false)]) (dA dl sk dc ov t'3):=by
 subst er0;exact FMM.fin (k:=7) (g:=⟨[],[],[],[]⟩) rfl Tryz.func134 rfl (o:=[.x (fS dc),.k 1 ⟨(rng [(0,4),(10,11),(24,26)]),[7,8],[],[]⟩ (.exit 0) (bK dl sk dc ov s0 s1 out'0 tot'1 i'2 (aG t'3) t'3.length),bF,.c (pI (zA (0:Int) ([tot'1]:List Int))) []]) (l:=[FC Tp 184 [(pI 0),(.own 9)] [(9,(.row 3 1 [(aA tot'1)]))] 10 (pI (zA (0:Int) ([tot'1]:List Int))) [],_,_,(aH dl sk dc)[2]? = some (fS dc)]) (by kernel_rfl) (gc (fv (aPq (0:Int) ([tot'1]:List Int) h2)) (gc h1 (gc hl0.code (gc rfl gn))))
theorem aXz{ov:PV}{s0 s1:Int}{out:Bool}{tot:Int}{i:Nat}{t:Lqb}{y100 y102 y103 y104 y105:Int}{b106:Bool}{T107:Lqb}{m108:Int}{T109:Lqb}{tot':Int}{i':Nat}{t':Lqb}(h0:(i:Int)<(dc.length:Int))(h1:dc[i]? = some [y100,(0:Int),y102,y103,y104,y105])(h2:uni 6 dc)(h3:yZ dl sk dc ov [y100,(0:Int),y102,y103,y104,y105] s0 b106 t T107)(h4:b106=true)(h5:out=true)(h6:zB dl sk dc ov [y100,(0:Int),y102,y103,y104,y105] m108 T107 T109)(h7:inR (tot+m108))(h8:inR (((i+1):Nat):Int))(etot':tot'=(tot+m108))(ei':i'=(i+1))(et'e:aG t'=(aG T109))(et'k:t'.length=T109.length):aC Tp 7 eA (bK dl sk dc ov s0 s1 out tot i (aG t) t.length) .normal (bK dl sk dc ov s0 s1 true tot' i' (aG t') t'.length):=by
 subst etot' ei';have raw:aC Tp 7 eA (bK dl sk dc ov s0 s1 out tot i (aG t) t.length) .normal (bK dl sk dc ov s0 s1 true (tot+m108) (i+1) (aG T109) T109.length):=aC.fin (g:=⟨(rng [(0,4),(10,11),(24,26)]),[7,8],[],[(8,0)]⟩) (o:=[bT,.x (dcE y100 0 y102 y103 y104 y105),.c (pB b106) (vU dl sk dc ov T107),bT,bT,bT,bT,bT,.c (.agg [(.fn 212 [] []),(.fn 213 [] []),(.fn 214 [] []),(.fn 215 [] []),(.fn 212 [] [])]) [],.c (pI m108) (vU dl sk dc ov T109),.c (pI (tot+m108)) []]) (l:=[_,_,FC Tp 160 [(.p (dcE y100 0 y102 y103 y104 y105)),(.ptr 2 0)] [(2,vB2),(4,(.box 207 [(.mp 3)])),(5,(vB5 dl sk dc)),(0,(vB0 dl sk dc)),(6,vB6),(1,(.box 33 [(.p ov)])),(3,(.mp (aG T107) T107.length))] 18 (pI m108) (vU dl sk dc ov T109),_,FC Tp 183 [] [] 10 (.agg [(.fn 212 [] []),(.fn 213 [] []),(.fn 214 [] []),(.fn 215 [] []),(.fn 212 [] [])]) [],_,_,_,_,_,FC Tp 136 [iB,(.p (dcE y100 0 y102 y103 y104 y105)),(pI s0)] [(4,(.box 207 [(.mp 3)])),(5,(vB5 dl sk dc)),(0,(vB0 dl sk dc)),(2,vB2),(6,vB6),(1,(.box 33 [(.p ov)])),(3,(.mp (aG t) t.length))] 10 (pB b106) (vU dl sk dc ov T107),_,_,0≤(i:Int)∧(i:Int)<(dc.length:Int)∧(i*6)<(dc.flatten.map aA).length,_]) (by kernel_rfl) (gc h8 (gc (fk 26 (aHw tot m108 h7) rfl) (gc (FMM.fc (ids:=[0,1,2,3,4,5,6]) h6 (by kernel_rfl)) (gc bEy (gc (FV.fc nL (by kernel_rfl)) (g4c h5 (gc h4 (gc (FMM.fc (ids:=[0,1,2,3,4,5,6]) h3 (by kernel_rfl)) (gc (aV (i:=i) h2 h1) (gc (bI (i:=i) h2 h1) (gc (cB (k:=6) (i:=(i:Int)) (by decide) h2 (kQ2 _) h1) (gc (aZ h0) gn))))))))))))
 exact raw.cast (by rw [et'e,et'k])
theorem aYa{ov:PV}{s0 s1:Int}{out:Bool}{tot:Int}{i:Nat}{t:Lqb}{y100 y102 y103 y104 y105:Int}{b106:Bool}{T107:Lqb}{m108:Int}{T109:Lqb}{out':Bool}{tot':Int}{i':Nat}{t':Lqb}(h0:(i:Int)<(dc.length:Int))(h1:dc[i]? = some [y100,(0:Int),y102,y103,y104,y105])(h2:uni 6 dc)(h3:yZ dl sk dc ov [y100,(0:Int),y102,y103,y104,y105] s0 b106 t T107)(h4:b106=true)(h5:out=false)(h6:zB dl sk dc ov [y100,(0:Int),y102,y103,y104,y105] m108 T107 T109)(h7:inR (tot+m108))(h8:inR (((i+1):Nat):Int))(eout':out'=((0:Int) == (3:Int)))(etot':tot'=(tot+m108))(ei':i'=(i+1))(et'e:aG t'=(aG T109))(et'k:t'.length=T109.length):aC Tp 7 eA (bK dl sk dc ov s0 s1 out tot i (aG t) t.length) .normal (bK dl sk dc ov s0 s1 out' tot' i' (aG t') t'.length):=by
 subst eout' etot' ei';have raw:aC Tp 7 eA (bK dl sk dc ov s0 s1 out tot i (aG t) t.length) .normal (bK dl sk dc ov s0 s1 ((0:Int) == (3:Int)) (tot+m108) (i+1) (aG T109) T109.length):=aC.fin (g:=⟨(rng [(0,4),(10,11),(24,26)]),[7,8],[],[]⟩) (o:=[bT,.x (dcE y100 0 y102 y103 y104 y105),.c (pB b106) (vU dl sk dc ov T107),bT,bF,bF,bF,bF,.c (.agg [(.fn 212 [] []),(.fn 213 [] []),(.fn 214 [] []),(.fn 215 [] []),(.fn 212 [] [])]) [],.c (pI m108) (vU dl sk dc ov T109),.c (pI (tot+m108)) []]) (l:=[_,_,FC Tp 160 [(.p (dcE y100 0 y102 y103 y104 y105)),(.ptr 2 0)] [(2,vB2),(4,(.box 207 [(.mp 3)])),(5,(vB5 dl sk dc)),(0,(vB0 dl sk dc)),(6,vB6),(1,(.box 33 [(.p ov)])),(3,(.mp (aG T107) T107.length))] 18 (pI m108) (vU dl sk dc ov T109),_,FC Tp 183 [] [] 10 (.agg [(.fn 212 [] []),(.fn 213 [] []),(.fn 214 [] []),(.fn 215 [] []),(.fn 212 [] [])]) [],_,_,_,_,_,FC Tp 136 [iB,(.p (dcE y100 0 y102 y103 y104 y105)),(pI s0)] [(4,(.box 207 [(.mp 3)])),(5,(vB5 dl sk dc)),(0,(vB0 dl sk dc)),(2,vB2),(6,vB6),(1,(.box 33 [(.p ov)])),(3,(.mp (aG t) t.length))] 10 (pB b106) (vU dl sk dc ov T107),_,_,0≤(i:Int)∧(i:Int)<(dc.length:Int)∧(i*6)<(dc.flatten.map aA).length,_]) (by kernel_rfl) (gc h8 (gc (fk 26 (aHw tot m108 h7) rfl) (gc (FMM.fc (ids:=[0,1,2,3,4,5,6]) h6 (by kernel_rfl)) (gc bEy (gc (FV.fc nL (by kernel_rfl)) (g4c h5 (gc h4 (gc (FMM.fc (ids:=[0,1,2,3,4,5,6]) h3 (by kernel_rfl)) (gc (aV (i:=i) h2 h1) (gc (bI (i:=i) h2 h1) (gc (cB (k:=6) (i:=(i:Int)) (by decide) h2 (kQ2 _) h1) (gc (aZ h0) gn))))))))))))
 exact raw.cast (by rw [et'e,et'k])
theorem aYb{ov:PV}{s0 s1:Int}{out:Bool}{tot:Int}{i:Nat}{t:Lqb}{y100 y102 y103 y104 y105:Int}{b106:Bool}{T107:Lqb}{m108:Int}{T109:Lqb}{tot':Int}{i':Nat}{t':Lqb}(h0:(i:Int)<(dc.length:Int))(h1:dc[i]? = some [y100,(1:Int),y102,y103,y104,y105])(h2:uni 6 dc)(h3:yZ dl sk dc ov [y100,(1:Int),y102,y103,y104,y105] s0 b106 t T107)(h4:b106=true)(h5:out=true)(h6:zB dl sk dc ov [y100,(1:Int),y102,y103,y104,y105] m108 T107 T109)(h7:inR (tot-m108))(h8:inR (((i+1):Nat):Int))(etot':tot'=(tot-m108))(ei':i'=(i+1))(et'e:aG t'=(aG T109))(et'k:t'.length=T109.length):aC Tp 7 eA (bK dl sk dc ov s0 s1 out tot i (aG t) t.length) .normal (bK dl sk dc ov s0 s1 true tot' i' (aG t') t'.length):=by
 subst etot' ei';have raw:aC Tp 7 eA (bK dl sk dc ov s0 s1 out tot i (aG t) t.length) .normal (bK dl sk dc ov s0 s1 true (tot-m108) (i+1) (aG T109) T109.length):=aC.fin (g:=⟨(rng [(0,4),(10,11),(24,26)]),[7,8],[],[(8,0)]⟩) (o:=[bT,.x (dcE y100 1 y102 y103 y104 y105),.c (pB b106) (vU dl sk dc ov T107),bT,bT,bT,bT,bT,.c (.agg [(.fn 212 [] []),(.fn 213 [] []),(.fn 214 [] []),(.fn 215 [] []),(.fn 212 [] [])]) [],.c (pI m108) (vU dl sk dc ov T109),.c (pI (tot-m108)) []]) (l:=[_,_,FC Tp 160 [(.p (dcE y100 1 y102 y103 y104 y105)),(.ptr 2 0)] [(2,vB2),(4,(.box 207 [(.mp 3)])),(5,(vB5 dl sk dc)),(0,(vB0 dl sk dc)),(6,vB6),(1,(.box 33 [(.p ov)])),(3,(.mp (aG T107) T107.length))] 18 (pI m108) (vU dl sk dc ov T109),_,FC Tp 183 [] [] 10 (.agg [(.fn 212 [] []),(.fn 213 [] []),(.fn 214 [] []),(.fn 215 [] []),(.fn 212 [] [])]) [],_,_,_,_,_,FC Tp 136 [iB,(.p (dcE y100 1 y102 y103 y104 y105)),(pI s0)] [(4,(.box 207 [(.mp 3)])),(5,(vB5 dl sk dc)),(0,(vB0 dl sk dc)),(2,vB2),(6,vB6),(1,(.box 33 [(.p ov)])),(3,(.mp (aG t) t.length))] 10 (pB b106) (vU dl sk dc ov T107),_,_,0≤(i:Int)∧(i:Int)<(dc.length:Int)∧(i*6)<(dc.flatten.map aA).length,_]) (by kernel_rfl) (gc h8 (gc (fk 26 (bFd tot m108 h7) rfl) (gc (FMM.fc (ids:=[0,1,2,3,4,5,6]) h6 (by kernel_rfl)) (gc bEz (gc (FV.fc nL (by kernel_rfl)) (g4c h5 (gc h4 (gc (FMM.fc (ids:=[0,1,2,3,4,5,6]) h3 (by kernel_rfl)) (gc (aV (i:=i) h2 h1) (gc (bI (i:=i) h2 h1) (gc (cB (k:=6) (i:=(i:Int)) (by decide) h2 (kQ2 _) h1) (gc (aZ h0) gn))))))))))))
 exact raw.cast (by rw [et'e,et'k])
theorem aYc{ov:PV}{s0 s1:Int}{out:Bool}{tot:Int}{i:Nat}{t:Lqb}{y100 y102 y103 y104 y105:Int}{b106:Bool}{T107:Lqb}{m108:Int}{T109:Lqb}{out':Bool}{tot':Int}{i':Nat}{t':Lqb}(h0:(i:Int)<(dc.length:Int))(h1:dc[i]? = some [y100,(1:Int),y102,y103,y104,y105])(h2:uni 6 dc)(h3:yZ dl sk dc ov [y100,(1:Int),y102,y103,y104,y105] s0 b106 t T107)(h4:b106=true)(h5:out=false)(h6:zB dl sk dc ov [y100,(1:Int),y102,y103,y104,y105] m108 T107 T109)(h7:inR (tot-m108))(h8:inR (((i+1):Nat):Int))(eout':out'=((1:Int) == (3:Int)))(etot':tot'=(tot-m108))(ei':i'=(i+1))(et'e:aG t'=(aG T109))(et'k:t'.length=T109.length):aC Tp 7 eA (bK dl sk dc ov s0 s1 out tot i (aG t) t.length) .normal (bK dl sk dc ov s0 s1 out' tot' i' (aG t') t'.length):=by
 subst eout' etot' ei';have raw:aC Tp 7 eA (bK dl sk dc ov s0 s1 out tot i (aG t) t.length) .normal (bK dl sk dc ov s0 s1 ((1:Int) == (3:Int)) (tot-m108) (i+1) (aG T109) T109.length):=aC.fin (g:=⟨(rng [(0,4),(10,11),(24,26)]),[7,8],[],[]⟩) (o:=[bT,.x (dcE y100 1 y102 y103 y104 y105),.c (pB b106) (vU dl sk dc ov T107),bT,bF,bF,bF,bF,.c (.agg [(.fn 212 [] []),(.fn 213 [] []),(.fn 214 [] []),(.fn 215 [] []),(.fn 212 [] [])]) [],.c (pI m108) (vU dl sk dc ov T109),.c (pI (tot-m108)) []]) (l:=[_,_,FC Tp 160 [(.p (dcE y100 1 y102 y103 y104 y105)),(.ptr 2 0)] [(2,vB2),(4,(.box 207 [(.mp 3)])),(5,(vB5 dl sk dc)),(0,(vB0 dl sk dc)),(6,vB6),(1,(.box 33 [(.p ov)])),(3,(.mp (aG T107) T107.length))] 18 (pI m108) (vU dl sk dc ov T109),_,FC Tp 183 [] [] 10 (.agg [(.fn 212 [] []),(.fn 213 [] []),(.fn 214 [] []),(.fn 215 [] []),(.fn 212 [] [])]) [],_,_,_,_,_,FC Tp 136 [iB,(.p (dcE y100 1 y102 y103 y104 y105)),(pI s0)] [(4,(.box 207 [(.mp 3)])),(5,(vB5 dl sk dc)),(0,(vB0 dl sk dc)),(2,vB2),(6,vB6),(1,(.box 33 [(.p ov)])),(3,(.mp (aG t) t.length))] 10 (pB b106) (vU dl sk dc ov T107),_,_,0≤(i:Int)∧(i:Int)<(dc.length:Int)∧(i*6)<(dc.flatten.map aA).length,_]) (by kernel_rfl) (gc h8 (gc (fk 26 (bFd tot m108 h7) rfl) (gc (FMM.fc (ids:=[0,1,2,3,4,5,6]) h6 (by kernel_rfl)) (gc bEz (gc (FV.fc nL (by kernel_rfl)) (g4c h5 (gc h4 (gc (FMM.fc (ids:=[0,1,2,3,4,5,6]) h3 (by kernel_rfl)) (gc (aV (i:=i) h2 h1) (gc (bI (i:=i) h2 h1) (gc (cB (k:=6) (i:=(i:Int)) (by decide) h2 (kQ2 _) h1) (gc (aZ h0) gn))))))))))))
 exact raw.cast (by rw [et'e,et'k])
theorem aYd{ov:PV}{s0 s1:Int}{out:Bool}{tot:Int}{i:Nat}{t:Lqb}{y100 y102 y103 y104 y105:Int}{b106:Bool}{T107:Lqb}{m108:Int}{T109:Lqb}{tot':Int}{i':Nat}{t':Lqb}(h0:(i:Int)<(dc.length:Int))(h1:dc[i]? = some [y100,(2:Int),y102,y103,y104,y105])(h2:uni 6 dc)(h3:yZ dl sk dc ov [y100,(2:Int),y102,y103,y104,y105] s0 b106 t T107)(h4:b106=true)(h5:out=true)(h6:zB dl sk dc ov [y100,(2:Int),y102,y103,y104,y105] m108 T107 T109)(h7:inR (1200*m108)∧inR (tot+1200*m108))(h8:inR (((i+1):Nat):Int))(etot':tot'=(tot+1200*m108))(ei':i'=(i+1))(et'e:aG t'=(aG T109))(et'k:t'.length=T109.length):aC Tp 7 eA (bK dl sk dc ov s0 s1 out tot i (aG t) t.length) .normal (bK dl sk dc ov s0 s1 true tot' i' (aG t') t'.length):=by
 subst etot' ei';have raw:aC Tp 7 eA (bK dl sk dc ov s0 s1 out tot i (aG t) t.length) .normal (bK dl sk dc ov s0 s1 true (tot+1200*m108) (i+1) (aG T109) T109.length):=aC.fin (g:=⟨(rng [(0,4),(10,11),(24,26)]),[7,8],[],[(8,0)]⟩) (o:=[bT,.x (dcE y100 2 y102 y103 y104 y105),.c (pB b106) (vU dl sk dc ov T107),bT,bT,bT,bT,bT,.c (.agg [(.fn 212 [] []),(.fn 213 [] []),(.fn 214 [] []),(.fn 215 [] []),(.fn 212 [] [])]) [],.c (pI m108) (vU dl sk dc ov T109),.c (pI (tot+1200*m108)) []]) (l:=[_,_,FC Tp 160 [(.p (dcE y100 2 y102 y103 y104 y105)),(.ptr 2 0)] [(2,vB2),(4,(.box 207 [(.mp 3)])),(5,(vB5 dl sk dc)),(0,(vB0 dl sk dc)),(6,vB6),(1,(.box 33 [(.p ov)])),(3,(.mp (aG T107) T107.length))] 18 (pI m108) (vU dl sk dc ov T109),_,FC Tp 183 [] [] 10 (.agg [(.fn 212 [] []),(.fn 213 [] []),(.fn 214 [] []),(.fn 215 [] []),(.fn 212 [] [])]) [],_,_,_,_,_,FC Tp 136 [iB,(.p (dcE y100 2 y102 y103 y104 y105)),(pI s0)] [(4,(.box 207 [(.mp 3)])),(5,(vB5 dl sk dc)),(0,(vB0 dl sk dc)),(2,vB2),(6,vB6),(1,(.box 33 [(.p ov)])),(3,(.mp (aG t) t.length))] 10 (pB b106) (vU dl sk dc ov T107),_,_,0≤(i:Int)∧(i:Int)<(dc.length:Int)∧(i*6)<(dc.flatten.map aA).length,_]) (by kernel_rfl) (gc h8 (gc (fk 26 (bFe tot m108 h7) rfl) (gc (FMM.fc (ids:=[0,1,2,3,4,5,6]) h6 (by kernel_rfl)) (gc bFa (gc (FV.fc nL (by kernel_rfl)) (g4c h5 (gc h4 (gc (FMM.fc (ids:=[0,1,2,3,4,5,6]) h3 (by kernel_rfl)) (gc (aV (i:=i) h2 h1) (gc (bI (i:=i) h2 h1) (gc (cB (k:=6) (i:=(i:Int)) (by decide) h2 (kQ2 _) h1) (gc (aZ h0) gn))))))))))))
 exact raw.cast (by rw [et'e,et'k])
theorem aYe{ov:PV}{s0 s1:Int}{out:Bool}{tot:Int}{i:Nat}{t:Lqb}{y100 y102 y103 y104 y105:Int}{b106:Bool}{T107:Lqb}{m108:Int}{T109:Lqb}{out':Bool}{tot':Int}{i':Nat}{t':Lqb}(h0:(i:Int)<(dc.length:Int))(h1:dc[i]? = some [y100,(2:Int),y102,y103,y104,y105])(h2:uni 6 dc)(h3:yZ dl sk dc ov [y100,(2:Int),y102,y103,y104,y105] s0 b106 t T107)(h4:b106=true)(h5:out=false)(h6:zB dl sk dc ov [y100,(2:Int),y102,y103,y104,y105] m108 T107 T109)(h7:inR (1200*m108)∧inR (tot+1200*m108))(h8:inR (((i+1):Nat):Int))(eout':out'=((2:Int) == (3:Int)))(etot':tot'=(tot+1200*m108))(ei':i'=(i+1))(et'e:aG t'=(aG T109))(et'k:t'.length=T109.length):aC Tp 7 eA (bK dl sk dc ov s0 s1 out tot i (aG t) t.length) .normal (bK dl sk dc ov s0 s1 out' tot' i' (aG t') t'.length):=by
 subst eout' etot' ei';have raw:aC Tp 7 eA (bK dl sk dc ov s0 s1 out tot i (aG t) t.length) .normal (bK dl sk dc ov s0 s1 ((2:Int) == (3:Int)) (tot+1200*m108) (i+1) (aG T109) T109.length):=aC.fin (g:=⟨(rng [(0,4),(10,11),(24,26)]),[7,8],[],[]⟩) (o:=[bT,.x (dcE y100 2 y102 y103 y104 y105),.c (pB b106) (vU dl sk dc ov T107),bT,bF,bF,bF,bF,.c (.agg [(.fn 212 [] []),(.fn 213 [] []),(.fn 214 [] []),(.fn 215 [] []),(.fn 212 [] [])]) [],.c (pI m108) (vU dl sk dc ov T109),.c (pI (tot+1200*m108)) []]) (l:=[_,_,FC Tp 160 [(.p (dcE y100 2 y102 y103 y104 y105)),(.ptr 2 0)] [(2,vB2),(4,(.box 207 [(.mp 3)])),(5,(vB5 dl sk dc)),(0,(vB0 dl sk dc)),(6,vB6),(1,(.box 33 [(.p ov)])),(3,(.mp (aG T107) T107.length))] 18 (pI m108) (vU dl sk dc ov T109),_,FC Tp 183 [] [] 10 (.agg [(.fn 212 [] []),(.fn 213 [] []),(.fn 214 [] []),(.fn 215 [] []),(.fn 212 [] [])]) [],_,_,_,_,_,FC Tp 136 [iB,(.p (dcE y100 2 y102 y103 y104 y105)),(pI s0)] [(4,(.box 207 [(.mp 3)])),(5,(vB5 dl sk dc)),(0,(vB0 dl sk dc)),(2,vB2),(6,vB6),(1,(.box 33 [(.p ov)])),(3,(.mp (aG t) t.length))] 10 (pB b106) (vU dl sk dc ov T107),_,_,0≤(i:Int)∧(i:Int)<(dc.length:Int)∧(i*6)<(dc.flatten.map aA).length,_]) (by kernel_rfl) (gc h8 (gc (fk 26 (bFe tot m108 h7) rfl) (gc (FMM.fc (ids:=[0,1,2,3,4,5,6]) h6 (by kernel_rfl)) (gc bFa (gc (FV.fc nL (by kernel_rfl)) (g4c h5 (gc h4 (gc (FMM.fc (ids:=[0,1,2,3,4,5,6]) h3 (by kernel_rfl)) (gc (aV (i:=i) h2 h1) (gc (bI (i:=i) h2 h1) (gc (cB (k:=6) (i:=(i:Int)) (by decide) h2 (kQ2 _) h1) (gc (aZ h0) gn))))))))))))
 exact raw.cast (by rw [et'e,et'k])
theorem aYf{ov:PV}{s0 s1:Int}{out:Bool}{tot:Int}{i:Nat}{t:Lqb}{y100 y102 y103 y104 y105:Int}{b106:Bool}{T107:Lqb}{m108:Int}{T109:Lqb}{i':Nat}{t':Lqb}(h0:(i:Int)<(dc.length:Int))(h1:dc[i]? = some [y100,(3:Int),y102,y103,y104,y105])(h2:uni 6 dc)(h3:yZ dl sk dc ov [y100,(3:Int),y102,y103,y104,y105] s0 b106 t T107)(h4:b106=true)(h5:out=true)(h6:zB dl sk dc ov [y100,(3:Int),y102,y103,y104,y105] m108 T107 T109)(h7:inR (((i+1):Nat):Int))(ei':i'=(i+1))(et'e:aG t'=(aG T109))(et'k:t'.length=T109.length):aC Tp 7 eA (bK dl sk dc ov s0 s1 out tot i (aG t) t.length) .normal (bK dl sk dc ov s0 s1 true tot i' (aG t') t'.length):=by
 subst ei';have raw:aC Tp 7 eA (bK dl sk dc ov s0 s1 out tot i (aG t) t.length) .normal (bK dl sk dc ov s0 s1 true tot (i+1) (aG T109) T109.length):=aC.fin (g:=⟨(rng [(0,4),(10,11),(24,26)]),[7,8],[],[(8,0)]⟩) (o:=[bT,.x (dcE y100 3 y102 y103 y104 y105),.c (pB b106) (vU dl sk dc ov T107),bT,bT,bT,bT,bT,.c (.agg [(.fn 212 [] []),(.fn 213 [] []),(.fn 214 [] []),(.fn 215 [] []),(.fn 212 [] [])]) [],.c (pI m108) (vU dl sk dc ov T109),.c (pI tot) []]) (l:=[_,_,FC Tp 160 [(.p (dcE y100 3 y102 y103 y104 y105)),(.ptr 2 0)] [(2,vB2),(4,(.box 207 [(.mp 3)])),(5,(vB5 dl sk dc)),(0,(vB0 dl sk dc)),(6,vB6),(1,(.box 33 [(.p ov)])),(3,(.mp (aG T107) T107.length))] 18 (pI m108) (vU dl sk dc ov T109),_,FC Tp 183 [] [] 10 (.agg [(.fn 212 [] []),(.fn 213 [] []),(.fn 214 [] []),(.fn 215 [] []),(.fn 212 [] [])]) [],_,_,_,_,_,FC Tp 136 [iB,(.p (dcE y100 3 y102 y103 y104 y105)),(pI s0)] [(4,(.box 207 [(.mp 3)])),(5,(vB5 dl sk dc)),(0,(vB0 dl sk dc)),(2,vB2),(6,vB6),(1,(.box 33 [(.p ov)])),(3,(.mp (aG t) t.length))] 10 (pB b106) (vU dl sk dc ov T107),_,_,0≤(i:Int)∧(i:Int)<(dc.length:Int)∧(i*6)<(dc.flatten.map aA).length,_]) (by kernel_rfl) (gc h7 (gc (fk 26 (bFf tot m108) rfl) (gc (FMM.fc (ids:=[0,1,2,3,4,5,6]) h6 (by kernel_rfl)) (gc bFb (gc (FV.fc nL (by kernel_rfl)) (g4c h5 (gc h4 (gc (FMM.fc (ids:=[0,1,2,3,4,5,6]) h3 (by kernel_rfl)) (gc (aV (i:=i) h2 h1) (gc (bI (i:=i) h2 h1) (gc (cB (k:=6) (i:=(i:Int)) (by decide) h2 (kQ2 _) h1) (gc (aZ h0) gn))))))))))))
 exact raw.cast (by rw [et'e,et'k])
theorem aYg{ov:PV}{s0 s1:Int}{out:Bool}{tot:Int}{i:Nat}{t:Lqb}{y100 y102 y103 y104 y105:Int}{b106:Bool}{T107:Lqb}{m108:Int}{T109:Lqb}{out':Bool}{i':Nat}{t':Lqb}(h0:(i:Int)<(dc.length:Int))(h1:dc[i]? = some [y100,(3:Int),y102,y103,y104,y105])(h2:uni 6 dc)(h3:yZ dl sk dc ov [y100,(3:Int),y102,y103,y104,y105] s0 b106 t T107)(h4:b106=true)(h5:out=false)(h6:zB dl sk dc ov [y100,(3:Int),y102,y103,y104,y105] m108 T107 T109)(h7:inR (((i+1):Nat):Int))(eout':out'=((3:Int) == (3:Int)))(ei':i'=(i+1))(et'e:aG t'=(aG T109))(et'k:t'.length=T109.length):aC Tp 7 eA (bK dl sk dc ov s0 s1 out tot i (aG t) t.length) .normal (bK dl sk dc ov s0 s1 out' tot i' (aG t') t'.length):=by
 subst eout' ei';have raw:aC Tp 7 eA (bK dl sk dc ov s0 s1 out tot i (aG t) t.length) .normal (bK dl sk dc ov s0 s1 ((3:Int) == (3:Int)) tot (i+1) (aG T109) T109.length):=aC.fin (g:=⟨(rng [(0,4),(10,11),(24,26)]),[7,8],[],[]⟩) (o:=[bT,.x (dcE y100 3 y102 y103 y104 y105),.c (pB b106) (vU dl sk dc ov T107),bT,bF,bF,bF,bF,.c (.agg [(.fn 212 [] []),(.fn 213 [] []),(.fn 214 [] []),(.fn 215 [] []),(.fn 212 [] [])]) [],.c (pI m108) (vU dl sk dc ov T109),.c (pI tot) []]) (l:=[_,_,FC Tp 160 [(.p (dcE y100 3 y102 y103 y104 y105)),(.ptr 2 0)] [(2,vB2),(4,(.box 207 [(.mp 3)])),(5,(vB5 dl sk dc)),(0,(vB0 dl sk dc)),(6,vB6),(1,(.box 33 [(.p ov)])),(3,(.mp (aG T107) T107.length))] 18 (pI m108) (vU dl sk dc ov T109),_,FC Tp 183 [] [] 10 (.agg [(.fn 212 [] []),(.fn 213 [] []),(.fn 214 [] []),(.fn 215 [] []),(.fn 212 [] [])]) [],_,_,_,_,_,FC Tp 136 [iB,(.p (dcE y100 3 y102 y103 y104 y105)),(pI s0)] [(4,(.box 207 [(.mp 3)])),(5,(vB5 dl sk dc)),(0,(vB0 dl sk dc)),(2,vB2),(6,vB6),(1,(.box 33 [(.p ov)])),(3,(.mp (aG t) t.length))] 10 (pB b106) (vU dl sk dc ov T107),_,_,0≤(i:Int)∧(i:Int)<(dc.length:Int)∧(i*6)<(dc.flatten.map aA).length,_]) (by kernel_rfl) (gc h7 (gc (fk 26 (bFf tot m108) rfl) (gc (FMM.fc (ids:=[0,1,2,3,4,5,6]) h6 (by kernel_rfl)) (gc bFb (gc (FV.fc nL (by kernel_rfl)) (g4c h5 (gc h4 (gc (FMM.fc (ids:=[0,1,2,3,4,5,6]) h3 (by kernel_rfl)) (gc (aV (i:=i) h2 h1) (gc (bI (i:=i) h2 h1) (gc (cB (k:=6) (i:=(i:Int)) (by decide) h2 (kQ2 _) h1) (gc (aZ h0) gn))))))))))))
 exact raw.cast (by rw [et'e,et'k])
theorem aYh{ov:PV}{s0 s1:Int}{out:Bool}{tot:Int}{i:Nat}{t:Lqb}{y100 y102 y103 y104 y105:Int}{b106:Bool}{T107:Lqb}{m108:Int}{T109:Lqb}{tot':Int}{i':Nat}{t':Lqb}(h0:(i:Int)<(dc.length:Int))(h1:dc[i]? = some [y100,(4:Int),y102,y103,y104,y105])(h2:uni 6 dc)(h3:yZ dl sk dc ov [y100,(4:Int),y102,y103,y104,y105] s0 b106 t T107)(h4:b106=true)(h5:out=true)(h6:zB dl sk dc ov [y100,(4:Int),y102,y103,y104,y105] m108 T107 T109)(h7:inR (tot+m108))(h8:inR (((i+1):Nat):Int))(etot':tot'=(tot+m108))(ei':i'=(i+1))(et'e:aG t'=(aG T109))(et'k:t'.length=T109.length):aC Tp 7 eA (bK dl sk dc ov s0 s1 out tot i (aG t) t.length) .normal (bK dl sk dc ov s0 s1 true tot' i' (aG t') t'.length):=by
 subst etot' ei';have raw:aC Tp 7 eA (bK dl sk dc ov s0 s1 out tot i (aG t) t.length) .normal (bK dl sk dc ov s0 s1 true (tot+m108) (i+1) (aG T109) T109.length):=aC.fin (g:=⟨(rng [(0,4),(10,11),(24,26)]),[7,8],[],[(8,0)]⟩) (o:=[bT,.x (dcE y100 4 y102 y103 y104 y105),.c (pB b106) (vU dl sk dc ov T107),bT,bT,bT,bT,bT,.c (.agg [(.fn 212 [] []),(.fn 213 [] []),(.fn 214 [] []),(.fn 215 [] []),(.fn 212 [] [])]) [],.c (pI m108) (vU dl sk dc ov T109),.c (pI (tot+m108)) []]) (l:=[_,_,FC Tp 160 [(.p (dcE y100 4 y102 y103 y104 y105)),(.ptr 2 0)] [(2,vB2),(4,(.box 207 [(.mp 3)])),(5,(vB5 dl sk dc)),(0,(vB0 dl sk dc)),(6,vB6),(1,(.box 33 [(.p ov)])),(3,(.mp (aG T107) T107.length))] 18 (pI m108) (vU dl sk dc ov T109),_,FC Tp 183 [] [] 10 (.agg [(.fn 212 [] []),(.fn 213 [] []),(.fn 214 [] []),(.fn 215 [] []),(.fn 212 [] [])]) [],_,_,_,_,_,FC Tp 136 [iB,(.p (dcE y100 4 y102 y103 y104 y105)),(pI s0)] [(4,(.box 207 [(.mp 3)])),(5,(vB5 dl sk dc)),(0,(vB0 dl sk dc)),(2,vB2),(6,vB6),(1,(.box 33 [(.p ov)])),(3,(.mp (aG t) t.length))] 10 (pB b106) (vU dl sk dc ov T107),_,_,0≤(i:Int)∧(i:Int)<(dc.length:Int)∧(i*6)<(dc.flatten.map aA).length,_]) (by kernel_rfl) (gc h8 (gc (fk 26 (aHw tot m108 h7) rfl) (gc (FMM.fc (ids:=[0,1,2,3,4,5,6]) h6 (by kernel_rfl)) (gc bFc (gc (FV.fc nL (by kernel_rfl)) (g4c h5 (gc h4 (gc (FMM.fc (ids:=[0,1,2,3,4,5,6]) h3 (by kernel_rfl)) (gc (aV (i:=i) h2 h1) (gc (bI (i:=i) h2 h1) (gc (cB (k:=6) (i:=(i:Int)) (by decide) h2 (kQ2 _) h1) (gc (aZ h0) gn))))))))))))
 exact raw.cast (by rw [et'e,et'k])
theorem aYi{ov:PV}{s0 s1:Int}{out:Bool}{tot:Int}{i:Nat}{t:Lqb}{y100 y102 y103 y104 y105:Int}{b106:Bool}{T107:Lqb}{m108:Int}{T109:Lqb}{out':Bool}{tot':Int}{i':Nat}{t':Lqb}(h0:(i:Int)<(dc.length:Int))(h1:dc[i]? = some [y100,(4:Int),y102,y103,y104,y105])(h2:uni 6 dc)(h3:yZ dl sk dc ov [y100,(4:Int),y102,y103,y104,y105] s0 b106 t T107)(h4:b106=true)(h5:out=false)(h6:zB dl sk dc ov [y100,(4:Int),y102,y103,y104,y105] m108 T107 T109)(h7:inR (tot+m108))(h8:inR (((i+1):Nat):Int))(eout':out'=((4:Int) == (3:Int)))(etot':tot'=(tot+m108))(ei':i'=(i+1))(et'e:aG t'=(aG T109))(et'k:t'.length=T109.length):aC Tp 7 eA (bK dl sk dc ov s0 s1 out tot i (aG t) t.length) .normal (bK dl sk dc ov s0 s1 out' tot' i' (aG t') t'.length):=by
 subst eout' etot' ei';have raw:aC Tp 7 eA (bK dl sk dc ov s0 s1 out tot i (aG t) t.length) .normal (bK dl sk dc ov s0 s1 ((4:Int) == (3:Int)) (tot+m108) (i+1) (aG T109) T109.length):=aC.fin (g:=⟨(rng [(0,4),(10,11),(24,26)]),[7,8],[],[]⟩) (o:=[bT,.x (dcE y100 4 y102 y103 y104 y105),.c (pB b106) (vU dl sk dc ov T107),bT,bF,bF,bF,bF,.c (.agg [(.fn 212 [] []),(.fn 213 [] []),(.fn 214 [] []),(.fn 215 [] []),(.fn 212 [] [])]) [],.c (pI m108) (vU dl sk dc ov T109),.c (pI (tot+m108)) []]) (l:=[_,_,FC Tp 160 [(.p (dcE y100 4 y102 y103 y104 y105)),(.ptr 2 0)] [(2,vB2),(4,(.box 207 [(.mp 3)])),(5,(vB5 dl sk dc)),(0,(vB0 dl sk dc)),(6,vB6),(1,(.box 33 [(.p ov)])),(3,(.mp (aG T107) T107.length))] 18 (pI m108) (vU dl sk dc ov T109),_,FC Tp 183 [] [] 10 (.agg [(.fn 212 [] []),(.fn 213 [] []),(.fn 214 [] []),(.fn 215 [] []),(.fn 212 [] [])]) [],_,_,_,_,_,FC Tp 136 [iB,(.p (dcE y100 4 y102 y103 y104 y105)),(pI s0)] [(4,(.box 207 [(.mp 3)])),(5,(vB5 dl sk dc)),(0,(vB0 dl sk dc)),(2,vB2),(6,vB6),(1,(.box 33 [(.p ov)])),(3,(.mp (aG t) t.length))] 10 (pB b106) (vU dl sk dc ov T107),_,_,0≤(i:Int)∧(i:Int)<(dc.length:Int)∧(i*6)<(dc.flatten.map aA).length,_]) (by kernel_rfl) (gc h8 (gc (fk 26 (aHw tot m108 h7) rfl) (gc (FMM.fc (ids:=[0,1,2,3,4,5,6]) h6 (by kernel_rfl)) (gc bFc (gc (FV.fc nL (by kernel_rfl)) (g4c h5 (gc h4 (gc (FMM.fc (ids:=[0,1,2,3,4,5,6]) h3 (by kernel_rfl)) (gc (aV (i:=i) h2 h1) (gc (bI (i:=i) h2 h1) (gc (cB (k:=6) (i:=(i:Int)) (by decide) h2 (kQ2 _) h1) (gc (aZ h0) gn))))))))))))
 exact raw.cast (by rw [et'e,et'k])
theorem aPr{ov:PV}{s0 s1:Int}{out:Bool}{tot:Int}{i:Nat}{t:Lqb}{y100 y101 y102 y103 y104 y105:Int}{b106:Bool}{T107:Lqb}{i':Nat}{t':Lqb}(h0:(i:Int)<(dc.length:Int))(h1:dc[i]? = some [y100,y101,y102,y103,y104,y105])(h2:uni 6 dc)(h3:yZ dl sk dc ov [y100,y101,y102,y103,y104,y105] s0 b106 t T107)(h4:b106=false)(h5:inR (((i+1):Nat):Int))(ei':i'=(i+1))(et'e:aG t'=(aG T107))(et'k:t'.length=T107.length):aC Tp 7 eA (bK dl sk dc ov s0 s1 out tot i (aG t) t.length) .normal (bK dl sk dc ov s0 s1 out tot i' (aG t') t'.length):=by
 subst ei';have raw:aC Tp 7 eA (bK dl sk dc ov s0 s1 out tot i (aG t) t.length) .normal (bK dl sk dc ov s0 s1 out tot (i+1) (aG T107) T107.length):=aC.fin (g:=⟨(rng [(0,4),(10,11),(24,26)]),[7,8],[],[]⟩) (o:=[bT,.x (dcE y100 y101 y102 y103 y104 y105),.c (pB b106) (vU dl sk dc ov T107),bF]) (l:=[_,_,FC Tp 136 [iB,(.p (dcE y100 y101 y102 y103 y104 y105)),(pI s0)] [(4,(.box 207 [(.mp 3)])),(5,(vB5 dl sk dc)),(0,(vB0 dl sk dc)),(2,vB2),(6,vB6),(1,(.box 33 [(.p ov)])),(3,(.mp (aG t) t.length))] 10 (pB b106) (vU dl sk dc ov T107),_,_,0≤(i:Int)∧(i:Int)<(dc.length:Int)∧(i*6)<(dc.flatten.map aA).length,_]) (by kernel_rfl) (gc h5 (gc h4 (gc (FMM.fc (ids:=[0,1,2,3,4,5,6]) h3 (by kernel_rfl)) (gc (aV (i:=i) h2 h1) (gc (bI (i:=i) h2 h1) (gc (cB (k:=6) (i:=(i:Int)) (by decide) h2 (kQ2 _) h1) (gc (aZ h0) gn)))))))
 exact raw.cast (by rw [et'e,et'k])
theorem aPs{ov:PV}{s0 s1:Int}{out:Bool}{tot:Int}{i:Nat}{t:Lqb}(h0:(dc.length:Int)≤(i:Int)):aC Tp 7 eA (bK dl sk dc ov s0 s1 out tot i (aG t) t.length) (.exit 0) (bK dl sk dc ov s0 s1 out tot i (aG t) t.length):=by
 exact aC.fin (g:=⟨(rng [(0,4),(10,11),(24,26)]),[7,8],[],[]⟩) (o:=[bF]) (l:=[_]) (by kernel_rfl) (gc (bJ h0) gn)
def eL(dl:Int)(sk:Lqq)(dc:Lqq)(on:Nat)(oc:List PV)(i:Nat)(te:List (Value × PV))(tk:Nat):St:=⟨fr 48 [(2,(.p cC)),(3,(.ptr 7 0)),(4,(.own 8)),(15,(.p (fS dc))),(16,(pI (dc.length:Int))),(17,(pI (i:Int)))],[some (vB0 dl sk dc),some (.box 33 [(.p cC)]),some vB2,some (.mp te tk),some (.box 207 [(.mp 3)]),some (vB5 dl sk dc),some vB6,some vB2,some (.row 3 on oc)]⟩
theorem bRy{o'0:List Int}{i'1:Nat}{t'2:Lqb}(hl0:aJ Tp 0 nK (eL dl sk dc 0 [] 0 (aG ([]:Lqb)) 0) (.exit 0) (eL dl sk dc o'0.length (o'0.map aA) i'1 (aG t'2) t'2.length)){base:Nat}:FV Tp 83 [(.rp (aH dl sk dc) 0)] base (.own base) [(base,(.row 3 o'0.length (o'0.map aA)))]:=by
 exact FV.fin Tryz.func83 rfl (o:=[.c iB (vU dl sk dc cC ([]:Lqb)),.x (fS dc),.k 1 ⟨(rng [(0,2),(5,10),(18,29)]),[0,1,2,3,4,5,6,7,8],[],[(4,3)]⟩ (.exit 0) (eL dl sk dc o'0.length (o'0.map aA) i'1 (aG t'2) t'2.length)]) (l:=[_,(aH dl sk dc)[2]? = some (fS dc),FC Tp 87 [(.rp (aH dl sk dc) 0),(.p cC)] [] 0 iB (vU dl sk dc cC ([]:Lqb))]) (by kernel_rfl) (gc hl0.code (gc rfl (gc (FMM.fcN (k:=7) rfl (ids:=[]) (aId (dl:=dl) (sk:=sk) (dc:=dc)) (by kernel_rfl)) gn)))
theorem aYj{o:List Int}{i:Nat}{t:Lqb}{y100 y101 y102 y103 y104 y105 z106 z107 z108 z109 z110 z111:Int}{b112:Bool}{T113:Lqb}{b114:Bool}{T115:Lqb}{o':List Int}{i':Nat}{t':Lqb}(h0:(i:Int)<(dc.length:Int))(h1:dc[i]? = some [y100,y101,y102,y103,y104,y105])(h2:uni 6 dc)(h3:aLv dl sk dc cC [y100,y101,y102,y103,y104,y105] [z106,z107,z108,z109,z110,z111] b112 t T113)(h4:(gG y101)=true)(h5:rA dl sk dc cC [y100,y101,y102,y103,y104,y105] b114 T113 T115)(h6:b114=true)(h7:b112=false)(h8:[(aA y100)].length=1*1∧o.length+1≤1000000)(h9:inR (((i+1):Nat):Int))(eo'n:o'.length=(o.length+1))(eo'c:o'.map aA=((o.map aA)++[(aA y100)]))(ei':i'=(i+1))(et'e:aG t'=(aG T115))(et'k:t'.length=T115.length):aC Tp 0 nK (eL dl sk dc o.length (o.map aA) i (aG t) t.length) .normal (eL dl sk dc o'.length (o'.map aA) i' (aG t') t'.length):=by
 subst ei';have raw:aC Tp 0 nK (eL dl sk dc o.length (o.map aA) i (aG t) t.length) .normal (eL dl sk dc (o.length+1) ((o.map aA)++[(aA y100)]) (i+1) (aG T115) T115.length):=aC.fin (g:=⟨(rng [(0,2),(5,10),(18,29)]),[0,1,2,3,4,5,6,7,12],[],[]⟩) (o:=[bT,.x (dcE y100 y101 y102 y103 y104 y105),.c (.tup [(.p (dcE z106 z107 z108 z109 z110 z111)),(pB b112)]) (vU dl sk dc cC T113),.c (pB (gG y101)) [],bT,bT,bT,bT,.c (pB b114) (vU dl sk dc cC T115),bT,bT,bT,bT,bT]) (l:=[_,_,_,_,_,_,_,FC Tp 154 [(.p (dcE y100 y101 y102 y103 y104 y105)),(.ptr 4 0),(.ptr 5 0),(.ptr 0 0),(.ptr 2 0)] [(4,(.box 207 [(.mp 3)])),(5,(vB5 dl sk dc)),(0,(vB0 dl sk dc)),(2,vB2),(3,(.mp (aG T113) T113.length)),(6,vB6),(1,(.box 33 [(.p cC)]))] 11 (pB b114) (vU dl sk dc cC T115),_,_,_,_,_,FC Tp 156 [(.p (dcE y100 y101 y102 y103 y104 y105)),(.ptr 6 0)] [(6,vB6),(0,(vB0 dl sk dc)),(2,vB2),(4,(.box 207 [(.mp 3)])),(5,(vB5 dl sk dc)),(1,(.box 33 [(.p cC)])),(3,(.mp (aG t) t.length))] 10 (.tup [(.p (dcE z106 z107 z108 z109 z110 z111)),(pB b112)]) (vU dl sk dc cC T113),_,_,0≤(i:Int)∧(i:Int)<(dc.length:Int)∧(i*6)<(dc.flatten.map aA).length,_]) (by kernel_rfl) (gc h9 (gc h8 (gc (cL h7) (g3c h6 (gc h4 (gc (FMM.fc (ids:=[0,1,2,3,4,5,6]) h5 (by kernel_rfl)) (g4c h4 (gc (fk 11 (wT y101) rfl) (gc (FMM.fc (ids:=[0,1,2,3,4,5,6]) h3 (by kernel_rfl)) (gc (aV (i:=i) h2 h1) (gc (bI (i:=i) h2 h1) (gc (cB (k:=6) (i:=(i:Int)) (by decide) h2 (kQ2 _) h1) (gc (aZ h0) gn)))))))))))))
 exact raw.cast (by rw [eo'n,eo'c,et'e,et'k])
theorem aYk{o:List Int}{i:Nat}{t:Lqb}{y100 y101 y102 y103 y104 y105 z106 z107 z108 z109 z110 z111:Int}{b112:Bool}{T113:Lqb}{b114:Bool}{T115:Lqb}{i':Nat}{t':Lqb}(h0:(i:Int)<(dc.length:Int))(h1:dc[i]? = some [y100,y101,y102,y103,y104,y105])(h2:uni 6 dc)(h3:aLv dl sk dc cC [y100,y101,y102,y103,y104,y105] [z106,z107,z108,z109,z110,z111] b112 t T113)(h4:(gG y101)=true)(h5:rA dl sk dc cC [y100,y101,y102,y103,y104,y105] b114 T113 T115)(h6:b114=true)(h7:b112=true)(h8:inR (((i+1):Nat):Int))(ei':i'=(i+1))(et'e:aG t'=(aG T115))(et'k:t'.length=T115.length):aC Tp 0 nK (eL dl sk dc o.length (o.map aA) i (aG t) t.length) .normal (eL dl sk dc o.length (o.map aA) i' (aG t') t'.length):=by
 subst ei';have raw:aC Tp 0 nK (eL dl sk dc o.length (o.map aA) i (aG t) t.length) .normal (eL dl sk dc o.length (o.map aA) (i+1) (aG T115) T115.length):=aC.fin (g:=⟨(rng [(0,2),(5,10),(18,29)]),[0,1,2,3,4,5,6,7,8],[],[]⟩) (o:=[bT,.x (dcE y100 y101 y102 y103 y104 y105),.c (.tup [(.p (dcE z106 z107 z108 z109 z110 z111)),(pB b112)]) (vU dl sk dc cC T113),.c (pB (gG y101)) [],bT,bT,bT,bT,.c (pB b114) (vU dl sk dc cC T115),bT,bT,bT,bT,bF]) (l:=[_,_,_,_,_,_,FC Tp 154 [(.p (dcE y100 y101 y102 y103 y104 y105)),(.ptr 4 0),(.ptr 5 0),(.ptr 0 0),(.ptr 2 0)] [(4,(.box 207 [(.mp 3)])),(5,(vB5 dl sk dc)),(0,(vB0 dl sk dc)),(2,vB2),(3,(.mp (aG T113) T113.length)),(6,vB6),(1,(.box 33 [(.p cC)]))] 11 (pB b114) (vU dl sk dc cC T115),_,_,_,_,_,FC Tp 156 [(.p (dcE y100 y101 y102 y103 y104 y105)),(.ptr 6 0)] [(6,vB6),(0,(vB0 dl sk dc)),(2,vB2),(4,(.box 207 [(.mp 3)])),(5,(vB5 dl sk dc)),(1,(.box 33 [(.p cC)])),(3,(.mp (aG t) t.length))] 10 (.tup [(.p (dcE z106 z107 z108 z109 z110 z111)),(pB b112)]) (vU dl sk dc cC T113),_,_,0≤(i:Int)∧(i:Int)<(dc.length:Int)∧(i*6)<(dc.flatten.map aA).length,_]) (by kernel_rfl) (gc h8 (gc (aY h7) (g3c h6 (gc h4 (gc (FMM.fc (ids:=[0,1,2,3,4,5,6]) h5 (by kernel_rfl)) (g4c h4 (gc (fk 11 (wT y101) rfl) (gc (FMM.fc (ids:=[0,1,2,3,4,5,6]) h3 (by kernel_rfl)) (gc (aV (i:=i) h2 h1) (gc (bI (i:=i) h2 h1) (gc (cB (k:=6) (i:=(i:Int)) (by decide) h2 (kQ2 _) h1) (gc (aZ h0) gn))))))))))))
 exact raw.cast (by rw [et'e,et'k])
theorem aYl{o:List Int}{i:Nat}{t:Lqb}{y100 y101 y102 y103 y104 y105 z106 z107 z108 z109 z110 z111:Int}{b112:Bool}{T113:Lqb}{b114:Bool}{T115:Lqb}{i':Nat}{t':Lqb}(h0:(i:Int)<(dc.length:Int))(h1:dc[i]? = some [y100,y101,y102,y103,y104,y105])(h2:uni 6 dc)(h3:aLv dl sk dc cC [y100,y101,y102,y103,y104,y105] [z106,z107,z108,z109,z110,z111] b112 t T113)(h4:(gG y101)=true)(h5:rA dl sk dc cC [y100,y101,y102,y103,y104,y105] b114 T113 T115)(h6:b114=false)(h7:inR (((i+1):Nat):Int))(ei':i'=(i+1))(et'e:aG t'=(aG T115))(et'k:t'.length=T115.length):aC Tp 0 nK (eL dl sk dc o.length (o.map aA) i (aG t) t.length) .normal (eL dl sk dc o.length (o.map aA) i' (aG t') t'.length):=by
 subst ei';have raw:aC Tp 0 nK (eL dl sk dc o.length (o.map aA) i (aG t) t.length) .normal (eL dl sk dc o.length (o.map aA) (i+1) (aG T115) T115.length):=aC.fin (g:=⟨(rng [(0,2),(5,10),(18,29)]),[0,1,2,3,4,5,6,7,8],[],[]⟩) (o:=[bT,.x (dcE y100 y101 y102 y103 y104 y105),.c (.tup [(.p (dcE z106 z107 z108 z109 z110 z111)),(pB b112)]) (vU dl sk dc cC T113),.c (pB (gG y101)) [],bT,bT,bT,bT,.c (pB b114) (vU dl sk dc cC T115),bT,bF,bF,bF]) (l:=[_,_,_,_,_,FC Tp 154 [(.p (dcE y100 y101 y102 y103 y104 y105)),(.ptr 4 0),(.ptr 5 0),(.ptr 0 0),(.ptr 2 0)] [(4,(.box 207 [(.mp 3)])),(5,(vB5 dl sk dc)),(0,(vB0 dl sk dc)),(2,vB2),(3,(.mp (aG T113) T113.length)),(6,vB6),(1,(.box 33 [(.p cC)]))] 11 (pB b114) (vU dl sk dc cC T115),_,_,_,_,_,FC Tp 156 [(.p (dcE y100 y101 y102 y103 y104 y105)),(.ptr 6 0)] [(6,vB6),(0,(vB0 dl sk dc)),(2,vB2),(4,(.box 207 [(.mp 3)])),(5,(vB5 dl sk dc)),(1,(.box 33 [(.p cC)])),(3,(.mp (aG t) t.length))] 10 (.tup [(.p (dcE z106 z107 z108 z109 z110 z111)),(pB b112)]) (vU dl sk dc cC T113),_,_,0≤(i:Int)∧(i:Int)<(dc.length:Int)∧(i*6)<(dc.flatten.map aA).length,_]) (by kernel_rfl) (gc h7 (g3c h6 (gc h4 (gc (FMM.fc (ids:=[0,1,2,3,4,5,6]) h5 (by kernel_rfl)) (g4c h4 (gc (fk 11 (wT y101) rfl) (gc (FMM.fc (ids:=[0,1,2,3,4,5,6]) h3 (by kernel_rfl)) (gc (aV (i:=i) h2 h1) (gc (bI (i:=i) h2 h1) (gc (cB (k:=6) (i:=(i:Int)) (by decide) h2 (kQ2 _) h1) (gc (aZ h0) gn)))))))))))
 exact raw.cast (by rw [et'e,et'k])
theorem aYm{o:List Int}{i:Nat}{t:Lqb}{y100 y101 y102 y103 y104 y105 z106 z107 z108 z109 z110 z111:Int}{b112:Bool}{T113:Lqb}{i':Nat}{t':Lqb}(h0:(i:Int)<(dc.length:Int))(h1:dc[i]? = some [y100,y101,y102,y103,y104,y105])(h2:uni 6 dc)(h3:aLv dl sk dc cC [y100,y101,y102,y103,y104,y105] [z106,z107,z108,z109,z110,z111] b112 t T113)(h4:(gG y101)=false)(h5:inR (((i+1):Nat):Int))(ei':i'=(i+1))(et'e:aG t'=(aG T113))(et'k:t'.length=T113.length):aC Tp 0 nK (eL dl sk dc o.length (o.map aA) i (aG t) t.length) .normal (eL dl sk dc o.length (o.map aA) i' (aG t') t'.length):=by
 subst ei';have raw:aC Tp 0 nK (eL dl sk dc o.length (o.map aA) i (aG t) t.length) .normal (eL dl sk dc o.length (o.map aA) (i+1) (aG T113) T113.length):=aC.fin (g:=⟨(rng [(0,2),(5,10),(18,29)]),[0,1,2,3,4,5,6,7,8],[],[]⟩) (o:=[bT,.x (dcE y100 y101 y102 y103 y104 y105),.c (.tup [(.p (dcE z106 z107 z108 z109 z110 z111)),(pB b112)]) (vU dl sk dc cC T113),.c (pB (gG y101)) [],bF,bF,bF,bF,bF]) (l:=[_,_,_,_,_,_,_,FC Tp 156 [(.p (dcE y100 y101 y102 y103 y104 y105)),(.ptr 6 0)] [(6,vB6),(0,(vB0 dl sk dc)),(2,vB2),(4,(.box 207 [(.mp 3)])),(5,(vB5 dl sk dc)),(1,(.box 33 [(.p cC)])),(3,(.mp (aG t) t.length))] 10 (.tup [(.p (dcE z106 z107 z108 z109 z110 z111)),(pB b112)]) (vU dl sk dc cC T113),_,_,0≤(i:Int)∧(i:Int)<(dc.length:Int)∧(i*6)<(dc.flatten.map aA).length,_]) (by kernel_rfl) (gc h5 (g5c h4 (gc (fk 11 (wT y101) rfl) (gc (FMM.fc (ids:=[0,1,2,3,4,5,6]) h3 (by kernel_rfl)) (gc (aV (i:=i) h2 h1) (gc (bI (i:=i) h2 h1) (gc (cB (k:=6) (i:=(i:Int)) (by decide) h2 (kQ2 _) h1) (gc (aZ h0) gn))))))))
 exact raw.cast (by rw [et'e,et'k])
theorem aYn{o:List Int}{i:Nat}{t:Lqb}(h0:(dc.length:Int)≤(i:Int)):aC Tp 0 nK (eL dl sk dc o.length (o.map aA) i (aG t) t.length) (.exit 0) (eL dl sk dc o.length (o.map aA) i (aG t) t.length):=by
 exact aC.fin (g:=⟨(rng [(0,2),(5,10),(18,29)]),[0,1,2,3,4,5,6,7,8],[],[]⟩) (o:=[bF]) (l:=[_]) (by kernel_rfl) (gc (bJ h0) gn)
end
section
def aLt(dl:Int)(oc:List Int)(dc:Lqq)(bib:Int)(x:List Int):Bool:=decide (dK x≤4) && (dB x == bib && (dQ dl oc dc x && (!(dK x == 4) || aBx dl oc dc x)))
def byI(k t m:Int):Int:=if k=1 then t-m else if k=2 then t+1200*m else if k=3 then t else t+m
def wR(dl:Int)(oc:List Int)(dc:Lqq)(bib:Int)(acc:Bool × Int)(x:List Int):Bool × Int:=if aLt dl oc dc bib x then (acc.1 || dK x == 3,byI (dK x) acc.2 (nA dl oc dc x)) else acc
def aDs(dl:Int)(oc:List Int)(dc:Lqq)(bib time:Int):Bool × Int:=dc.foldl (wR dl oc dc bib) (time == -1,time)
def dJ(dl:Int)(oc:List Int)(dc:Lqq)(bib time:Int):Int × Bool:=if (aDs dl oc dc bib time).1 then (0,true) else (max 0 (aDs dl oc dc bib time).2,false)
def pT(dl:Int)(dc:Lqq)(x:List Int):Bool:=gG (dK x) && (dQ dl [] dc x && (tR dl [] dc x).isNone)
def aI(dl:Int)(dc:Lqq):List Int:=(dc.filter (pT dl dc)).map dN
section
variable {dl:Int} {sk dc:Lqq} {oc:List Int} {ov:PV}
theorem bKu(hd:bZ dc)(hov:∀ n,sJ ov n (oc.contains n)){x:List Int}(hx:x∈dc){T:Lqb}(hT:cK dl oc dc T):∃ T' z0 z1 z2 z3 z4 z5,cK dl oc dc T'∧(tR dl oc dc x).getD zero6=[z0,z1,z2,z3,z4,z5]∧aLv dl sk dc ov x [z0,z1,z2,z3,z4,z5] (tR dl oc dc x).isSome T T':=by
 obtain ⟨T',h1,h2⟩:=bYb (sk:=sk) hd hov hx T hT;cases hr:tR dl oc dc x with
 | none =>
  rw [hr] at h2
  exact ⟨T',0,0,0,0,0,0,h1,rfl,h2⟩
 | some z =>
  have hz:z.length=6:=by
   rw [aCa hd hx] at hr
   exact iA hd _ z (wK hr)
  obtain ⟨a,b,c,d,e,f,rfl⟩:=len6 hz;rw [hr] at h2
  exact ⟨T',a,b,c,d,e,f,h1,rfl,h2⟩
theorem aLu(hd:bZ dc):∀ (n:Nat) (x:List Int),x∈dc→10000-dN x≤(n:Int)→0≤nA dl oc dc x∧nA dl oc dc x≤36000
 | 0,x,hx,h=>by have:=dS hd hx;omega
 | n+1,x,hx,h=>by
  rw [aTm hd hx];cases hr:aIe dl oc dc x with
  | none =>
   have h4:=(iV.1 (hd.rng x hx)).2.2.2;have:mB (x.getD 1 0)≤36000:=by unfold mB;split <;> omega
   show 0≤x.getD 4 0∧x.getD 4 0≤36000;omega
  | some z =>
   have hz:z∈bU dc (dN x):=by
    rw [aCb hd hx] at hr
    exact wK hr
   obtain ⟨a1,a2⟩:=qZ hd hx hz;exact aLu hd n z a1 (by omega)
theorem aTf(hd:bZ dc){x:List Int}(hx:x∈dc):0≤nA dl oc dc x∧nA dl oc dc x≤36000:=aLu hd 10000 x hx (by have:=dS hd hx;omega)
theorem bYa(hd:bZ dc)(hov:∀ n,sJ ov n (oc.contains n))(bib:Int){x:List Int}(hx:x∈dc){T:Lqb}(hT:cK dl oc dc T):∃ T',cK dl oc dc T'∧yZ dl sk dc ov x bib (aLt dl oc dc bib x) T T':=by
 obtain ⟨T1,h1,c1⟩:=bFj (sk:=sk) hd hov hx T hT;obtain ⟨T2,h2,c2⟩:=bYd (sk:=sk) hd hov hx T1 h1;obtain ⟨a,k,c,d,e,f,rfl⟩:=len6 (hd.ud x hx);unfold aLt
 by_cases hk:k≤4
 ·have hk':decide (k≤4)=true:=decide_eq_true hk
  rw [show decide (dK [a,k,c,d,e,f]≤4)=true from hk',iR]
  by_cases hb:d=bib
  ·rw [show (dB [a,k,c,d,e,f] == bib)=true by simpa using hb,iR]
   cases hc:dQ dl oc dc [a,k,c,d,e,f] with
   | false =>
    rw [hc] at c1
    exact ⟨T1,h1,bRo hk' hb c1 rfl⟩
   | true =>
    rw [hc] at c1
    rw [iR]
    by_cases h4:k=4
    ·rw [show (dK [a,k,c,d,e,f] == 4)=true by simpa using h4,Bool.not_true,Bool.false_or]
     exact ⟨T2,h2,bRn hk' hb c1 rfl h4 c2⟩
    ·rw [show (dK [a,k,c,d,e,f] == 4)=false by simpa using h4,Bool.not_false,Bool.true_or]
     exact ⟨T1,h1,bRm hk' hb c1 rfl h4⟩
  ·rw [show (dB [a,k,c,d,e,f] == bib)=false by simpa using hb,Bool.false_and]
   exact ⟨T,hT,bRp hk' hb⟩
 ·have hk':decide (k≤4)=false:=decide_eq_false hk
  rw [show decide (dK [a,k,c,d,e,f]≤4)=false from hk',Bool.false_and]
  exact ⟨T,hT,bRq hk'⟩
theorem bEx(hd:bZ dc)(hov:∀ n,sJ ov n (oc.contains n))(s0 s1:Int)(hs : -1≤s1∧s1≤360000){T:Lqb}(hT:cK dl oc dc T):∃ T',cK dl oc dc T'∧aDt dl sk dc ov [s0,s1] (dJ dl oc dc s0 s1).1 (dJ dl oc dc s0 s1).2 T T':=by
 have hlen:=hd.len;obtain ⟨acc,⟨h1,h2,_⟩,h3⟩:=aJ.ex (P:=Tp) (k:=7) (b:=sub (cd Tryz.f134) [1,1,0,1,0,0]) (e := .exit 0) (fun i (a:(Bool × Int) × Lqb)=>bK dl sk dc ov s0 s1 a.1.1 a.1.2 i (aG a.2) a.2.length)
  (fun a=>bK dl sk dc ov s0 s1 a.1.1 a.1.2 dc.length (aG a.2) a.2.length)
  (fun i a=>cK dl oc dc a.2∧a.1=(dc.take i).foldl (wR dl oc dc s0) (s1 == -1,s1) ∧ -1-36000*(i:Int)≤a.1.2∧a.1.2≤360000+43200000*(i:Int)) (by simp) dc.length
  (fun i acc hi hI=>by
   obtain ⟨⟨out,tot⟩,T1⟩:=acc;obtain ⟨h1,h2,h3,h4⟩:=hI;dsimp only at h1 h2 h3 h4
   have hm:=iQ hi;obtain ⟨a,k,c,d,e,f,hy⟩:=len6 (hd.ud _ hm);have hx:dc[i]? = some [a,k,c,d,e,f]:=by rw [kQ0 hi,hy]
   rw [hy] at hm
   have et:(dc.take (i+1)).foldl (wR dl oc dc s0) (s1 == -1,s1)=wR dl oc dc s0 (out,tot) [a,k,c,d,e,f]:=by
    rw [List.take_add_one,hx,aHe,← h2];rfl
   obtain ⟨T2,q1,q2⟩:=bYa (sk:=sk) hd hov s0 hm h1;rw [et];unfold wR;cases hh:aLt dl oc dc s0 [a,k,c,d,e,f] with
   | false =>
    rw [hh] at q2
    exact ⟨((out,tot),T2),⟨q1,by simp,by dsimp only;omega,by dsimp only;omega⟩,aPr (by omega) hx hd.ud q2 rfl (aP (by omega)) rfl rfl rfl⟩
   | true =>
    rw [hh] at q2
    rw [if_pos rfl];obtain ⟨T3,q3,q4⟩:=bYe (sk:=sk) hd hov hm T2 q1;have hb:=aTf (dl:=dl) (oc:=oc) hd hm;revert q4 hb;generalize nA dl oc dc [a,k,c,d,e,f]=m;intro q4 hb;have hk:0≤k∧k≤4:=by
     have h5:=(iV.1 (hd.rng _ hm)).2.1;unfold aLt at hh
     rw [kQ7] at hh
     exact ⟨h5.1,of_decide_eq_true hh.1⟩
    have hk5:k=0∨k=1∨k=2∨k=3∨k=4:=by omega
    clear hh
    rcases hk5 with rfl | rfl | rfl | rfl | rfl
    ·have hI:∀ q:Bool,-1-36000*((i+1:Nat):Int)≤tot+m∧tot+m≤360000+43200000*((i+1:Nat):Int):=fun _=>by omega
     cases out with
     | true=>exact ⟨((true,tot+m),T3),⟨q3,rfl,(hI true).1,(hI true).2⟩,aXz (by omega) hx hd.ud q2 rfl rfl q4 (by show inR (tot+m);unfold inR;omega) (aP (by omega)) rfl rfl rfl rfl⟩
     | false=>exact ⟨((false,tot+m),T3),⟨q3,rfl,(hI true).1,(hI true).2⟩,aYa (by omega) hx hd.ud q2 rfl rfl q4 (by show inR (tot+m);unfold inR;omega) (aP (by omega)) rfl rfl rfl rfl rfl⟩
    ·have hI:∀ q:Bool,-1-36000*((i+1:Nat):Int)≤tot-m∧tot-m≤360000+43200000*((i+1:Nat):Int):=fun _=>by omega
     cases out with
     | true=>exact ⟨((true,tot-m),T3),⟨q3,rfl,(hI true).1,(hI true).2⟩,aYb (by omega) hx hd.ud q2 rfl rfl q4 (by show inR (tot-m);unfold inR;omega) (aP (by omega)) rfl rfl rfl rfl⟩
     | false=>exact ⟨((false,tot-m),T3),⟨q3,rfl,(hI true).1,(hI true).2⟩,aYc (by omega) hx hd.ud q2 rfl rfl q4 (by show inR (tot-m);unfold inR;omega) (aP (by omega)) rfl rfl rfl rfl rfl⟩
    ·have hI:∀ q:Bool,-1-36000*((i+1:Nat):Int)≤tot+1200*m∧tot+1200*m≤360000+43200000*((i+1:Nat):Int):=fun _=>by omega
     cases out with
     | true=>exact ⟨((true,tot+1200*m),T3),⟨q3,rfl,(hI true).1,(hI true).2⟩,aYd (by omega) hx hd.ud q2 rfl rfl q4 ⟨by show inR (1200*m);unfold inR;omega,by show inR (tot+1200*m);unfold inR;omega⟩ (aP (by omega)) rfl rfl rfl rfl⟩
     | false=>exact ⟨((false,tot+1200*m),T3),⟨q3,rfl,(hI true).1,(hI true).2⟩,aYe (by omega) hx hd.ud q2 rfl rfl q4 ⟨by show inR (1200*m);unfold inR;omega,by show inR (tot+1200*m);unfold inR;omega⟩ (aP (by omega)) rfl rfl rfl rfl rfl⟩
    ·have hI:∀ q:Bool,-1-36000*((i+1:Nat):Int)≤tot∧tot≤360000+43200000*((i+1:Nat):Int):=fun _=>by omega
     cases out with
     | true=>exact ⟨((true,tot),T3),⟨q3,rfl,(hI true).1,(hI true).2⟩,aYf (by omega) hx hd.ud q2 rfl rfl q4 (aP (by omega)) rfl rfl rfl⟩
     | false=>exact ⟨((true,tot),T3),⟨q3,rfl,(hI true).1,(hI true).2⟩,aYg (by omega) hx hd.ud q2 rfl rfl q4 (aP (by omega)) rfl rfl rfl rfl⟩
    ·have hI:∀ q:Bool,-1-36000*((i+1:Nat):Int)≤tot+m∧tot+m≤360000+43200000*((i+1:Nat):Int):=fun _=>by omega
     cases out with
     | true=>exact ⟨((true,tot+m),T3),⟨q3,rfl,(hI true).1,(hI true).2⟩,aYh (by omega) hx hd.ud q2 rfl rfl q4 (by show inR (tot+m);unfold inR;omega) (aP (by omega)) rfl rfl rfl rfl⟩
     | false=>exact ⟨((false,tot+m),T3),⟨q3,rfl,(hI true).1,(hI true).2⟩,aYi (by omega) hx hd.ud q2 rfl rfl q4 (by show inR (tot+m);unfold inR;omega) (aP (by omega)) rfl rfl rfl rfl rfl⟩)
  (fun acc hI=>aPs (by omega)) (acc:=((s1 == -1,s1),T)) ⟨hT,by simp,by dsimp only;omega,by dsimp only;omega⟩
 obtain ⟨⟨out,tot⟩,T1⟩:=acc;dsimp only at h1 h2 h3
 rw [List.take_length] at h2
 have e:aDs dl oc dc s0 s1=(out,tot):=h2.symm;unfold dJ;rw [e];cases out with
 | true=>exact ⟨T1,h1,bRw h3 rfl⟩
 | false=>exact ⟨T1,h1,bRx h3 rfl (by simp) (by simp [zA];omega)⟩
theorem qY(hd:bZ dc){base:Nat}:FV Tp 83 [pV dl sk dc] base (.own base) [(base,.row 3 (aI dl dc).length ((aI dl dc).map aA))]:=by
 have hlen:=hd.len;have hov:=aIa;obtain ⟨acc,⟨h1,h2⟩,h3⟩:=aJ.ex (P:=Tp) (k:=0) (b:=sub (cd Tryz.f83) [1,1,1,0,1,0,0]) (e := .exit 0) (fun i (a:List Int × Lqb)=>eL dl sk dc a.1.length (a.1.map aA) i (aG a.2) a.2.length)
  (fun a=>eL dl sk dc a.1.length (a.1.map aA) dc.length (aG a.2) a.2.length)
  (fun i a=>cK dl [] dc a.2∧a.1=((dc.take i).filter (pT dl dc)).map dN) (by simp) dc.length
  (fun i acc hi hI=>by
   obtain ⟨o,T1⟩:=acc;obtain ⟨h1,h2⟩:=hI;dsimp only at h1 h2
   have hm:=iQ hi;obtain ⟨a,k,c,d,e,f,hy⟩:=len6 (hd.ud _ hm);have hx:dc[i]? = some [a,k,c,d,e,f]:=by rw [kQ0 hi,hy]
   rw [hy] at hm
   have ho:o.length≤1000:=by
    rw [h2,kQ9];have:=uZ (pT dl dc) (dc.take i);rw [kY] at this;omega
   have et:((dc.take (i+1)).filter (pT dl dc)).map dN=o++if pT dl dc [a,k,c,d,e,f] then [a] else []:=by
    rw [List.take_add_one,hx,nG,hZ,← h2]
    congr 1
    show (List.filter (pT dl dc) [[a,k,c,d,e,f]]).map dN=_;cases hq:pT dl dc [a,k,c,d,e,f] <;> simp [hq]
   rw [et];obtain ⟨T2,z0,z1,z2,z3,z4,z5,q1,_,q2⟩:=bKu (sk:=sk) hd hov hm h1;obtain ⟨T3,q3,q4⟩:=bFj (sk:=sk) hd hov hm T2 q1;cases ha:gG k with
   | false =>
    have hb:pT dl dc [a,k,c,d,e,f]=false:=by unfold pT;rw [show gG (dK [a,k,c,d,e,f])=false from ha,Bool.false_and]
    rw [hb];exact ⟨(o,T2),⟨q1,by simp⟩,aYm (by omega) hx hd.ud q2 ha (aP (by omega)) rfl rfl rfl⟩
   | true =>
    have hb:pT dl dc [a,k,c,d,e,f]=(dQ dl [] dc [a,k,c,d,e,f] && (tR dl [] dc [a,k,c,d,e,f]).isNone):=by unfold pT;rw [show gG (dK [a,k,c,d,e,f])=true from ha,iR]
    rw [hb];cases hc:dQ dl [] dc [a,k,c,d,e,f] with
    | false =>
     rw [hc] at q4
     exact ⟨(o,T3),⟨q3,by simp⟩,aYl (by omega) hx hd.ud q2 ha q4 rfl (aP (by omega)) rfl rfl rfl⟩
    | true =>
     rw [hc] at q4
     cases hr:tR dl [] dc [a,k,c,d,e,f] with
     | some z =>
      rw [hr] at q2
      exact ⟨(o,T3),⟨q3,by simp⟩,aYk (by omega) hx hd.ud q2 ha q4 rfl rfl (aP (by omega)) rfl rfl rfl⟩
     | none =>
      rw [hr] at q2
      exact ⟨(o++[a],T3),⟨q3,by simp⟩,aYj (o:=o) (o':=o++[a]) (by omega) hx hd.ud q2 ha q4 rfl rfl ⟨rfl,by omega⟩ (aP (by omega)) (by simp) (by simp) rfl rfl rfl⟩)
  (fun acc hI=>aYn (by omega)) (acc:=([],[])) ⟨cK.nil,by simp⟩
 obtain ⟨o,T1⟩:=acc;dsimp only at h1 h2 h3
 rw [List.take_length] at h2
 rw [show aI dl dc=o from h2.symm]
 exact bRy h3
end
end
section
variable {dl:Int}{sk dc:Lqq}

noncomputable abbrev aBv:Code:=sub (cd Tryz.f128) [1,0,0,0]
theorem aHv:((0:Int) != (0:Int))=false:=by first | decide | simp
theorem bRf{bib y0 y1:Int}(h0:bQ dl sk dc)(h1:uni 2 (aB sk)∧(aB sk).length≤1000)(h2:(aL (aB sk) 0).length≤1000)(h3:(0:Int)≤(bC (fun x=>decide (bib=x)) (aL (aB sk) 0)))(h4:(aB sk)[(bC (fun x=>decide (bib=x)) (aL (aB sk) 0)).toNat]? = some [y0,y1])(h5:0≤(bC (fun x=>decide (bib=x)) (aL (aB sk) 0)))(h6:uni 2 (aB sk)){base:Nat}:FV Tp 135 [(.p (.agg (cF dl sk dc))),(pI bib)] base (.tup [(.rp (aH dl (aB sk) (aB dc)) 0),(.p (.agg [(aA y0),(aA y1)])),(pI 0)]) []:=by
 exact FV.fin Tryz.func135 rfl (o:=[.c (.tup [(.rp (aH dl (aB sk) (aB dc)) 0),(pI 0)]) [],bF,.x (.agg (cF dl (aB sk) (aB dc))),.c (.own 2) [(2,(.row 3 ((aL (aB sk) 0).length) ((aL (aB sk) 0).map aA)))],.c (pI (bC (fun x=>decide (bib=x)) (aL (aB sk) 0))) [],bF,.x (.sl ((aB sk).length) ((aB sk).flatten.map aA)),.x (.agg [(aA y0),(aA y1)])]) (l:=[_,_,0≤(bC (fun x=>decide (bib=x)) (aL (aB sk) 0))∧(bC (fun x=>decide (bib=x)) (aL (aB sk) 0))<(((aB sk).length:Nat):Int)∧((bC (fun x=>decide (bib=x)) (aL (aB sk) 0)).toNat*2)<((aB sk).flatten.map aA).length,(aH dl (aB sk) (aB dc))[1]? = some (.sl ((aB sk).length) ((aB sk).flatten.map aA)),_,FC Tp 126 [(.own 2),(pI bib)] [(2,(.row 3 ((aL (aB sk) 0).length) ((aL (aB sk) 0).map aA)))] 3 (pI (bC (fun x=>decide (bib=x)) (aL (aB sk) 0))) [],_,some (.agg (((aH dl (aB sk) (aB dc)).drop 0).take 3):PV)=some (.agg (cF dl (aB sk) (aB dc))),0+3≤(aH dl (aB sk) (aB dc)).length,_,_]) (by kernel_rfl) (gc (aV (i:=(bC (fun x=>decide (bib=x)) (aL (aB sk) 0)).toNat) h6 h4) (gc (bI (i:=(bC (fun x=>decide (bib=x)) (aL (aB sk) 0)).toNat) h6 h4) (gc (cB (k:=2) (i:=(bC (fun x=>decide (bib=x)) (aL (aB sk) 0))) (by decide) h6 h5 h4) (gc rfl (gc (bJ h3) (gc (fv (aCe (aL (aB sk) 0) bib h2)) (gc (fk 2 (nN dl (aB sk) (aB dc) h1) rfl) (gc rfl (gc (by first | decide | simp) (gc aHv (gc (fk 2 (iC dl sk dc h0) rfl) gn)))))))))))
theorem bRg(h0:bQ dl sk dc)(h1:bZ (aB dc)){base:Nat}:FV Tp 19 [(.p (.agg (cF dl sk dc)))] base (.tup [(.p (aE (aI dl (aB dc)))),(pI 0)]) []:=by
 exact FV.frz (FMM.fin (k:=0) (g:=⟨[],[],[1],[]⟩) rfl Tryz.func19 rfl (o:=[.c (.tup [(.rp (aH dl (aB sk) (aB dc)) 0),(pI 0)]) [],bF,.c (.own 1) [(1,(.row 3 ((aI dl (aB dc)).length) ((aI dl (aB dc)).map aA)))]]) (l:=[_,_,_]) (by kernel_rfl) (gc (fk 1 (qY (dl:=dl) (sk:=(aB sk)) (dc:=(aB dc)) h1) rfl) (gc aHv (gc (fk 1 (iC dl sk dc h0) rfl) gn)))) (by kernel_rfl)
theorem bRh{n y0 y1 y2 y3 y4 y5:Int}(h0:bQ dl sk dc)(h1:cH .i64 (atF (aB dc).reverse) (.int .i64 n))(h2:(dH (atF (aB dc).reverse) (.int .i64 n))=true)(h3:eY (atF (aB dc).reverse) (.int .i64 n)=some (dcE y0 y1 y2 y3 y4 y5)){base:Nat}:FV Tp 127 [(.p (.agg (cF dl sk dc))),(pI n)] base (.tup [(.rp (aH dl (aB sk) (aB dc)) 0),(.p (dcE y0 y1 y2 y3 y4 y5)),(pI 0)]) []:=by
 exact FV.fin Tryz.func127 rfl (o:=[.c (.tup [(.rp (aH dl (aB sk) (aB dc)) 0),(pI 0)]) [],bF,.x (.mp (atF (aB dc).reverse)),bT,.x (dcE y0 y1 y2 y3 y4 y5)]) (l:=[_,_,_,(aH dl (aB sk) (aB dc))[3]? = some (.mp (atF (aB dc).reverse)),_,_]) (by kernel_rfl) (gc h3 (gc h2 (gc h1 (gc rfl (gc aHv (gc (fk 2 (iC dl sk dc h0) rfl) gn))))))
theorem bRi{n:Int}(h0:bQ dl sk dc)(h1:cH .i64 (atF (aB dc).reverse) (.int .i64 n))(h2:(dH (atF (aB dc).reverse) (.int .i64 n))=false){base:Nat}:FV Tp 127 [(.p (.agg (cF dl sk dc))),(pI n)] base (.tup [(.p (.v (.pointer none))),(.p (dcE 0 0 0 0 0 0)),(pI 1)]) []:=by
 exact FV.fin Tryz.func127 rfl (o:=[.c (.tup [(.rp (aH dl (aB sk) (aB dc)) 0),(pI 0)]) [],bF,.x (.mp (atF (aB dc).reverse)),bF]) (l:=[_,_,(aH dl (aB sk) (aB dc))[3]? = some (.mp (atF (aB dc).reverse)),_,_]) (by kernel_rfl) (gc h2 (gc h1 (gc rfl (gc aHv (gc (fk 2 (iC dl sk dc h0) rfl) gn)))))
theorem bRj{n r0:Int}(h0:uni 2 sk)(h1:uni 6 dc)(h2:(kN dl sk dc)≠0)(er0:r0=(kN dl sk dc)){base:Nat}:FV Tp 127 [(.p (.agg (cF dl sk dc))),(pI n)] base (.tup [(.p (.v (.pointer none))),(.p (dcE 0 0 0 0 0 0)),(pI r0)]) []:=by
 subst er0;exact FV.fin Tryz.func127 rfl (o:=[.c (.tup [(.p (.v (.pointer none))),(pI (kN dl sk dc))]) [],bT]) (l:=[_,_]) (by kernel_rfl) (gc (oG h2) (gc (fk 2 (bGb dl sk dc h0 h1 h2) rfl) gn))
def iK(dl:Int)(sk:Lqq)(dc:Lqq)(u0:Int)(u1:Int)(u2:Int)(u3:Int)(u4:Int)(u5:Int):St:=⟨fr 26 [(0,(.rp (aH dl sk dc) 0)),(3,(.ptr 0 0))],[some (.box 44 [(pI u0),(pI u1),(pI u2),(pI u3),(pI u4),(pI u5)])]⟩
theorem bRk{x0 x1 x2 x3 x4 x5 u0'0 u1'1 u2'2 u3'3 u4'4 u5'5:Int}(hl0:aJ Tp 0 aBv (iK dl sk dc x0 x1 x2 x3 x4 x5) (.exit 0) (iK dl sk dc u0'0 u1'1 u2'2 u3'3 u4'4 u5'5)){base:Nat}:FV Tp 128 [(.rp (aH dl sk dc) 0),(.p (dcE x0 x1 x2 x3 x4 x5))] base (pI u3'3) []:=by
 exact FV.fin Tryz.func128 rfl (o:=[.k 4 ⟨(rng [(1,2),(4,20)]),[0],[],[]⟩ (.exit 0) (iK dl sk dc u0'0 u1'1 u2'2 u3'3 u4'4 u5'5)]) (l:=[_]) (by kernel_rfl) (gc hl0.code gn)
theorem bRl{x0 x1 x2 x3 x4 x5 u0'0 u1'1 u2'2 u3'3 u4'4 u5'5:Int}(hl0:aJ Tp 0 aBv (iK dl sk dc x0 x1 x2 x3 x4 x5) .ret (cE (iK dl sk dc u0'0 u1'1 u2'2 u3'3 u4'4 u5'5) [(4,(pI 0))])){base:Nat}:FV Tp 128 [(.rp (aH dl sk dc) 0),(.p (dcE x0 x1 x2 x3 x4 x5))] base (pI 0) []:=by
 exact FV.fin Tryz.func128 rfl (o:=[.k 4 ⟨(rng [(1,2),(4,20)]),[0],[],[]⟩ .ret (cE (iK dl sk dc u0'0 u1'1 u2'2 u3'3 u4'4 u5'5) [(4,(pI 0))])]) (l:=[_]) (by kernel_rfl) (gc hl0.code gn)
theorem aXw{u0 u1 u2 u3 u4 u5 y100 y101 y102 y103 y104 y105:Int}(h0:(decide (u1≤4))=false)(h1:cH .i64 (atF dc.reverse) (.int .i64 u5))(h2:(dH (atF dc.reverse) (.int .i64 u5))=true)(h3:eY (atF dc.reverse) (.int .i64 u5)=some (dcE y100 y101 y102 y103 y104 y105)):aC Tp 0 aBv (iK dl sk dc u0 u1 u2 u3 u4 u5) .normal (iK dl sk dc y100 y101 y102 y103 y104 y105):=by
 exact aC.fin (g:=⟨(rng [(1,2),(4,20)]),[0],[],[]⟩) (o:=[.c (pB (decide (u1≤4))) [],bT,.x (.mp (atF dc.reverse)),bT,.x (dcE y100 y101 y102 y103 y104 y105)]) (l:=[_,_,_,(aH dl sk dc)[3]? = some (.mp (atF dc.reverse)),_,_]) (by kernel_rfl) (gc h3 (gc h2 (gc h1 (gc rfl (gc (cL h0) (gc (fk 1 (eH u1) rfl) gn))))))
theorem aFl{u0 u1 u2 u3 u4 u5:Int}(h0:(decide (u1≤4))=false)(h1:cH .i64 (atF dc.reverse) (.int .i64 u5))(h2:(dH (atF dc.reverse) (.int .i64 u5))=false):aC Tp 0 aBv (iK dl sk dc u0 u1 u2 u3 u4 u5) .ret (cE (iK dl sk dc u0 u1 u2 u3 u4 u5) [(4,(pI 0))]):=by
 exact aC.fin (g:=⟨(rng [(1,2),(5,19)]),[0],[],[]⟩) (o:=[.c (pB (decide (u1≤4))) [],bT,.x (.mp (atF dc.reverse)),bF]) (l:=[_,_,(aH dl sk dc)[3]? = some (.mp (atF dc.reverse)),_,_]) (by kernel_rfl) (gc h2 (gc h1 (gc rfl (gc (cL h0) (gc (fk 1 (eH u1) rfl) gn)))))
theorem aFm{u0 u1 u2 u3 u4 u5:Int}(h0:(decide (u1≤4))=true):aC Tp 0 aBv (iK dl sk dc u0 u1 u2 u3 u4 u5) (.exit 0) (iK dl sk dc u0 u1 u2 u3 u4 u5):=by
 exact aC.fin (g:=⟨(rng [(1,2),(4,20)]),[0],[],[]⟩) (o:=[.c (pB (decide (u1≤4))) [],bF]) (l:=[_,_]) (by kernel_rfl) (gc (aY h0) (gc (fk 1 (eH u1) rfl) gn))
end
section
def aHs(sk:Lqq)(bib:Int):Int:=bC (fun x=>decide (bib=x)) (aL sk 0)
theorem bRb{f:Lqq}{i:Nat}{c:Int}(h:(aL f 0)[i]? = some c):∃ x,f[i]? = some x∧x.getD 0 0=c:=by
 unfold aL at h
 rw [iH,kF] at h
 exact h
theorem aXv(sk:Lqq)(bib:Int):(∃ (i:Nat) (x:List Int),aHs sk bib=(i:Int)∧sk[i]? = some x∧x.getD 0 0=bib)∨(aHs sk bib = -1∧bib∉aL sk 0):=by
 unfold aHs;cases h:(aL sk 0).findIdx? (fun x=>decide (bib=x)) with
 | none =>
  refine .inr ⟨jI h,fun hm => ?_⟩
  have:=List.findIdx?_eq_none_iff.1 h bib hm;simp at this
 | some i =>
  rw [jH h];obtain ⟨h1,h2,_⟩:=List.findIdx?_eq_some_iff_getElem.1 h;have h3:(aL sk 0)[i]? = some (aL sk 0)[i]:=kQ0 h1;obtain ⟨x,q1,q2⟩:=bRb h3;exact .inl ⟨i,x,rfl,q1,by rw [q2];exact (of_decide_eq_true h2).symm⟩
theorem bRc{dl:Int}{sk dc:Lqq}(h:bQ dl sk dc):uni 2 (aB sk)∧(aB sk).length≤1000∧(aL (aB sk) 0).length≤1000:=by
 have:=h.len;refine ⟨lU h.us,by rw [eP];omega,by rw [vG,eP];omega⟩
theorem bEv{dl:Int}{sk dc:Lqq}(h:bQ dl sk dc){bib:Int}{i:Nat}{s0 s1:Int}(hp:aHs (aB sk) bib=(i:Int))(hs:(aB sk)[i]? = some [s0,s1]){base:Nat}:FV Tp 135 [.p (.agg (cF dl sk dc)),.p (aA bib)] base (.tup [pV dl (aB sk) (aB dc),.p (.agg [aA s0,aA s1]),.p (aA 0)]) []:=by
 obtain ⟨h1,h2,h3⟩:=bRc h;have hp':bC (fun x=>decide (bib=x)) (aL (aB sk) 0)=(i:Int):=hp
 exact bRf h ⟨h1,h2⟩ h3 (by rw [hp'];omega) (by rw [hp'];simpa using hs) (by rw [hp'];omega) h1
theorem aBt{dl:Int}{sk dc:Lqq}(h:bQ dl sk dc){base:Nat}:FV Tp 19 [.p (.agg (cF dl sk dc))] base (.tup [.p (aE (aI dl (aB dc))),.p (aA 0)]) []:=bRg h (eF h)
theorem aTe{q:Lqq}(hq:(q.map dN).Nodup):atF q=q.map fun x=>(.int .i64 (dN x),sL x):=by
 have key:∀ (q p:Lqq),((p++q).map dN).Nodup→q.foldl kO (p.map fun x=>(.int .i64 (dN x),sL x))=(p++q).map fun x=>(.int .i64 (dN x),sL x):=by
  intro q
  induction q with
  | nil=>intro p _;simp
  | cons x q ih =>
   intro p h;rw [sG];have hn:dH (p.map fun x=>((.int .i64 (dN x),sL x):Value × PV)) (.int .i64 (dN x))=false:=by
    unfold dH;rw [List.any_eq_false];intro e he;obtain ⟨y,hy,rfl⟩:=dF.1 he;rw [hZ,List.nodup_append] at h
    have:=h.2.2 (dN y) (dF.2 ⟨y,hy,rfl⟩) (dN x) (by simp)
    simpa [iP] using this
   have hst:kO (p.map fun x=>((.int .i64 (dN x),sL x):Value × PV)) x=(p.map fun x=>((.int .i64 (dN x),sL x):Value × PV))++[(.int .i64 (dN x),sL x)]:=by
    unfold kO;rw [hn,if_neg (by simp)]
   rw [hst];have e:(p.map fun x=>((.int .i64 (dN x),sL x):Value × PV))++[(.int .i64 (dN x),sL x)]=(p++[x]).map fun x=>((.int .i64 (dN x),sL x):Value × PV):=by simp
   have e2:p++x::q=(p++[x])++q:=by simp
   rw [e,ih (p++[x]) (by rw [← e2];exact h),e2]
 exact key q [] (by simpa using hq)
theorem aLs{dc:Lqq}(h:bZ dc):(dc.reverse.map dN).Nodup:=by
 rw [List.map_reverse,List.Nodup,List.pairwise_reverse,List.pairwise_map];exact h.up.imp fun h=>by omega
theorem pJ{dc:Lqq}(h:bZ dc){n:Int}(hn:inR n):cH .i64 (atF dc.reverse) (.int .i64 n):=by
 have ha:wW (atF dc.reverse):=bGg fun x hx=>by have:=dS h (yY.1 hx);omega
 refine ⟨ha.ky,?_,ha.nd⟩;show (decide (IntKind.i64=IntKind.i64) && (Lit.int .i64 n).wf)=true;have:(Lit.int .i64 n).wf=true:=by
  have e1:IntKind.i64.min = -9223372036854775808:=rfl;have e2:IntKind.i64.max=9223372036854775807:=rfl;unfold inR at hn
  show (decide _ && decide _)=true;rw [kQ7,decide_eq_true_eq,decide_eq_true_eq,e1,e2];omega
 rw [this];rfl
theorem aHt{dc:Lqq}(h:bZ dc){x:List Int}(hx:x∈dc):dH (atF dc.reverse) (.int .i64 (dN x))=true∧eY (atF dc.reverse) (.int .i64 (dN x))=some (sL x):=by
 rw [aTe (aLs h)];have hf:dc.reverse.find? (fun y=>decide (dN y=dN x))=some x:=by
  cases hf:dc.reverse.find? (fun y=>decide (dN y=dN x)) with
  | none =>
   have:=aHd.1 hf x (yY.2 hx);simp at this
  | some y =>
   have h1:=wK hf;have h2:dN y=dN x:=by simpa using aWe hf
   rw [vE h (yY.1 h1) hx h2]
 constructor
 ·unfold dH
  rw [List.any_map];exact List.any_eq_true.2 ⟨x,yY.2 hx,by simp [iP]⟩
 ·unfold eY
  rw [List.find?_map];have e:(fun e:Value × PV=>decide (iP e.1=iP (Value.int IntKind.i64 (dN x)))) ∘ (fun x:List Int=>((Value.int .i64 (dN x),sL x):Value × PV))=fun y=>decide (dN y=dN x):=rfl
  rw [e,hf];rfl
theorem aHu{dc:Lqq}(h:bZ dc){n:Int}(hn:∀ x∈dc,dN x≠n):dH (atF dc.reverse) (.int .i64 n)=false:=by
 rw [aTe (aLs h)];unfold dH;rw [List.any_map,List.any_eq_false];intro x hx;have:=hn x (yY.1 hx);show ¬ (decide (dN x=n))=true;simpa using this
def ofN(dc:Lqq)(n:Int):Option (List Int):=dc.find? fun x=>dN x == n
theorem mA{dc:Lqq}{n:Int}{x:List Int}(h:ofN dc n=some x):x∈dc∧dN x=n:=⟨wK h,by simpa using aWe h⟩
theorem aBu{dc:Lqq}{n:Int}(h:ofN dc n=none):∀ x∈dc,dN x≠n:=fun x hx=>by simpa using aHd.1 h x hx
theorem rY{dc:Lqq}(hd:bZ dc){x:List Int}(hx:x∈dc):ofN dc (dN x)=some x:=by
 cases h:ofN dc (dN x) with
 | none=>exact absurd rfl (aBu h x hx)
 | some y=>obtain ⟨h1,h2⟩:=mA h;rw [vE hd h1 hx h2]
theorem bEw{dl:Int}{sk dc:Lqq}(h:bQ dl sk dc){n:Int}{x0 x1 x2 x3 x4 x5:Int}(hn:ofN (aB dc) n=some [x0,x1,x2,x3,x4,x5]){base:Nat}:FV Tp 127 [.p (.agg (cF dl sk dc)),.p (aA n)] base (.tup [pV dl (aB sk) (aB dc),.p (.agg [aA x0,aA x1,aA x2,aA x3,aA x4,aA x5]),.p (aA 0)]) []:=by
 obtain ⟨h1,h2⟩:=mA hn;have hd:=eF h;obtain ⟨h3,h4⟩:=aHt hd h1;have hr:=dS hd h1;have hk:=pJ hd (n:=n) (by unfold inR;omega)
 rw [h2] at h3 h4
 exact bRh h hk h3 h4
theorem bRd{dl:Int}{sk dc:Lqq}(h:bQ dl sk dc){n:Int}(hr:inR n)(hn:ofN (aB dc) n=none){base:Nat}:FV Tp 127 [.p (.agg (cF dl sk dc)),.p (aA n)] base (.tup [.p (.v (.pointer none)),.p (.agg [aA 0,aA 0,aA 0,aA 0,aA 0,aA 0]),.p (aA 1)]) []:=by
 have hd:=eF h;exact bRi h (pJ hd hr) (aHu hd (aBu hn))
theorem bKt{dl:Int}{sk dc:Lqq}(us:uni 2 sk)(ud:uni 6 dc)(h:kN dl sk dc≠0){n:Int}{base:Nat}:FV Tp 127 [.p (.agg (cF dl sk dc)),.p (aA n)] base (.tup [.p (.v (.pointer none)),.p (.agg [aA 0,aA 0,aA 0,aA 0,aA 0,aA 0]),.p (aA (kN dl sk dc))]) []:=bRj us ud h rfl
def kZ(dc:Lqq):Nat→List Int→Int
 | 0,_=>0
 | k+1,x=>if dK x≤4 then dB x else match ofN dc (dAb x) with
  | some y=>kZ dc k y
  | none=>0
def eO(dc:Lqq)(x:List Int):Int:=kZ dc (10000+1) x
theorem bRe{dl:Int}{sk dc:Lqq}(hd:bZ dc):∀ (k:Nat) (a b c d e f:Int),inR f→([a,b,c,d,e,f]∈dc∨b≤4∨∀ y∈dc,dN y≠f)→a<(k:Int) →
  (∃ a' b' c' d' e' f',kZ dc (k+1) [a,b,c,d,e,f]=d'∧aJ Tp 0 (sub (cd Tryz.f128) [1,0,0,0]) (iK dl sk dc a b c d e f) (.exit 0) (iK dl sk dc a' b' c' d' e' f')) ∨
  (kZ dc (k+1) [a,b,c,d,e,f]=0∧∃ a' b' c' d' e' f',aJ Tp 0 (sub (cd Tryz.f128) [1,0,0,0]) (iK dl sk dc a b c d e f) .ret (cE (iK dl sk dc a' b' c' d' e' f') [(4,.p (aA 0))])):=by
 intro k
 induction k with
 | zero =>
  intro a b c d e f hf hm hk
  by_cases h4:b≤4
  ·refine .inl ⟨a,b,c,d,e,f,?_,.exit (aFm (decide_eq_true h4)) (by simp)⟩
   unfold kZ;rw [if_pos (show dK [a,b,c,d,e,f]≤4 from h4)];rfl
  ·rcases hm with hm | hm | hm
   ·have:1≤a:=(dS hd hm).1
    omega
   ·exact absurd hm h4
   ·refine .inr ⟨?_,a,b,c,d,e,f,.exit (aFl (decide_eq_false h4) (pJ hd hf) (aHu hd hm)) (by simp)⟩
    unfold kZ;rw [if_neg (show ¬ dK [a,b,c,d,e,f]≤4 from h4)]
    have:ofN dc (dAb [a,b,c,d,e,f])=none:=by
     cases h:ofN dc (dAb [a,b,c,d,e,f]) with
     | none=>rfl
     | some y=>exact absurd (mA h).2 (hm y (mA h).1)
    rw [this]
 | succ k ih =>
  intro a b c d e f hf hm hk
  by_cases h4:b≤4
  ·refine .inl ⟨a,b,c,d,e,f,?_,.exit (aFm (decide_eq_true h4)) (by simp)⟩
   unfold kZ;rw [if_pos (show dK [a,b,c,d,e,f]≤4 from h4)];rfl
  ·have hu:kZ dc (k+1+1) [a,b,c,d,e,f]=match ofN dc (dAb [a,b,c,d,e,f]) with | some y=>kZ dc (k+1) y | none=>0:=by
    conv=>lhs;unfold kZ
    rw [if_neg (show ¬ dK [a,b,c,d,e,f]≤4 from h4)]
   rw [hu];cases h:ofN dc (dAb [a,b,c,d,e,f]) with
   | none=>exact .inr ⟨rfl,a,b,c,d,e,f,.exit (aFl (decide_eq_false h4) (pJ hd hf) (aHu hd (aBu h))) (by simp)⟩
   | some y =>
    obtain ⟨h1,h2⟩:=mA h
    rcases hm with hm | hm | hm
    ·obtain ⟨h3,h5⟩:=aHt hd h1
     rw [h2] at h3 h5
     have ho:=hd.ord _ hm;unfold orB at ho
     rw [if_neg (show ¬ [a,b,c,d,e,f].getD 1 0≤4 from h4)] at ho
     have ho2:=cN.1 ho;have ho3:f≤a-1:=ho2.2;obtain ⟨y0,y1,y2,y3,y4,y5,rfl⟩:=len6 (hd.ud y h1);have h2':y0=f:=h2;have hy5:=kM hd _ h1;have hst:=aXw (dl:=dl) (sk:=sk) (dc:=dc) (u0:=a) (u1:=b) (u2:=c) (u3:=d) (u4:=e) (u5:=f) (decide_eq_false h4) (pJ hd hf) h3 h5
     rcases ih y0 y1 y2 y3 y4 y5 (by have q1:0≤y5:=hy5.1;have q2:y5≤9998:=hy5.2;unfold inR;omega) (.inl h1) (by omega) with ⟨a',b',c',d',e',f',q1,q2⟩ | ⟨q1,a',b',c',d',e',f',q2⟩
     ·exact .inl ⟨a',b',c',d',e',f',q1,.step hst q2⟩
     ·exact .inr ⟨q1,a',b',c',d',e',f',.step hst q2⟩
    ·exact absurd hm h4
    ·exact absurd h2 (hm y h1)
theorem aPp{dl:Int}{sk dc:Lqq}(hd:bZ dc){a b c d e f:Int}(hf:inR f)(hm:[a,b,c,d,e,f]∈dc∨b≤4∨∀ y∈dc,dN y≠f)(ha:a≤9999){base:Nat}:FV Tp 128 [pV dl sk dc,.p (.agg [aA a,aA b,aA c,aA d,aA e,aA f])] base (.p (aA (eO dc [a,b,c,d,e,f]))) []:=by
 unfold eO
 rcases bRe (dl:=dl) (sk:=sk) hd 10000 a b c d e f hf hm (by omega) with ⟨a',b',c',d',e',f',q1,q2⟩ | ⟨q1,a',b',c',d',e',f',q2⟩
 ·rw [q1];exact bRk q2
 ·rw [q1];exact bRl q2
end
section
section
variable {α:Type}

def mv(A:List α)(x:α)(j:Nat)(R:List α):List α:=A.take j++x::(A.drop j++R)

theorem xB(A:List α)(x:α)(j:Nat)(R:List α)(hj:j≤A.length):(mv A x j R).length=A.length+1+R.length:=by
 unfold mv;simp;omega

theorem aIp(A:List α)(x:α)(j:Nat)(R:List α)(hj:j≤A.length)(t:Nat) :
  (mv A x j R)[t]? = if t<j then A[t]? else if t=j then some x else if t≤A.length then A[t-1]? else R[t-A.length-1]? := by
 unfold mv
 by_cases h1:t<j
 ·rw [if_pos h1,yW (by simp;omega),List.getElem?_take_of_lt h1]
 ·rw [if_neg h1,yV (by simp;omega)]
  have hl:(A.take j).length=j:=by simp;omega
  rw [hl]
  by_cases h2:t=j
  ·rw [if_pos h2,show t-j=0 by omega];rfl
  ·rw [if_neg h2,show t-j=(t-j-1)+1 by omega,List.getElem?_cons_succ]
   by_cases h3:t≤A.length
   ·rw [if_pos h3,yW (by simp;omega),List.getElem?_drop]
    congr 1;omega
   ·rw [if_neg h3,yV (by simp;omega)]
    congr 1
    simp;omega

theorem bNp(A:List α)(x:α)(j:Nat)(R:List α)(hj:j≤A.length)(h0:0<j)(y:α)(hy:A[j-1]? = some y) :
  ((mv A x j R).set j y).set (j-1) x=mv A x (j-1) R:=by
 have hl:=xB A x j R hj;apply List.ext_getElem?;intro t;rw [List.getElem?_set,List.getElem?_set,aIp A x (j-1) R (by omega),aIp A x j R hj]
 simp only [tL,hl]
 by_cases h1:j-1=t
 ·subst h1
  rw [if_pos rfl,if_pos (by omega),if_neg (by omega),if_pos rfl]
 ·rw [if_neg h1]
  by_cases h2:j=t
  ·subst h2
   rw [if_pos rfl,if_pos (by omega),if_neg (by omega),if_neg (by omega),if_pos (by omega),hy]
  ·rw [if_neg h2]
   by_cases h3:t<j
   ·rw [if_pos h3,if_pos (by omega)]
   ·rw [if_neg h3,if_neg (by omega:¬ t=j),if_neg (by omega:¬ t<j-1),if_neg (by omega:¬ t=j-1)]

def lH(lt:α→α→Bool)(x:α)(A:List α):Nat:=(A.reverse.dropWhile (lt x)).length
def ins(lt:α→α→Bool)(A:List α)(x:α):List α:=A.take (lH lt x A)++x::A.drop (lH lt x A)
def isort(lt:α→α→Bool)(l:List α):List α:=l.foldl (ins lt) []

theorem lA{p:α→Bool}:∀ (l r:List α),(∀ x∈l,p x=true)→(l++r).dropWhile p=r.dropWhile p
 | [],_,_=>rfl
 | x::l,r,h=>by
  rw [List.cons_append,List.dropWhile_cons,if_pos (h x (by simp))]
  exact lA l r (fun y hy=>h y (by simp [hy]))

theorem aFx(lt:α→α→Bool)(x:α)(A:List α)(j:Nat)(hj:j≤A.length)(h:∀ t (_:t<A.length),j≤t→lt x A[t]=true)
  (h2:j=0∨∃ y,A[j-1]? = some y∧lt x y=false):lH lt x A=j:=by
 unfold lH;have e:A.reverse=(A.drop j).reverse++(A.take j).reverse:=by rw [← List.reverse_append,aWc]
 rw [e,lA]
 ·rcases h2 with h0 | ⟨y,hy,hlt⟩
  ·subst h0;simp
  ·by_cases h0:j=0
   ·subst h0;simp
   ·have e2:A.take j=A.take (j-1)++[y]:=by
     rw [show j=(j-1)+1 by omega,List.take_add_one,Nat.add_sub_cancel,hy];rfl
    have hl:(A.take (j-1)).length=j-1:=by simp;omega
    rw [e2,List.reverse_append];show ((y::(A.take (j-1)).reverse).dropWhile (lt x)).length=j;rw [List.dropWhile_cons,hlt];simp;omega
 ·intro z hz
  rw [yY] at hz
  obtain ⟨t,ht,rfl⟩:=List.getElem_of_mem hz;rw [List.getElem_drop];exact h (j+t) (by simp at ht;omega) (by omega)

theorem aRk(lt:α→α→Bool)(A:List α)(x:α):(ins lt A x).length=A.length+1:=by
 unfold ins;simp;have:lH lt x A≤A.length:=by
  unfold lH;have h2:((A.reverse).dropWhile (lt x)).length≤A.reverse.length:=(List.dropWhile_sublist _).length_le;simpa using h2
 omega

theorem bUx(A:List α)(x:α)(R:List α):mv A x A.length R=A++x::R:=by unfold mv;simp
theorem bGu(lt:α→α→Bool)(A:List α)(x:α)(R:List α):mv A x (lH lt x A) R=ins lt A x++R:=by unfold mv ins;simp

theorem vV(lt:α→α→Bool)(l:List α):(isort lt l).length=l.length:=by
 unfold isort;have:∀ (l A:List α),(l.foldl (ins lt) A).length=A.length+l.length:=by
  intro l
  induction l with
  | nil=>intro A;simp
  | cons x r ih=>intro A;rw [sG,ih,aRk];simp;omega
 rw [this];simp

theorem aRl(lt:α→α→Bool)(l:List α)(k:Nat)(h:k<l.length):isort lt (l.take (k+1))=ins lt (isort lt (l.take k)) l[k]:=by
 unfold isort;rw [List.take_succ_eq_append_getElem h,aHe];rfl
end
theorem len3{x:List Int}(h:x.length=3):∃ a b c,x=[a,b,c]:=by
 match x,h with
 | [a,b,c],_=>exact ⟨a,b,c,rfl⟩
theorem xC{α:Type}(lt:α→α→Bool)(l:List α)(y:α):y∈isort lt l↔y∈l:=by
 unfold isort;have : ∀ (l A:List α),y∈l.foldl (ins lt) A↔y∈A∨y∈l:=by
  intro l
  induction l with
  | nil=>intro A;simp
  | cons x r ih =>
   intro A;rw [sG,ih];have:y∈ins lt A x↔y∈A∨y=x:=by
    unfold ins;rw [iI,iW];constructor
    ·rintro (h | h | h)
     ·exact Or.inl (List.mem_of_mem_take h)
     ·exact Or.inr h
     ·exact Or.inl (List.mem_of_mem_drop h)
    ·rintro (h | h)
     ·rw [← aWc (lH lt x A) A,iI] at h
      rcases h with h | h
      ·exact Or.inl h
      ·exact Or.inr (Or.inr h)
     ·exact Or.inr (Or.inl h)
   rw [this,iW];constructor
   ·rintro ((h | h) | h) <;> simp [h]
   ·rintro (h | h | h) <;> simp [h]
 rw [this];simp

section
variable {α:Type}
theorem xD(lt:α→α→Bool)(A:List α)(x:α):∃ B D:List α,A=B++D∧ins lt A x=B++x::D∧(∀ d∈D,lt x d=true)∧(B=[]∨∃ B' h,B=B'++[h]∧lt x h=false):=by
 have hA:A=(A.reverse.dropWhile (lt x)).reverse++(A.reverse.takeWhile (lt x)).reverse:=by
  rw [← List.reverse_append,List.takeWhile_append_dropWhile,List.reverse_reverse]
 generalize hdw:A.reverse.dropWhile (lt x)=dw at hA
 generalize htw:A.reverse.takeWhile (lt x)=tw at hA
 have hp:lH lt x A=dw.reverse.length:=by unfold lH;rw [hdw,List.length_reverse]
 refine ⟨dw.reverse,tw.reverse,hA,?_,fun d hd => ?_,?_⟩
 ·unfold ins
  rw [hp]
  conv=>lhs;rw [hA]
  rw [List.take_left',List.drop_left'] <;> rfl
 ·rw [yY,← htw] at hd
  exact fV.1 List.all_takeWhile d hd
 ·cases dw with
  | nil=>exact .inl rfl
  | cons h r =>
   refine .inr ⟨r.reverse,h,by simp,?_⟩
   have:=List.head_dropWhile_not (lt x) (l:=A.reverse) (by rw [hdw];simp)
   simp only [hdw,List.head_cons] at this
   simpa using this
theorem bGv(lt:α→α→Bool)(A:List α)(x:α):(ins lt A x).Perm (x::A):=by
 obtain ⟨B,D,h1,h2,_⟩:=xD lt A x;rw [h2,h1];exact List.perm_middle
theorem aRm{f:α→Int}{lt:α→α→Bool}(hlt:∀ x y,lt x y=decide (f x<f y)){A:List α}(x:α)(hs:A.Pairwise (fun a b=>f a≤f b)):(ins lt A x).Pairwise (fun a b=>f a≤f b):=by
 obtain ⟨B,D,rfl,h2,h3,h4⟩:=xD lt A x;rw [h2];obtain ⟨s1,s2,s3⟩:=List.pairwise_append.1 hs;have hB:∀ b∈B,f b≤f x:=fun b hb=>by
  rcases h4 with rfl | ⟨B',h,rfl,hx⟩
  ·simp at hb
  ·rw [hlt,decide_eq_false_iff_not] at hx
   rcases iI.1 hb with hb | hb
   ·have:=(List.pairwise_append.1 s1).2.2 b hb h (by simp)
    omega
   ·simp at hb;subst hb;omega
 have hD:∀ d∈D,f x≤f d:=fun d hd=>by
  have:=h3 d hd;rw [hlt,decide_eq_true_eq] at this
  omega
 refine List.pairwise_append.2 ⟨s1,bJf.2 ⟨hD,s2⟩,fun a ha b hb => ?_⟩
 rcases iW.1 hb with rfl | hb
 ·exact hB a ha
 ·exact s3 a ha b hb
theorem aIq{f:α→Int}{lt:α→α→Bool}(hlt:∀ x y,lt x y=decide (f x<f y))(l:List α):(isort lt l).Pairwise (fun a b=>f a≤f b):=by
 unfold isort;have:∀ (l A:List α),A.Pairwise (fun a b=>f a≤f b)→(l.foldl (ins lt) A).Pairwise (fun a b=>f a≤f b):=by
  intro l
  induction l with
  | nil=>intro A h;exact h
  | cons x r ih=>intro A h;rw [sG];exact ih _ (aRm hlt x h)
 exact this l [] .nil
end
section
variable {α:Type}
theorem aRn{f g:α→Int}{lt:α→α→Bool}(hlt:∀ x y,lt x y=decide (f x<f y)){A:List α}(x:α)(hs:A.Pairwise (fun a b=>f a<f b∨f a=f b∧g a<g b))(hg:∀ a∈A,g a<g x):(ins lt A x).Pairwise (fun a b=>f a<f b∨f a=f b∧g a<g b):=by
 obtain ⟨B,D,rfl,h2,h3,h4⟩:=xD lt A x;rw [h2];obtain ⟨s1,s2,s3⟩:=List.pairwise_append.1 hs;have hB:∀ b∈B,f b≤f x:=fun b hb=>by
  rcases h4 with rfl | ⟨B',h,rfl,hx⟩
  ·simp at hb
  ·rw [hlt,decide_eq_false_iff_not] at hx
   rcases iI.1 hb with hb | hb
   ·have:=(List.pairwise_append.1 s1).2.2 b hb h (by simp)
    omega
   ·simp at hb;subst hb;omega
 have hD:∀ d∈D,f x<f d:=fun d hd=>by
  have:=h3 d hd
  rwa [hlt,decide_eq_true_eq] at this
 refine List.pairwise_append.2 ⟨s1,bJf.2 ⟨fun d hd => .inl (hD d hd),s2⟩,fun a ha b hb => ?_⟩
 rcases iW.1 hb with rfl | hb
 ·have h5:=hB a ha
  have h6:=hg a (oE _ ha)
  by_cases e:f a=f b
  ·exact .inr ⟨e,h6⟩
  ·exact .inl (by omega)
 ·exact s3 a ha b hb
theorem aIr{f g:α→Int}{lt:α→α→Bool}(hlt:∀ x y,lt x y=decide (f x<f y))(l:List α)(hl:l.Pairwise (fun a b=>g a<g b)):(isort lt l).Pairwise (fun a b=>f a<f b∨f a=f b∧g a<g b):=by
 unfold isort;have:∀ (l A:List α),l.Pairwise (fun a b=>g a<g b)→(∀ a∈A,∀ x∈l,g a<g x)→A.Pairwise (fun a b=>f a<f b∨f a=f b∧g a<g b)→(l.foldl (ins lt) A).Pairwise (fun a b=>f a<f b∨f a=f b∧g a<g b):=by
  intro l
  induction l with
  | nil=>intro A _ _ h;exact h
  | cons x r ih =>
   intro A hl hA h;obtain ⟨h1,h2⟩:=bJf.1 hl;rw [sG];refine ih _ h2 (fun a ha y hy => ?_) (aRn hlt x h (fun a ha=>hA a ha x (gZ ..)))
   rcases iW.1 ((bGv lt A x).mem_iff.1 ha) with rfl | ha
   ·exact h1 y hy
   ·exact hA a ha y (kQ6 _ hy)
 exact this l [] hl (fun a ha=>by simp at ha) .nil
end
end
section

noncomputable abbrev aFw:Code:=sub (cd Tryz.f216) [1,0,0,1,0,0,1,0,0]
noncomputable abbrev aMn:Code:=sub (cd Tryz.f216) [1,0,0]
theorem bUq{x:Int}{r0:Bool}(er0:r0=(x != x)){base:Nat}:FV Tp 168 [(pI x)] base (pB r0) []:=by
 subst er0;exact FV.fin Tryz.func168 rfl (o:=[]) (l:=[]) (by kernel_rfl) (gn)
theorem wZ(x:Int){base:Nat}:FV Tp 168 [.p (aA x)] base (pB false) []:=bUq (by simp)
theorem bUr{x y:Int}(h0:x<y){base:Nat}:FV Tp 116 [(pI x),(pI y)] base (pI (-1:Int)) []:=by
 exact FV.fin Tryz.func116 rfl (o:=[.c (pB false) [],.c (pB false) [],bF,bF,bT]) (l:=[_,false=false,false=false,_,_]) (by kernel_rfl) (gc (aZ h0) (gc rfl (gc rfl (gc (fk 0 (wZ y) rfl) (gc (fk 0 (wZ x) rfl) gn)))))
theorem bUs{x y:Int}(h0:y≤x)(h1:y<x){base:Nat}:FV Tp 116 [(pI x),(pI y)] base (pI 1) []:=by
 exact FV.fin Tryz.func116 rfl (o:=[.c (pB false) [],.c (pB false) [],bF,bF,bF,bT]) (l:=[_,_,false=false,false=false,_,_]) (by kernel_rfl) (gc (aZ h1) (gc (bJ h0) (gc rfl (gc rfl (gc (fk 0 (wZ y) rfl) (gc (fk 0 (wZ x) rfl) gn))))))
theorem bUt{x y:Int}(h0:y≤x)(h1:x≤y){base:Nat}:FV Tp 116 [(pI x),(pI y)] base (pI 0) []:=by
 exact FV.fin Tryz.func116 rfl (o:=[.c (pB false) [],.c (pB false) [],bF,bF,bF,bF]) (l:=[_,_,false=false,false=false,_,_]) (by kernel_rfl) (gc (bJ h1) (gc (bJ h0) (gc rfl (gc rfl (gc (fk 0 (wZ y) rfl) (gc (fk 0 (wZ x) rfl) gn))))))
def xA(x y:Int):Int:=if x<y then -1 else if y<x then 1 else 0
theorem bUu(x y:Int){base:Nat}:FV Tp 116 [.p (aA x),.p (aA y)] base (pI (xA x y)) []:=by
 unfold xA
 by_cases h1:x<y
 ·rw [if_pos h1];exact bUr h1
 ·rw [if_neg h1]
  by_cases h2:y<x
  ·rw [if_pos h2];exact bUs (by omega) h2
  ·rw [if_neg h2];exact bUt (by omega) (by omega)
def ltK(f:Nat)(x y:List Int):Bool:=decide (xA (x.getD f 0) (y.getD f 0)<0)
theorem bGt(f:Nat)(x y:List Int):ltK f x y=decide (x.getD f 0<y.getD f 0):=by
 unfold ltK xA;rw [decide_eq_decide]
 split
 ·omega
 ·split <;> omega
theorem aTy{a0 a1 a2 b0 b1 b2 r0:Int}(er0:r0=(xA a2 b2)){base:Nat}:FV Tp 152 [(.p (.agg [(aA a0),(aA a1),(aA a2)])),(.p (.agg [(aA b0),(aA b1),(aA b2)]))] base (pI r0) []:=by
 subst er0;exact FV.fin Tryz.func152 rfl (o:=[.c (pI (xA a2 b2)) []]) (l:=[_]) (by kernel_rfl) (gc (fk 2 (bUu a2 b2) rfl) gn)
def jW(l:Lqq)(i:Nat)(Ln:Nat)(Lc:List PV):St:=⟨fr 53 [(0,(.own 0)),(1,(pI 0)),(2,(pI (l.length:Int))),(3,(.fn 152 [] [])),(8,(pI (i:Int)))],[some (.row 48 Ln Lc)]⟩
theorem aTz{l:Lqq}{i'0:Nat}{L'1:Lqq}(hl0:aJ Tp 1 aMn (jW l 1 l.length (l.flatten.map aA)) (.exit 0) (jW l i'0 L'1.length (L'1.flatten.map aA))):FMM Tp 216 [(.own 0),(pI 0),(pI (l.length:Int)),(.fn 152 [] [])] [some (.row 48 l.length (l.flatten.map aA))] (.tup []) [some (.row 48 L'1.length (L'1.flatten.map aA))]:=by
 exact FMM.fin (k:=1) (g:=⟨[],[],[],[]⟩) rfl Tryz.func216 rfl (o:=[.k 3 ⟨(rng [(4,4),(9,44)]),[],[],[]⟩ (.exit 0) (jW l i'0 L'1.length (L'1.flatten.map aA))]) (l:=[_,inR (1:Int)]) (by kernel_rfl) (gc hl0.code (gc (by unfold inR;omega) gn))
def iE(l:Lqq)(i:Nat)(j:Int)(Mn:Nat)(Mc:List PV):St:=⟨fr 53 [(0,(.own 0)),(1,(pI 0)),(2,(pI (l.length:Int))),(3,(.fn 152 [] [])),(8,(pI (i:Int))),(9,(pI j)),(12,(pI (i:Int))),(13,(pI (l.length:Int))),(14,(pB (decide ((i:Int)<(l.length:Int))))),(17,(pI (i:Int)))],[some (.row 48 Mn Mc)]⟩
theorem aRe{l:Lqq}{i:Nat}{L:Lqq}{j'100:Int}{M'101:Lqq}{i':Nat}{L':Lqq}(h0:(i:Int)<(l.length:Int))(hl1:aJ Tp 1 aFw (iE l i (i:Int) L.length (L.flatten.map aA)) (.exit 2) (iE l i j'100 M'101.length (M'101.flatten.map aA)))(h2:inR (((i+1):Nat):Int))(ei':i'=(i+1))(eL'n:L'.length=M'101.length)(eL'c:L'.flatten.map aA=(M'101.flatten.map aA)):aC Tp 1 aMn (jW l i L.length (L.flatten.map aA)) .normal (jW l i' L'.length (L'.flatten.map aA)):=by
 subst ei';have raw:aC Tp 1 aMn (jW l i L.length (L.flatten.map aA)) .normal (jW l (i+1) M'101.length (M'101.flatten.map aA)):=aC.fin (g:=⟨(rng [(4,4),(9,44)]),[],[],[]⟩) (o:=[bT,.k 5 ⟨(rng [(4,4),(10,2),(18,35)]),[],[],[]⟩ (.exit 2) (iE l i j'100 M'101.length (M'101.flatten.map aA))]) (l:=[_,_,_]) (by kernel_rfl) (gc h2 (gc hl1.code (gc (aZ h0) gn)))
 exact raw.cast (by rw [eL'n,eL'c])
theorem aCl{l:Lqq}{i:Nat}{L:Lqq}(h0:(l.length:Int)≤(i:Int)):aC Tp 1 aMn (jW l i L.length (L.flatten.map aA)) (.exit 0) (jW l i L.length (L.flatten.map aA)):=by
 exact aC.fin (g:=⟨(rng [(4,4),(9,44)]),[],[],[]⟩) (o:=[bF]) (l:=[_]) (by kernel_rfl) (gc (bJ h0) gn)
theorem aRf{l:Lqq}{i:Nat}{j:Int}{M:Lqq}{y200 y201 y202 y203 y204 y205 j':Int}{M':Lqq}(h0:(0:Int)<j)(h1:M[j.toNat]? = some [y200,y201,y202])(h2:0≤j)(h3:uni 3 M)(h4:inR (j-1))(h5:M[(j-1).toNat]? = some [y203,y204,y205])(h6:0≤(j-1))(h7:(xA y202 y205)<0)(h8:[(aA y203),(aA y204),(aA y205)].length=3∧(j.toNat*3)+3≤(M.flatten.map aA).length)(h9:0≤(j-1)∧(j-1)<(M.length:Int))(h10:[(aA y200),(aA y201),(aA y202)].length=3∧((j-1).toNat*3)+3≤((M.flatten.map aA).take (j.toNat*3)++[(aA y203),(aA y204),(aA y205)]++(M.flatten.map aA).drop ((j.toNat*3)+3)).length)(ej':j'=(j-1))(eM'n:M'.length=M.length)(eM'c:M'.flatten.map aA=(((M.flatten.map aA).take (j.toNat*3)++[(aA y203),(aA y204),(aA y205)]++(M.flatten.map aA).drop ((j.toNat*3)+3)).take ((j-1).toNat*3)++[(aA y200),(aA y201),(aA y202)]++((M.flatten.map aA).take (j.toNat*3)++[(aA y203),(aA y204),(aA y205)]++(M.flatten.map aA).drop ((j.toNat*3)+3)).drop (((j-1).toNat*3)+3))):aC Tp 1 aFw (iE l i j M.length (M.flatten.map aA)) .normal (iE l i j' M'.length (M'.flatten.map aA)):=by
 subst ej';have raw:aC Tp 1 aFw (iE l i j M.length (M.flatten.map aA)) .normal (iE l i (j-1) M.length (((M.flatten.map aA).take (j.toNat*3)++[(aA y203),(aA y204),(aA y205)]++(M.flatten.map aA).drop ((j.toNat*3)+3)).take ((j-1).toNat*3)++[(aA y200),(aA y201),(aA y202)]++((M.flatten.map aA).take (j.toNat*3)++[(aA y203),(aA y204),(aA y205)]++(M.flatten.map aA).drop ((j.toNat*3)+3)).drop (((j-1).toNat*3)+3))):=aC.fin (g:=⟨(rng [(4,4),(10,2),(18,35)]),[],[],[]⟩) (o:=[bT,bT,bT,bT,bT,.x (.agg [(aA y200),(aA y201),(aA y202)]),bT,bT,bT,bT,bT,.x (.agg [(aA y203),(aA y204),(aA y205)]),bT,.c (pI (xA y202 y205)) [],bT,bT,bT,.x (.agg [(aA y203),(aA y204),(aA y205)]),.x (.agg [(aA y200),(aA y201),(aA y202)])]) (l:=[_,_,_,_,_,_,_,_,_,_,_,_,_,_,_,_,FC Tp 152 [(.p (.agg [(aA y200),(aA y201),(aA y202)])),(.p (.agg [(aA y203),(aA y204),(aA y205)]))] [] 1 (pI (xA y202 y205)) [],_,_,_,_,_,_,_,_,_,_,_,_,_,_,_,_,_,_]) (by kernel_rfl) (gc h4 (gc h10 (gc h9 (gc h8 (gc (cJ (i:=j) h2 h1) (gc (aV (i:=j.toNat) h3 h1) (gc (bI (i:=j.toNat) h3 h1) (gc (cJ (i:=j) h2 h1) (gc (aV (i:=(j-1).toNat) h3 h5) (gc (bI (i:=(j-1).toNat) h3 h5) (gc (cJ (i:=(j-1)) h6 h5) (g2c h4 (gc (aZ h7) (g2c (aZ h0) (gc (FV.fc (aTy rfl) rfl) (gc (aZ h0) (gc (aV (i:=(j-1).toNat) h3 h5) (gc (bI (i:=(j-1).toNat) h3 h5) (gc (aZ h0) (gc (cJ (i:=(j-1)) h6 h5) (gc (aZ h0) (gc h4 (g3c (aZ h0) (gc (aV (i:=j.toNat) h3 h1) (gc (bI (i:=j.toNat) h3 h1) (gc (aZ h0) (gc (cJ (i:=j) h2 h1) (g4c (aZ h0) gn))))))))))))))))))))))))))))
 exact raw.cast (by rw [eM'n,eM'c])
theorem aRg{l:Lqq}{i:Nat}{j:Int}{M:Lqq}{y200 y201 y202 y203 y204 y205:Int}(h0:(0:Int)<j)(h1:M[j.toNat]? = some [y200,y201,y202])(h2:0≤j)(h3:uni 3 M)(h4:inR (j-1))(h5:M[(j-1).toNat]? = some [y203,y204,y205])(h6:0≤(j-1))(h7:(0:Int)≤(xA y202 y205)):aC Tp 1 aFw (iE l i j M.length (M.flatten.map aA)) (.exit 2) (iE l i j M.length (M.flatten.map aA)):=by
 exact aC.fin (g:=⟨(rng [(4,4),(10,2),(18,35)]),[],[],[]⟩) (o:=[bT,bT,bT,bT,bT,.x (.agg [(aA y200),(aA y201),(aA y202)]),bT,bT,bT,bT,bT,.x (.agg [(aA y203),(aA y204),(aA y205)]),bT,.c (pI (xA y202 y205)) [],bT,bT,bF]) (l:=[_,_,_,FC Tp 152 [(.p (.agg [(aA y200),(aA y201),(aA y202)])),(.p (.agg [(aA y203),(aA y204),(aA y205)]))] [] 1 (pI (xA y202 y205)) [],_,_,_,_,_,_,_,_,_,_,_,_,_,_,_,_,_,_]) (by kernel_rfl) (gc (bJ h7) (g2c (aZ h0) (gc (FV.fc (aTy rfl) rfl) (gc (aZ h0) (gc (aV (i:=(j-1).toNat) h3 h5) (gc (bI (i:=(j-1).toNat) h3 h5) (gc (aZ h0) (gc (cJ (i:=(j-1)) h6 h5) (gc (aZ h0) (gc h4 (g3c (aZ h0) (gc (aV (i:=j.toNat) h3 h1) (gc (bI (i:=j.toNat) h3 h1) (gc (aZ h0) (gc (cJ (i:=j) h2 h1) (g4c (aZ h0) gn))))))))))))))))
theorem aRh{l:Lqq}{i:Nat}{j:Int}{M:Lqq}(h0:j≤0):aC Tp 1 aFw (iE l i j M.length (M.flatten.map aA)) (.exit 2) (iE l i j M.length (M.flatten.map aA)):=by
 exact aC.fin (g:=⟨(rng [(4,4),(10,2),(18,35)]),[],[],[]⟩) (o:=[bF,bF,bF,bF,bF,bF,bF,bF,bF,bF,bF,bF,bF]) (l:=[_,_,_,_,_,_,_,_,_,_,_,_,_]) (by kernel_rfl) (g8c (bJ h0) (g5c (bJ h0) gn))
theorem bUv(l:Lqq)(i:Nat)(A R:Lqq)(hA:A.length<1000)(hi:i=A.length)(x0 x1 x2:Int)(hu:uni 3 (A++[x0,x1,x2]::R)):∀ m,m≤A.length→(∀ t (h:t<A.length),m≤t→ltK 2 [x0,x1,x2] A[t]=true) →
  aJ Tp 1 aFw (iE l i (m:Int) (mv A [x0,x1,x2] m R).length ((mv A [x0,x1,x2] m R).flatten.map aA)) (.exit 2) (iE l i (lH (ltK 2) [x0,x1,x2] A:Int) (ins (ltK 2) A [x0,x1,x2]++R).length ((ins (ltK 2) A [x0,x1,x2]++R).flatten.map aA)):=by
 have huA:∀ y∈A,y.length=3:=fun y hy=>hu y (oE _ hy)
 have huM:∀ m,uni 3 (mv A [x0,x1,x2] m R):=fun m y hy=>by
  unfold mv at hy
  rcases iI.1 hy with h | h
  ·exact huA y (List.mem_of_mem_take h)
  ·rcases iW.1 h with rfl | h
   ·rfl
   ·rcases iI.1 h with h | h
    ·exact huA y (List.mem_of_mem_drop h)
    ·exact hu y (aDp _ (kQ6 _ h))
 intro m
 induction m with
 | zero =>
  intro _ hlt;have e:=aFx (ltK 2) [x0,x1,x2] A 0 (Nat.zero_le _) hlt (.inl rfl);rw [← bGu,e];exact .exit (aRh (by simp)) (by simp)
 | succ m ih =>
  intro hm hlt;have hy:=kQ0 (show m<A.length by omega)
  generalize A[m]=y at hy
  obtain ⟨y0,y1,y2,rfl⟩:=len3 (huA y (kQ5 hy));have e1:((m+1:Nat):Int).toNat=m+1:=by omega
  have e2:(((m+1:Nat):Int)-1).toNat=m:=by omega
  have hl:=xB A [x0,x1,x2] (m+1) R hm;have g1:(mv A [x0,x1,x2] (m+1) R)[m+1]? = some [x0,x1,x2]:=by rw [aIp A _ _ R hm];simp
  have g2:(mv A [x0,x1,x2] (m+1) R)[m]? = some [y0,y1,y2]:=by rw [aIp A _ _ R hm,if_pos (by omega)];exact hy
  by_cases hc:xA x2 y2<0
  ·have st:=qT (k:=3) (i:=m+1) (x:=[y0,y1,y2]) (huM (m+1)) (by omega) rfl
   have hs1:uni 3 ((mv A [x0,x1,x2] (m+1) R).set (m+1) [y0,y1,y2]):=aTa (huM _) rfl;have st2:=qT (k:=3) (i:=m) (x:=[x0,x1,x2]) hs1 (by rw [tL];omega) rfl
   have gm:((mv A [x0,x1,x2] (m+1) R).set (m+1) [y0,y1,y2])[m]? = some [y0,y1,y2]:=by rw [List.getElem?_set,if_neg (by omega)];exact g2
   have hsw:=bNp A [x0,x1,x2] (m+1) R hm (by omega) [y0,y1,y2] (by simpa using hy)
   rw [Nat.add_sub_cancel] at hsw
   simp only [iJ,List.map_nil] at st st2
   refine .step (aRf (j:=((m+1:Nat):Int)) (j':=(m:Int)) (M':=mv A [x0,x1,x2] m R) (by omega) (by rw [e1];exact g1) (by omega) (huM _) (by unfold inR;omega) (by rw [e2];exact g2) (by omega) hc ⟨rfl,by rw [e1];exact bI (huM _) g1⟩ ⟨by omega,by omega⟩ ⟨rfl,?_⟩ (by omega) (by rw [hl,xB A _ _ R (by omega)]) ?_) (ih (by omega) fun t ht h1 => ?_)
   ·rw [e1,e2,st];exact bI hs1 gm
   ·rw [e1,e2,st,st2,hsw]
   ·by_cases h2:t=m
    ·subst h2
     have h3:=hy;rw [kQ0 ht,Option.some.injEq] at h3
     rw [h3];simpa [ltK] using hc
    ·exact hlt t ht (by omega)
  ·have e:=aFx (ltK 2) [x0,x1,x2] A (m+1) hm hlt (.inr ⟨[y0,y1,y2],by simpa using hy,by simpa [ltK] using hc⟩)
   rw [← bGu,e];exact .exit (aRg (by omega) (by rw [e1];exact g1) (by omega) (huM _) (by unfold inR;omega) (by rw [e2];exact g2) (by omega) (by omega)) (by simp)
theorem bNl(l:Lqq)(hu:uni 3 l)(hn:l.length<1000):FMM Tp 216 [.own 0,.p (aA 0),.p (aA (l.length:Int)),.fn 152 [] []] [some (.row 48 l.length (l.flatten.map aA))] (.tup []) [some (.row 48 (isort (ltK 2) l).length ((isort (ltK 2) l).flatten.map aA))]:=by
 have hui:∀ i,uni 3 (isort (ltK 2) (l.take i)):=fun i y hy=>hu y (List.mem_of_mem_take ((xC (ltK 2) _ y).1 hy))
 have key:∀ d i,i+d=l.length→1≤i→aJ Tp 1 aMn (jW l i (isort (ltK 2) (l.take i)++l.drop i).length ((isort (ltK 2) (l.take i)++l.drop i).flatten.map aA)) (.exit 0) (jW l l.length (isort (ltK 2) l).length ((isort (ltK 2) l).flatten.map aA)):=by
  intro d
  induction d with
  | zero =>
   intro i hi _;obtain rfl:i=l.length:=by omega
   rw [List.take_length,List.drop_length,List.append_nil];exact .exit (aCl (by omega)) (by simp)
  | succ d ih =>
   intro i hi h1;have hlt:i<l.length:=by omega
   have hx:=hu l[i] (iQ hlt);generalize hxx:l[i]=x at hx
   obtain ⟨x0,x1,x2,rfl⟩:=len3 hx;have hAl:(isort (ltK 2) (l.take i)).length=i:=by rw [vV,kY];omega
   have hdr:l.drop i=[x0,x1,x2]::l.drop (i+1):=by rw [bDv hlt,hxx]
   have hin:=bUv l i (isort (ltK 2) (l.take i)) (l.drop (i+1)) (by omega) hAl.symm x0 x1 x2 (by
    intro y hy
    rcases iI.1 hy with h | h
    ·exact hui i y h
    ·rcases iW.1 h with rfl | h
     ·rfl
     ·exact hu y (List.mem_of_mem_drop h)) i (by omega) (fun t ht h2=>by omega)
   have hmv:mv (isort (ltK 2) (l.take i)) [x0,x1,x2] i (l.drop (i+1))=isort (ltK 2) (l.take i)++l.drop i:=by
    have:=bUx (isort (ltK 2) (l.take i)) [x0,x1,x2] (l.drop (i+1));rw [hAl] at this;rw [this,hdr]
   have hsn:=aRl (ltK 2) l i hlt;rw [hxx] at hsn
   rw [hmv,← hsn] at hin
   exact .step (aRe (by omega) hin (by unfold inR;omega) rfl rfl rfl) (ih (i+1) (by omega) (by omega))
 rcases Nat.eq_zero_or_pos l.length with h0 | hp
 ·have:l=[]:=aBg h0
  subst this;exact aTz (aJ.exit (aCl (l:=[]) (L:=[]) (i:=1) (by simp)) (by simp))
 ·have:=key (l.length-1) 1 (by omega) (by omega)
  have e1:isort (ltK 2) (l.take 1)++l.drop 1=l:=by
   cases l with
   | nil=>simp at hp
   | cons x r=>simp [isort,ins,lH]
  rw [e1] at this
  exact aTz this
def vS(l:Lqq)  : St:=⟨fr 63 [(0,(.own 0)),(1,(pI (l.length:Int))),(2,(.fn 152 [] [])),(6,(pI 20)),(7,(pI 0)),(8,(pI 20))],[some (.row 48 l.length (l.flatten.map aA))]⟩
def vT(l:Lqq)  : St:=⟨fr 63 [(0,(.own 0)),(1,(pI (l.length:Int))),(2,(.fn 152 [] [])),(6,(pI 20)),(7,(pI 0)),(8,(pI 20))],[some (.row 48 ((isort (ltK 2) l).length) ((isort (ltK 2) l).flatten.map aA))]⟩
theorem bNm{l:Lqq}(hl0:aJ Tp 1 (sub (cd Tryz.f188) [1,1,0,0,0]) (vS l ) (.exit 0) (vS l ))(h1:uni 3 l)(h2:l.length<1000)(hl3:aJ Tp 1 (sub (cd Tryz.f188) [1,1,1,1,0,0]) (vT l ) (.exit 2) (vT l )):FMM Tp 188 [(.own 0),(pI (l.length:Int)),(.fn 152 [] [])] [some (.row 48 l.length (l.flatten.map aA))] (.tup []) [some (.row 48 ((isort (ltK 2) l).length) ((isort (ltK 2) l).flatten.map aA))]:=by
 exact FMM.fin (k:=1) (g:=⟨[],[],[],[]⟩) rfl Tryz.func188 rfl (o:=[.k 6 ⟨(rng [(3,3),(10,13),(27,1),(43,1),(60,1)]),[],[],[]⟩ (.exit 0) (vS l ),.c (.tup []) [(0,(.row 48 ((isort (ltK 2) l).length) ((isort (ltK 2) l).flatten.map aA)))],.k 1 ⟨(rng [(3,3),(10,53)]),[],[],[]⟩ (.exit 2) (vT l )]) (l:=[_,FC Tp 216 [(.own 0),(pI 0),(pI (l.length:Int)),(.fn 152 [] [])] [(0,(.row 48 l.length (l.flatten.map aA)))] 1 (.tup []) [(0,(.row 48 ((isort (ltK 2) l).length) ((isort (ltK 2) l).flatten.map aA)))],_]) (by kernel_rfl) (gc hl3.code (gc (FMM.fc (ids:=[0]) (bNl l h1 h2) (by kernel_rfl)) (gc hl0.code gn)))
theorem aRi{l:Lqq}(h0:(l.length:Int)<20):aC Tp 1 (sub (cd Tryz.f188) [1,1,0,0,0]) (vS l ) (.exit 0) (vS l ):=by
 exact aC.fin (g:=⟨(rng [(3,3),(10,13),(27,1),(43,1),(60,1)]),[],[],[]⟩) (o:=[bF]) (l:=[_]) (by kernel_rfl) (gc (qU h0) gn)
theorem aRj{l:Lqq}(h0:(l.length:Int)≤20):aC Tp 1 (sub (cd Tryz.f188) [1,1,1,1,0,0]) (vT l ) (.exit 2) (vT l ):=by
 exact aC.fin (g:=⟨(rng [(3,3),(10,53)]),[],[],[]⟩) (o:=[bF]) (l:=[_]) (by kernel_rfl) (gc (bJ h0) gn)
theorem bNn(l:Lqq)(hu:uni 3 l)(hn:l.length<20):FMM Tp 188 [.own 0,.p (aA (l.length:Int)),.fn 152 [] []] [some (.row 48 l.length (l.flatten.map aA))] (.tup []) [some (.row 48 (isort (ltK 2) l).length ((isort (ltK 2) l).flatten.map aA))] := 
 bNm (aJ.exit (aRi (by omega)) (by simp)) hu (by omega) (aJ.exit (aRj (by omega)) (by simp))
theorem bNo{l:Lqq}(h0:uni 3 l)(h1:l.length<20):FMM Tp 151 [(.own 0),(.fn 152 [] [])] [some (.row 48 l.length (l.flatten.map aA))] (.tup []) [some (.row 48 ((isort (ltK 2) l).length) ((isort (ltK 2) l).flatten.map aA))]:=by
 exact FMM.fin (k:=1) (g:=⟨[],[],[],[]⟩) rfl Tryz.func151 rfl (o:=[.c (.tup []) [(0,(.row 48 ((isort (ltK 2) l).length) ((isort (ltK 2) l).flatten.map aA)))]]) (l:=[FC Tp 188 [(.own 0),(pI (l.length:Int)),(.fn 152 [] [])] [(0,(.row 48 l.length (l.flatten.map aA)))] 1 (.tup []) [(0,(.row 48 ((isort (ltK 2) l).length) ((isort (ltK 2) l).flatten.map aA)))]]) (by kernel_rfl) (gc (FMM.fc (ids:=[0]) (bNn l h0 h1) (by kernel_rfl)) gn)
theorem bUw(l:Lqq)(hu:uni 3 l)(hn:l.length<20):FMM Tp 151 [.own 0,.fn 152 [] []] [some (.row 48 l.length (l.flatten.map aA))] (.tup []) [some (.row 48 (isort (ltK 2) l).length ((isort (ltK 2) l).flatten.map aA))]:=bNo hu hn
end
section
variable {dl:Int}{sk dc:Lqq}

noncomputable abbrev qX:Code:=sub (cd Tryz.f86) [1,1,1,1,0,1,0,0]
noncomputable abbrev wP:Code:=sub (cd Tryz.f86) [1,1,0,1,0,0]
noncomputable abbrev wQ:Code:=sub (cd Tryz.f129) [1,0,1,0,0]
noncomputable abbrev aHr:Code:=sub (cd Tryz.f21) [1,1,1,1,1,0,1,0,0]
theorem bEu:((0:Int) != (0:Int))=false:=by first | decide | simp
theorem aBs{cs:List PV}{a b:Nat}{v x:PV}(hn:a≠b)(h:cs[b]? = some x):(cs.set a v)[b]? = some x:=by rw [bJd hn];exact h
def ocB(q:List Int)(n:Int):Bool:=q.contains n
abbrev bQt(dl:Int)(sk dc:Lqq)(ov:PV)(R:Lqq)(T T2:Lqb):Prop:=FMM Tp 86 [pV dl sk dc,iB] (dA dl sk dc ov T) (.own 7) (dA dl sk dc ov T2++[some (.row 48 R.length (R.flatten.map aA))])
def iX(dl:Int)(sk:Lqq)(dc:Lqq)(ov:PV)(pn:Nat)(pc:List PV)(qn:Nat)(qc:List PV)(i:Nat)(te:List (Value × PV))(tk:Nat):St:=⟨fr 87 [(0,(.rp (aH dl sk dc) 0)),(3,(.ptr 7 0)),(4,(.p cC)),(5,(.own 8)),(6,(.own 9)),(16,(.p (fS sk))),(17,(pI (sk.length:Int))),(18,(pI (i:Int)))],[some (vB0 dl sk dc),some (.box 33 [(.p ov)]),some vB2,some (.mp te tk),some (.box 207 [(.mp 3)]),some (vB5 dl sk dc),some vB6,some vB2,some (.row 48 pn pc),some (.row 48 qn qc)]⟩
def eT(dl:Int)(sk:Lqq)(dc:Lqq)(ov:PV)(p'0:Lqq)(q'1:Lqq)(t'3:Lqb)(Ln:Nat)(Lc:List PV)(j:Nat):St:=⟨fr 87 [(4,(.p cC)),(5,(.own 7)),(6,(.own 8)),(47,(pI (((isort (ltK 2) p'0).length:Nat):Int))),(48,(pI (j:Int)))],[some (vB0 dl sk dc),some (.box 33 [(.p ov)]),some vB2,some (.mp (aG t'3) t'3.length),some (.box 207 [(.mp 3)]),some (vB5 dl sk dc),some vB6,some (.row 48 Ln Lc),some (.row 48 q'1.length (q'1.flatten.map aA))]⟩
theorem bQu{ov:PV}{T:Lqb}{p'0 q'1:Lqq}{i'2:Nat}{t'3:Lqb}{L'4:Lqq}{j'5 r0n:Nat}{r0c:List PV}(hl0:aJ Tp 7 wP (iX dl sk dc ov 0 [] 0 [] 0 (aG T) T.length) (.exit 0) (iX dl sk dc ov p'0.length (p'0.flatten.map aA) q'1.length (q'1.flatten.map aA) i'2 (aG t'3) t'3.length))(h1:uni 3 p'0)(h2:p'0.length<20)(hl3:aJ Tp 7 qX (eT dl sk dc ov p'0 q'1 t'3 ((isort (ltK 2) p'0).length) ((isort (ltK 2) p'0).flatten.map aA) 0) (.exit 2) (eT dl sk dc ov p'0 q'1 t'3 L'4.length (L'4.flatten.map aA) j'5))(h4:(q'1.flatten.map aA).length=q'1.length*3∧L'4.length+q'1.length≤1000000)(er0n:r0n=(L'4.length+q'1.length))(er0c:r0c=((L'4.flatten.map aA)++(q'1.flatten.map aA))):FMM Tp 86 [(.rp (aH dl sk dc) 0),iB] (dA dl sk dc ov T) (.own 7) [some (vB0 dl sk dc),some (.box 33 [(.p ov)]),some vB2,some (.mp (aG t'3) t'3.length),some (.box 207 [(.mp 3)]),some (vB5 dl sk dc),some vB6,some (.row 48 r0n r0c)]:=by
 subst er0n er0c;exact FMM.fin (k:=7) (g:=⟨[],[9],[],[]⟩) rfl Tryz.func86 rfl (o:=[.x (fS sk),.k 1 ⟨(rng [(1,2),(7,4),(12,4),(19,25),(45,1)]),[7,8,9],[],[(5,48),(6,48)]⟩ (.exit 0) (iX dl sk dc ov p'0.length (p'0.flatten.map aA) q'1.length (q'1.flatten.map aA) i'2 (aG t'3) t'3.length),.c (.tup []) [(8,(.row 48 ((isort (ltK 2) p'0).length) ((isort (ltK 2) p'0).flatten.map aA)))],.k 4 ⟨(rng [(0,4),(7,40),(49,35)]),[8,9],[],[]⟩ (.exit 2) (eT dl sk dc ov p'0 q'1 t'3 L'4.length (L'4.flatten.map aA) j'5)]) (l:=[_,_,FC Tp 151 [(.own 8),(.fn 152 [] [])] [(8,(.row 48 p'0.length (p'0.flatten.map aA)))] 10 (.tup []) [(8,(.row 48 ((isort (ltK 2) p'0).length) ((isort (ltK 2) p'0).flatten.map aA)))],_,(aH dl sk dc)[1]? = some (fS sk)]) (by kernel_rfl) (gc h4 (gc hl3.code (gc (FMM.fc (ids:=[8]) (bUw p'0 h1 h2) (by kernel_rfl)) (gc hl0.code (gc rfl gn)))))
theorem aXm{ov:PV}{p q:Lqq}{i:Nat}{t:Lqb}{y100 y101 n102:Int}{b103:Bool}{T104:Lqb}{q':Lqq}{i':Nat}{t':Lqb}(h0:(i:Int)<(sk.length:Int))(h1:sk[i]? = some [y100,y101])(h2:uni 2 sk)(h3:aDt dl sk dc ov [y100,y101] n102 b103 t T104)(h4:b103=true)(h5:[(aA y100),(aA (-1:Int)),(aA 0)].length=1*3∧q.length+1≤1000000)(h6:inR (((i+1):Nat):Int))(eq'n:q'.length=(q.length+1))(eq'c:q'.flatten.map aA=((q.flatten.map aA)++[(aA y100),(aA (-1:Int)),(aA 0)]))(ei':i'=(i+1))(et'e:aG t'=(aG T104))(et'k:t'.length=T104.length):aC Tp 7 wP (iX dl sk dc ov p.length (p.flatten.map aA) q.length (q.flatten.map aA) i (aG t) t.length) .normal (iX dl sk dc ov p.length (p.flatten.map aA) q'.length (q'.flatten.map aA) i' (aG t') t'.length):=by
 subst ei';have raw:aC Tp 7 wP (iX dl sk dc ov p.length (p.flatten.map aA) q.length (q.flatten.map aA) i (aG t) t.length) .normal (iX dl sk dc ov p.length (p.flatten.map aA) (q.length+1) ((q.flatten.map aA)++[(aA y100),(aA (-1:Int)),(aA 0)]) (i+1) (aG T104) T104.length):=aC.fin (g:=⟨(rng [(1,2),(7,4),(12,4),(19,25),(45,1)]),[7,8,12],[],[]⟩) (o:=[bT,.x (.agg [(aA y100),(aA y101)]),.c (.tup [(pI n102),(pB b103)]) (vU dl sk dc ov T104),bT]) (l:=[_,_,[(aA y100),(aA (-1:Int)),(aA 0)].length=3,_,FC Tp 134 [(.rp (aH dl sk dc) 0),(.p (.agg [(aA y100),(aA y101)])),iB] [(4,(.box 207 [(.mp 3)])),(5,(vB5 dl sk dc)),(0,(vB0 dl sk dc)),(2,vB2),(6,vB6),(1,(.box 33 [(.p ov)])),(3,(.mp (aG t) t.length))] 11 (.tup [(pI n102),(pB b103)]) (vU dl sk dc ov T104),_,_,0≤(i:Int)∧(i:Int)<(sk.length:Int)∧(i*2)<(sk.flatten.map aA).length,_]) (by kernel_rfl) (gc h6 (gc h5 (gc (by first | decide | simp) (gc h4 (gc (FMM.fc (ids:=[0,1,2,3,4,5,6]) h3 (by kernel_rfl)) (gc (aV (i:=i) h2 h1) (gc (bI (i:=i) h2 h1) (gc (cB (k:=2) (i:=(i:Int)) (by decide) h2 (kQ2 _) h1) (gc (aZ h0) gn)))))))))
 exact raw.cast (by rw [eq'n,eq'c,et'e,et'k])
theorem aXn{ov:PV}{p q:Lqq}{i:Nat}{t:Lqb}{y100 y101 n102:Int}{b103:Bool}{T104:Lqb}{p':Lqq}{i':Nat}{t':Lqb}(h0:(i:Int)<(sk.length:Int))(h1:sk[i]? = some [y100,y101])(h2:uni 2 sk)(h3:aDt dl sk dc ov [y100,y101] n102 b103 t T104)(h4:b103=false)(h5:[(aA y100),(aA 0),(aA n102)].length=1*3∧p.length+1≤1000000)(h6:inR (((i+1):Nat):Int))(ep'n:p'.length=(p.length+1))(ep'c:p'.flatten.map aA=((p.flatten.map aA)++[(aA y100),(aA 0),(aA n102)]))(ei':i'=(i+1))(et'e:aG t'=(aG T104))(et'k:t'.length=T104.length):aC Tp 7 wP (iX dl sk dc ov p.length (p.flatten.map aA) q.length (q.flatten.map aA) i (aG t) t.length) .normal (iX dl sk dc ov p'.length (p'.flatten.map aA) q.length (q.flatten.map aA) i' (aG t') t'.length):=by
 subst ei';have raw:aC Tp 7 wP (iX dl sk dc ov p.length (p.flatten.map aA) q.length (q.flatten.map aA) i (aG t) t.length) .normal (iX dl sk dc ov (p.length+1) ((p.flatten.map aA)++[(aA y100),(aA 0),(aA n102)]) q.length (q.flatten.map aA) (i+1) (aG T104) T104.length):=aC.fin (g:=⟨(rng [(1,2),(7,4),(12,4),(19,25),(45,1)]),[7,12,9],[],[]⟩) (o:=[bT,.x (.agg [(aA y100),(aA y101)]),.c (.tup [(pI n102),(pB b103)]) (vU dl sk dc ov T104),bF]) (l:=[_,_,[(aA y100),(aA 0),(aA n102)].length=3,_,FC Tp 134 [(.rp (aH dl sk dc) 0),(.p (.agg [(aA y100),(aA y101)])),iB] [(4,(.box 207 [(.mp 3)])),(5,(vB5 dl sk dc)),(0,(vB0 dl sk dc)),(2,vB2),(6,vB6),(1,(.box 33 [(.p ov)])),(3,(.mp (aG t) t.length))] 11 (.tup [(pI n102),(pB b103)]) (vU dl sk dc ov T104),_,_,0≤(i:Int)∧(i:Int)<(sk.length:Int)∧(i*2)<(sk.flatten.map aA).length,_]) (by kernel_rfl) (gc h6 (gc h5 (gc (by first | decide | simp) (gc h4 (gc (FMM.fc (ids:=[0,1,2,3,4,5,6]) h3 (by kernel_rfl)) (gc (aV (i:=i) h2 h1) (gc (bI (i:=i) h2 h1) (gc (cB (k:=2) (i:=(i:Int)) (by decide) h2 (kQ2 _) h1) (gc (aZ h0) gn)))))))))
 exact raw.cast (by rw [ep'n,ep'c,et'e,et'k])
theorem aXo{ov:PV}{p q:Lqq}{i:Nat}{t:Lqb}(h0:(sk.length:Int)≤(i:Int)):aC Tp 7 wP (iX dl sk dc ov p.length (p.flatten.map aA) q.length (q.flatten.map aA) i (aG t) t.length) (.exit 0) (iX dl sk dc ov p.length (p.flatten.map aA) q.length (q.flatten.map aA) i (aG t) t.length):=by
 exact aC.fin (g:=⟨(rng [(1,2),(7,4),(12,4),(19,25),(45,1)]),[7,8,9],[],[]⟩) (o:=[bF]) (l:=[_]) (by kernel_rfl) (gc (bJ h0) gn)
theorem aXp{ov:PV}{p'0 q'1:Lqq}{t'3:Lqb}{L:Lqq}{j:Nat}{y200 y201 y202 y203 y204 y205:Int}{L':Lqq}{j':Nat}(h0:(j:Int)<(((isort (ltK 2) p'0).length:Nat):Int))(h1:inR (((j+1):Nat):Int))(h2:L[j]? = some [y200,y201,y202])(h3:((j*3)+1)<(L.flatten.map aA).length)(h4:(0:Int)<(j:Int))(h5:uni 3 L)(h6:inR ((j:Int)-1))(h7:L[((j:Int)-1).toNat]? = some [y203,y204,y205])(h8:0≤((j:Int)-1))(h9:y202=y205)(h10:((j*3)+1)<((L.flatten.map aA).set ((j*3)+1) (aA (((j+1):Nat):Int))).length)(eL'n:L'.length=L.length)(eL'c:L'.flatten.map aA=(((L.flatten.map aA).set ((j*3)+1) (aA (((j+1):Nat):Int))).set ((j*3)+1) (aA y204)))(ej':j'=(j+1)):aC Tp 7 qX (eT dl sk dc ov p'0 q'1 t'3 L.length (L.flatten.map aA) j) .normal (eT dl sk dc ov p'0 q'1 t'3 L'.length (L'.flatten.map aA) j'):=by
 subst ej';have raw:aC Tp 7 qX (eT dl sk dc ov p'0 q'1 t'3 L.length (L.flatten.map aA) j) .normal (eT dl sk dc ov p'0 q'1 t'3 L.length (((L.flatten.map aA).set ((j*3)+1) (aA (((j+1):Nat):Int))).set ((j*3)+1) (aA y204)) (j+1)):=aC.fin (g:=⟨(rng [(0,4),(7,40),(49,35)]),[7,8],[],[]⟩) (o:=[bT,bT,bT,bT,bT,bT,.x (aA y202),bT,bT,bT,bT,bT,bT,.x (aA y205),bT,bT,bT,.x (aA y204)]) (l:=[_,_,_,((L.flatten.map aA).set ((j*3)+1) (aA (((j+1):Nat):Int)))[((((j:Int)-1).toNat*3)+1)]? = some (aA y204),_,_,_,_,_,((L.flatten.map aA).set ((j*3)+1) (aA (((j+1):Nat):Int)))[((((j:Int)-1).toNat*3)+2)]? = some (aA y205),_,_,_,_,_,_,_,_,((L.flatten.map aA).set ((j*3)+1) (aA (((j+1):Nat):Int)))[((j*3)+2)]? = some (aA y202),_,_,_,_,_,_,_,_,_,_]) (by kernel_rfl) (gc h1 (gc h10 (gc (cJ (i:=(j:Int)) (kQ2 _) h2) (gc (aBs (by omega) (jT (i:=((j:Int)-1).toNat) (f:=1) h5 h7 rfl)) (gc (cJ (i:=((j:Int)-1)) h8 h7) (gc h6 (gc (eW h9) (g2c (aZ h4) (gc (aBs (by omega) (jT (i:=((j:Int)-1).toNat) (f:=2) h5 h7 rfl)) (g2c (aZ h4) (gc (cJ (i:=((j:Int)-1)) h8 h7) (gc (aZ h4) (gc h6 (g3c (aZ h4) (gc (aBs (by omega) (jT (i:=j) (f:=2) h5 h2 rfl)) (g2c (aZ h4) (gc (cJ (i:=(j:Int)) (kQ2 _) h2) (g3c (aZ h4) (gc h3 (gc (cJ (i:=(j:Int)) (kQ2 _) h2) (gc h1 (gc (aZ h0) gn))))))))))))))))))))))
 exact raw.cast (by rw [eL'n,eL'c])
theorem aXq{ov:PV}{p'0 q'1:Lqq}{t'3:Lqb}{L:Lqq}{j:Nat}{y200 y201 y202 y203 y204 y205:Int}{L':Lqq}{j':Nat}(h0:(j:Int)<(((isort (ltK 2) p'0).length:Nat):Int))(h1:inR (((j+1):Nat):Int))(h2:L[j]? = some [y200,y201,y202])(h3:((j*3)+1)<(L.flatten.map aA).length)(h4:(0:Int)<(j:Int))(h5:uni 3 L)(h6:inR ((j:Int)-1))(h7:L[((j:Int)-1).toNat]? = some [y203,y204,y205])(h8:0≤((j:Int)-1))(h9:y202≠y205)(eL'n:L'.length=L.length)(eL'c:L'.flatten.map aA=((L.flatten.map aA).set ((j*3)+1) (aA (((j+1):Nat):Int))))(ej':j'=(j+1)):aC Tp 7 qX (eT dl sk dc ov p'0 q'1 t'3 L.length (L.flatten.map aA) j) .normal (eT dl sk dc ov p'0 q'1 t'3 L'.length (L'.flatten.map aA) j'):=by
 subst ej';have raw:aC Tp 7 qX (eT dl sk dc ov p'0 q'1 t'3 L.length (L.flatten.map aA) j) .normal (eT dl sk dc ov p'0 q'1 t'3 L.length ((L.flatten.map aA).set ((j*3)+1) (aA (((j+1):Nat):Int))) (j+1)):=aC.fin (g:=⟨(rng [(0,4),(7,40),(49,35)]),[7,8],[],[]⟩) (o:=[bT,bT,bT,bT,bT,bT,.x (aA y202),bT,bT,bT,bT,bT,bT,.x (aA y205),bT,bT,bF]) (l:=[_,_,_,_,((L.flatten.map aA).set ((j*3)+1) (aA (((j+1):Nat):Int)))[((((j:Int)-1).toNat*3)+2)]? = some (aA y205),_,_,_,_,_,_,_,_,((L.flatten.map aA).set ((j*3)+1) (aA (((j+1):Nat):Int)))[((j*3)+2)]? = some (aA y202),_,_,_,_,_,_,_,_,_,_]) (by kernel_rfl) (gc h1 (gc (bP h9) (g2c (aZ h4) (gc (aBs (by omega) (jT (i:=((j:Int)-1).toNat) (f:=2) h5 h7 rfl)) (g2c (aZ h4) (gc (cJ (i:=((j:Int)-1)) h8 h7) (gc (aZ h4) (gc h6 (g3c (aZ h4) (gc (aBs (by omega) (jT (i:=j) (f:=2) h5 h2 rfl)) (g2c (aZ h4) (gc (cJ (i:=(j:Int)) (kQ2 _) h2) (g3c (aZ h4) (gc h3 (gc (cJ (i:=(j:Int)) (kQ2 _) h2) (gc h1 (gc (aZ h0) gn)))))))))))))))))
 exact raw.cast (by rw [eL'n,eL'c])
theorem aXr{ov:PV}{p'0 q'1:Lqq}{t'3:Lqb}{L:Lqq}{j:Nat}{y200 y201 y202:Int}{L':Lqq}{j':Nat}(h0:(j:Int)<(((isort (ltK 2) p'0).length:Nat):Int))(h1:inR (((j+1):Nat):Int))(h2:L[j]? = some [y200,y201,y202])(h3:((j*3)+1)<(L.flatten.map aA).length)(h4:(j:Int)≤0)(eL'n:L'.length=L.length)(eL'c:L'.flatten.map aA=((L.flatten.map aA).set ((j*3)+1) (aA (((j+1):Nat):Int))))(ej':j'=(j+1)):aC Tp 7 qX (eT dl sk dc ov p'0 q'1 t'3 L.length (L.flatten.map aA) j) .normal (eT dl sk dc ov p'0 q'1 t'3 L'.length (L'.flatten.map aA) j'):=by
 subst ej';have raw:aC Tp 7 qX (eT dl sk dc ov p'0 q'1 t'3 L.length (L.flatten.map aA) j) .normal (eT dl sk dc ov p'0 q'1 t'3 L.length ((L.flatten.map aA).set ((j*3)+1) (aA (((j+1):Nat):Int))) (j+1)):=aC.fin (g:=⟨(rng [(0,4),(7,40),(49,35)]),[7,8],[],[]⟩) (o:=[bT,bF,bF,bF,bF,bF,bF,bF,bF,bF,bF,bF,bF,bF]) (l:=[_,_,_,_,_,_,_,_,_,_,_,_,_,_,_,_,_,_]) (by kernel_rfl) (gc h1 (g8c (bJ h4) (g5c (bJ h4) (gc h3 (gc (cJ (i:=(j:Int)) (kQ2 _) h2) (gc h1 (gc (aZ h0) gn)))))))
 exact raw.cast (by rw [eL'n,eL'c])
theorem aXs{ov:PV}{p'0 q'1:Lqq}{t'3:Lqb}{L:Lqq}{j:Nat}(h0:(((isort (ltK 2) p'0).length:Nat):Int)≤(j:Int)):aC Tp 7 qX (eT dl sk dc ov p'0 q'1 t'3 L.length (L.flatten.map aA) j) (.exit 2) (eT dl sk dc ov p'0 q'1 t'3 L.length (L.flatten.map aA) j):=by
 exact aC.fin (g:=⟨(rng [(0,4),(7,40),(49,35)]),[7,8],[],[]⟩) (o:=[bF]) (l:=[_]) (by kernel_rfl) (gc (bJ h0) gn)
theorem bQv{dl:Int}{sk dc R0:Lqq}{T1:Lqb}(h0:bQ dl sk dc)(h1:bQt dl (aB sk) (aB dc) cC R0 ([]:Lqb) T1){base:Nat}:FV Tp 28 [(.p (.agg (cF dl sk dc)))] base (.tup [(.own base),(pI 0)]) [(base,(.row 48 R0.length (R0.flatten.map aA)))]:=by
 exact FV.fin Tryz.func28 rfl (o:=[.c (.tup [(.rp (aH dl (aB sk) (aB dc)) 0),(pI 0)]) [],bF,.c (.agg (kVL 5 6 1 3 7 2)) [(1,(vB0 dl (aB sk) (aB dc))),(2,(.box 33 [(.p cC)])),(3,(.box 139 (kVL 5 6 1 3 7 2))),(4,(.mp (aG ([]:Lqb)) 0)),(5,(.box 207 [(.mp 4)])),(6,(vB5 dl (aB sk) (aB dc))),(7,(.box 209 [(.fn 153 [] [(.ptr 1 0),(.ptr 3 0)])]))],.c (.own 8) [(1,(vB0 dl (aB sk) (aB dc))),(2,(.box 33 [(.p cC)])),(3,(.box 139 (kVL 5 6 1 3 7 2))),(4,(.mp (aG T1) T1.length)),(5,(.box 207 [(.mp 4)])),(6,(vB5 dl (aB sk) (aB dc))),(7,(.box 209 [(.fn 153 [] [(.ptr 1 0),(.ptr 3 0)])])),(8,(.row 48 R0.length (R0.flatten.map aA)))]]) (l:=[FC Tp 86 [(.rp (aH dl (aB sk) (aB dc)) 0),(.agg (kVL 5 6 1 3 7 2))] [(5,(.box 207 [(.mp 4)])),(6,(vB5 dl (aB sk) (aB dc))),(1,(vB0 dl (aB sk) (aB dc))),(3,(.box 139 (kVL 5 6 1 3 7 2))),(7,(.box 209 [(.fn 153 [] [(.ptr 1 0),(.ptr 3 0)])])),(2,(.box 33 [(.p cC)])),(4,(.mp (aG ([]:Lqb)) 0))] 8 (.own 8) [(1,(vB0 dl (aB sk) (aB dc))),(2,(.box 33 [(.p cC)])),(3,(.box 139 (kVL 5 6 1 3 7 2))),(4,(.mp (aG T1) T1.length)),(5,(.box 207 [(.mp 4)])),(6,(vB5 dl (aB sk) (aB dc))),(7,(.box 209 [(.fn 153 [] [(.ptr 1 0),(.ptr 3 0)])])),(8,(.row 48 R0.length (R0.flatten.map aA)))],FC Tp 87 [(.rp (aH dl (aB sk) (aB dc)) 0),(.p cC)] [] 1 (.agg (kVL 5 6 1 3 7 2)) [(1,(vB0 dl (aB sk) (aB dc))),(2,(.box 33 [(.p cC)])),(3,(.box 139 (kVL 5 6 1 3 7 2))),(4,(.mp (aG ([]:Lqb)) 0)),(5,(.box 207 [(.mp 4)])),(6,(vB5 dl (aB sk) (aB dc))),(7,(.box 209 [(.fn 153 [] [(.ptr 1 0),(.ptr 3 0)])]))],_,_]) (by kernel_rfl) (gc (FMM.fc (ids:=[1,2,3,4,5,6,7]) h1 (by kernel_rfl)) (gc (FMM.fcN (k:=7) rfl (ids:=[]) (aId (dl:=dl) (sk:=(aB sk)) (dc:=(aB dc))) (by kernel_rfl)) (gc bEu (gc (fk 1 (iC dl sk dc h0) rfl) gn))))
theorem bQw{n:Int}{q:List Int}{r0:Bool}(h0:q.length≤1000)(er0:r0=(q.contains n)){base:Nat}:FV Tp 85 [(pI n),(.rp [(aE q)] 0)] base (pB r0) []:=by
 subst er0;exact FV.fin Tryz.func85 rfl (o:=[.x (aE q),.c (pB (q.contains n)) []]) (l:=[_,[(aE q)][0]? = some (aE q)]) (by kernel_rfl) (gc (fk 0 (nM q n h0) rfl) (gc rfl gn))
theorem bQx(n:Int)(q:List Int)(hq:q.length≤1000){base:Nat}:FV Tp 85 [.p (aA n),.rp [aE q] 0] base (pB (ocB q n)) []:=bQw hq rfl
theorem bKn{x:Int}{q:List Int}{r0:Bool}(h0:q.length≤1000)(er0:r0=(!(ocB q x))):FMM Tp 150 [(pI x),(.ptr 0 0)] [some (.box 96 [(.fn 85 [] [(.rp [(aE q)] 0)])])] (pB r0) [some (.box 96 [(.fn 85 [] [(.rp [(aE q)] 0)])])]:=by
 subst er0;exact FMM.fin (k:=1) (g:=⟨[],[],[],[]⟩) rfl Tryz.func150 rfl (o:=[.c (pB (ocB q x)) []]) (l:=[_]) (by kernel_rfl) (gc (fk 1 (bQx x q h0) rfl) gn)
theorem aTd(x:Int)(q:List Int)(he:q.length≤1000):FMM Tp 150 [(pI x),.ptr 0 0] [some (.box 96 [(.fn 85 [] [(.rp [(aE q)] 0)])])] (pB (!(ocB q x))) [some (.box 96 [(.fn 85 [] [(.rp [(aE q)] 0)])])]:=bKn he rfl
def fP(l:List Int)(q:List Int)(i:Nat):St:=⟨fr 19 [(0,(.p (aE l))),(1,(.fn 150 [] [(.ptr 0 0)])),(7,(pI (l.length:Int))),(8,(pI (i:Int)))],[some (.box 96 [(.fn 85 [] [(.rp [(aE q)] 0)])])]⟩
theorem bKo{l q:List Int}{i'0:Nat}(hl0:aJ Tp 1 wQ (fP l q 0) (.exit 0) (fP l q i'0)):FMM Tp 129 [(.p (aE l)),(.fn 150 [] [(.ptr 0 0)])] [some (.box 96 [(.fn 85 [] [(.rp [(aE q)] 0)])])] (pI (-1:Int)) [some (.box 96 [(.fn 85 [] [(.rp [(aE q)] 0)])])]:=by
 exact FMM.fin (k:=1) (g:=⟨[],[],[],[]⟩) rfl Tryz.func129 rfl (o:=[.k 6 ⟨(rng [(2,5),(9,10)]),[],[],[]⟩ (.exit 0) (fP l q i'0)]) (l:=[_]) (by kernel_rfl) (gc hl0.code gn)
theorem bKp{l q:List Int}{i'0:Nat}(hl0:aJ Tp 1 wQ (fP l q 0) .ret (cE (fP l q i'0) [(4,(pI (i'0:Int)))])):FMM Tp 129 [(.p (aE l)),(.fn 150 [] [(.ptr 0 0)])] [some (.box 96 [(.fn 85 [] [(.rp [(aE q)] 0)])])] (pI (i'0:Int)) [some (.box 96 [(.fn 85 [] [(.rp [(aE q)] 0)])])]:=by
 exact FMM.fin (k:=1) (g:=⟨[],[],[],[]⟩) rfl Tryz.func129 rfl (o:=[.k 6 ⟨(rng [(2,5),(9,10)]),[],[],[]⟩ .ret (cE (fP l q i'0) [(4,(pI (i'0:Int)))])]) (l:=[_]) (by kernel_rfl) (gc hl0.code gn)
theorem aPm{l q:List Int}{i:Nat}{x100:Int}(h0:(i:Int)<(l.length:Int))(h1:l[i]? = some x100)(h2:q.length≤1000)(h3:(ocB q x100)=false):aC Tp 1 wQ (fP l q i) .ret (cE (fP l q i) [(4,(pI (i:Int)))]):=by
 exact aC.fin (g:=⟨(rng [(2,2),(5,2),(9,10)]),[],[],[]⟩) (o:=[bT,.x (aA x100),.c (pB (!(ocB q x100))) [(0,(.box 96 [(.fn 85 [] [(.rp [(aE q)] 0)])]))],bT]) (l:=[_,FC Tp 150 [(pI x100),(.ptr 0 0)] [(0,(.box 96 [(.fn 85 [] [(.rp [(aE q)] 0)])]))] 1 (pB (!(ocB q x100))) [(0,(.box 96 [(.fn 85 [] [(.rp [(aE q)] 0)])]))],_,_,_]) (by kernel_rfl) (gc (cL h3) (gc (FMM.fc (ids:=[0]) (aTd x100 q h2) (by kernel_rfl)) (gc (atm aA h1) (gc (ixn aA h1) (gc (aZ h0) gn)))))
theorem aPn{l q:List Int}{i:Nat}{x100:Int}{i':Nat}(h0:(i:Int)<(l.length:Int))(h1:l[i]? = some x100)(h2:q.length≤1000)(h3:(ocB q x100)=true)(h4:inR (((i+1):Nat):Int))(ei':i'=(i+1)):aC Tp 1 wQ (fP l q i) .normal (fP l q i'):=by
 subst ei';exact aC.fin (g:=⟨(rng [(2,5),(9,10)]),[],[],[]⟩) (o:=[bT,.x (aA x100),.c (pB (!(ocB q x100))) [(0,(.box 96 [(.fn 85 [] [(.rp [(aE q)] 0)])]))],bF]) (l:=[_,_,FC Tp 150 [(pI x100),(.ptr 0 0)] [(0,(.box 96 [(.fn 85 [] [(.rp [(aE q)] 0)])]))] 1 (pB (!(ocB q x100))) [(0,(.box 96 [(.fn 85 [] [(.rp [(aE q)] 0)])]))],_,_,_]) (by kernel_rfl) (gc h4 (gc (aY h3) (gc (FMM.fc (ids:=[0]) (aTd x100 q h2) (by kernel_rfl)) (gc (atm aA h1) (gc (ixn aA h1) (gc (aZ h0) gn))))))
theorem aPo{l q:List Int}{i:Nat}(h0:(l.length:Int)≤(i:Int)):aC Tp 1 wQ (fP l q i) (.exit 0) (fP l q i):=by
 exact aC.fin (g:=⟨(rng [(2,5),(9,10)]),[],[],[]⟩) (o:=[bF]) (l:=[_]) (by kernel_rfl) (gc (bJ h0) gn)
theorem bKq(l:List Int)(q:List Int)(hl:l.length≤1000)(he:∀ x∈l,q.length≤1000):FMM Tp 129 [.p (aE l),(.fn 150 [] [(.ptr 0 0)])] [some (.box 96 [(.fn 85 [] [(.rp [(aE q)] 0)])])] (pI (bC (fun x => !(ocB q x)) l)) [some (.box 96 [(.fn 85 [] [(.rp [(aE q)] 0)])])]:=by
 rcases aJ.find (P:=Tp) (k:=1) (b:=wQ) (fun i=>fP l q i) (fun i _=>cE (fP l q i) [(4,.p (aA (i:Int)))]) (fP l q l.length) .ret (.exit 0) (by simp) (by simp) (fun x => !(ocB q x)) l
  (fun i x hx hp=>by exact aPn (by have:=bD hx;omega) hx (he _ (kQ5 hx)) (by simpa using hp) (aP (by have:=bD hx;omega)) rfl)
  (fun i x hx hp=>by exact aPm (by have:=bD hx;omega) hx (he _ (kQ5 hx)) (by simpa using hp))
  (aPo (l:=l) (i:=l.length) (by omega)) with ⟨i,x,h1,h2,h3,h4⟩ | ⟨h1,h2,h3⟩
 ·rw [jH h2];exact bKp h4
 ·rw [jI h1];exact bKo h3
theorem bKr{l q:List Int}{r0:Bool}(h0:l.length≤1000)(h1:∀ x∈l,q.length≤1000)(er0:r0=(decide ((bC (fun x => !(ocB q x)) l) ≥ (0:Int)))):FMM Tp 149 [(.p (aE l)),(.fn 150 [] [(.ptr 0 0)])] [some (.box 96 [(.fn 85 [] [(.rp [(aE q)] 0)])])] (pB r0) [some (.box 96 [(.fn 85 [] [(.rp [(aE q)] 0)])])]:=by
 subst er0;exact FMM.fin (k:=1) (g:=⟨[],[],[],[]⟩) rfl Tryz.func149 rfl (o:=[.c (pI (bC (fun x => !(ocB q x)) l)) [(0,(.box 96 [(.fn 85 [] [(.rp [(aE q)] 0)])]))]]) (l:=[FC Tp 129 [(.p (aE l)),(.fn 150 [] [(.ptr 0 0)])] [(0,(.box 96 [(.fn 85 [] [(.rp [(aE q)] 0)])]))] 1 (pI (bC (fun x => !(ocB q x)) l)) [(0,(.box 96 [(.fn 85 [] [(.rp [(aE q)] 0)])]))]]) (by kernel_rfl) (gc (FMM.fc (ids:=[0]) (bKq l q h0 h1) (by kernel_rfl)) gn)
theorem bKs(l:List Int)(q:List Int)(hl:l.length≤1000)(he:∀ x∈l,q.length≤1000):FMM Tp 149 [.p (aE l),(.fn 150 [] [(.ptr 0 0)])] [some (.box 96 [(.fn 85 [] [(.rp [(aE q)] 0)])])] (pB (l.any (fun x => !(ocB q x)))) [some (.box 96 [(.fn 85 [] [(.rp [(aE q)] 0)])])]:=bKr hl he (oF _ _).symm
theorem bQy{l q:List Int}{r0:Bool}(h0:l.length≤1000)(h1:∀ x∈l,q.length≤1000)(er0:r0=(!(l.any (fun x => !(ocB q x))))){base:Nat}:FV Tp 84 [(.p (aE l)),(.fn 85 [] [(.rp [(aE q)] 0)])] base (pB r0) []:=by
 subst er0;exact FV.fin Tryz.func84 rfl (o:=[.c (pB (l.any (fun x => !(ocB q x)))) [(0,(.box 96 [(.fn 85 [] [(.rp [(aE q)] 0)])]))]]) (l:=[FC Tp 149 [(.p (aE l)),(.fn 150 [] [(.ptr 0 0)])] [(0,(.box 96 [(.fn 85 [] [(.rp [(aE q)] 0)])]))] 1 (pB (l.any (fun x => !(ocB q x)))) [(0,(.box 96 [(.fn 85 [] [(.rp [(aE q)] 0)])]))]]) (by kernel_rfl) (gc (FMM.fc (ids:=[0]) (bKs l q h0 h1) (by kernel_rfl)) gn)
theorem bQz(l:List Int)(q:List Int)(hl:l.length≤1000)(he:∀ x∈l,q.length≤1000){base:Nat}:FV Tp 84 [.p (aE l),(.fn 85 [] [(.rp [(aE q)] 0)])] base (pB (l.all (ocB q))) []:=bQy hl he (by rw [List.all_eq_not_any_not])
def gP(dl:Int)(sk:Lqq)(dc:Lqq)(u:List Int)(i:Int):St:=⟨fr 45 [(1,(.p (aE u))),(6,(.rp (aH dl (aB sk) (aB dc)) 0)),(9,(pI i))],[]⟩
theorem bRa{u:List Int}{i'0:Int}{R1:Lqq}{T2:Lqb}(h0:bQ dl sk dc)(h1:bZ (aB dc))(h2:u.length≤1000)(h3:∀ x∈u,(aI dl (aB dc)).length≤1000)(h4:(u.all (ocB (aI dl (aB dc))))=true)(hl5:aJ Tp 0 aHr (gP dl sk dc u (1:Int)) (.exit 0) (gP dl sk dc u i'0))(h6:bQt dl (aB sk) (aB dc) (aE u) R1 ([]:Lqb) T2){base:Nat}:FV Tp 21 [(.p (.agg (cF dl sk dc))),(.p (aE u))] base (.tup [(.own base),(pI 0)]) [(base,(.row 48 R1.length (R1.flatten.map aA)))]:=by
 exact FV.fin Tryz.func21 rfl (o:=[.c (.tup [(.rp (aH dl (aB sk) (aB dc)) 0),(pI 0)]) [],bF,.c (.own 1) [(1,(.row 3 ((aI dl (aB dc)).length) ((aI dl (aB dc)).map aA)))],.g 2 ⟨[],[0],[1,2],[]⟩,.c (pB (u.all (ocB (aI dl (aB dc))))) [],bF,.k 4 ⟨(rng [(0,1),(2,4),(7,2),(10,30)]),[],[],[]⟩ (.exit 0) (gP dl sk dc u i'0),.c iB (vU dl (aB sk) (aB dc) (aE u) ([]:Lqb)),.c (.own 7) [(0,(vB0 dl (aB sk) (aB dc))),(1,(.box 33 [(.p (aE u))])),(2,vB2),(3,(.mp (aG T2) T2.length)),(4,(.box 207 [(.mp 3)])),(5,(vB5 dl (aB sk) (aB dc))),(6,vB6),(7,(.row 48 R1.length (R1.flatten.map aA)))]]) (l:=[FC Tp 86 [(.rp (aH dl (aB sk) (aB dc)) 0),iB] [(4,(.box 207 [(.mp 3)])),(5,(vB5 dl (aB sk) (aB dc))),(0,(vB0 dl (aB sk) (aB dc))),(2,vB2),(6,vB6),(1,(.box 33 [(.p (aE u))])),(3,(.mp (aG ([]:Lqb)) 0))] 7 (.own 7) [(0,(vB0 dl (aB sk) (aB dc))),(1,(.box 33 [(.p (aE u))])),(2,vB2),(3,(.mp (aG T2) T2.length)),(4,(.box 207 [(.mp 3)])),(5,(vB5 dl (aB sk) (aB dc))),(6,vB6),(7,(.row 48 R1.length (R1.flatten.map aA)))],FC Tp 87 [(.rp (aH dl (aB sk) (aB dc)) 0),(.p (aE u))] [] 0 iB (vU dl (aB sk) (aB dc) (aE u) ([]:Lqb)),_,_,_,_,_,_]) (by kernel_rfl) (gc (FMM.fc (ids:=[0,1,2,3,4,5,6]) h6 (by kernel_rfl)) (gc (FMM.fcN (k:=7) rfl (ids:=[]) (pM (dl:=dl) (sk:=(aB sk)) (dc:=(aB dc)) (on:=u.length) (ol:=(u.map aA))) (by kernel_rfl)) (gc hl5.code (gc (aY h4) (gc (fk 1 (bQz u (aI dl (aB dc)) h2 h3) rfl) (gc (fk 1 (qY (dl:=dl) (sk:=(aB sk)) (dc:=(aB dc)) h1) rfl) (gc bEu (gc (fk 1 (iC dl sk dc h0) rfl) gn))))))))
theorem aXt{u:List Int}{i x100 x101:Int}(h0:i<(u.length:Int))(h1:u[i.toNat]? = some x100)(h2:0≤i)(h3:inR (i-1))(h4:u[(i-1).toNat]? = some x101)(h5:0≤(i-1))(h6:x100≤x101):aC Tp 0 aHr (gP dl sk dc u i) .ret (cE (gP dl sk dc u i) [(4,(.p cC)),(5,(pI 4))]):=by
 exact aC.fin (g:=⟨(rng [(0,1),(2,2),(7,2),(10,30)]),[],[],[]⟩) (o:=[bT,.x (aA x100),.x (aA x101),bT]) (l:=[_,(u.map aA)[((i-1).toNat*1)]? = some (aA x101),_,_,(u.map aA)[(i.toNat*1)]? = some (aA x100),_,_]) (by kernel_rfl) (gc (aLk h6) (gc (pC (i:=(i-1).toNat) h4) (gc (pD (g:=aA) h5 h4) (gc h3 (gc (pC (i:=i.toNat) h1) (gc (pD (g:=aA) h2 h1) (gc (aZ h0) gn)))))))
theorem aXu{u:List Int}{i x100 x101 i':Int}(h0:i<(u.length:Int))(h1:u[i.toNat]? = some x100)(h2:0≤i)(h3:inR (i-1))(h4:u[(i-1).toNat]? = some x101)(h5:0≤(i-1))(h6:x101<x100)(h7:inR (i+1))(ei':i'=(i+1)):aC Tp 0 aHr (gP dl sk dc u i) .normal (gP dl sk dc u i'):=by
 subst ei';exact aC.fin (g:=⟨(rng [(0,1),(2,4),(7,2),(10,30)]),[],[],[]⟩) (o:=[bT,.x (aA x100),.x (aA x101),bF]) (l:=[_,_,(u.map aA)[((i-1).toNat*1)]? = some (aA x101),_,_,(u.map aA)[(i.toNat*1)]? = some (aA x100),_,_]) (by kernel_rfl) (gc h7 (gc (qU h6) (gc (pC (i:=(i-1).toNat) h4) (gc (pD (g:=aA) h5 h4) (gc h3 (gc (pC (i:=i.toNat) h1) (gc (pD (g:=aA) h2 h1) (gc (aZ h0) gn))))))))
theorem aFk{u:List Int}{i:Int}(h0:(u.length:Int)≤i):aC Tp 0 aHr (gP dl sk dc u i) (.exit 0) (gP dl sk dc u i):=by
 exact aC.fin (g:=⟨(rng [(0,1),(2,4),(7,2),(10,30)]),[],[],[]⟩) (o:=[bF]) (l:=[_]) (by kernel_rfl) (gc (bJ h0) gn)
end
section

def eR(q:List Int)(s i:Nat):List Int:=((List.range i).filter fun j=>s / 2 ^ j % 2 == 1).map fun j=>q.getD j 0
def fG(q:List Int):Lqq:=(List.range (2 ^ q.length)).map fun s=>eR q s q.length

theorem bKc{l:Nat}{q:List Int}(h0:0≤(q.length:Int)∧(q.length:Int)≤60∧IntKind.i64 = .i64)(h1:inR ((1:Int)*2 ^ ((q.length:Int).toNat))):dY Tp 0 (sub (cd Tryz.f182) [0]) ⟨fr 35 [(0,(.yld l)),(1,(.rp [(aE q)] 0))],[]⟩ .normal ⟨fr 35 [(0,(.yld l)),(1,(.rp [(aE q)] 0)),(8,(pI ((1:Int)*2 ^ ((q.length:Int).toNat)))),(9,(pI 0))],[]⟩:=by
 exact dY.fin (g:=⟨(rng [(2,6),(10,25)]),[],[],[]⟩) (o:=[.x (aE q)]) (l:=[_,_,[(aE q)][0]? = some (aE q)]) (by kernel_rfl) (gc h1 (gc h0 (gc rfl gn)))
theorem bKd{l:Nat}{q:List Int}{n8:Int}{s:Nat}:dY Tp 0 (sub (cd Tryz.f182) [1,0,0,0]) ⟨fr 35 [(0,(.yld l)),(1,(.rp [(aE q)] 0)),(8,(pI n8)),(9,(pI (s:Int)))],[]⟩ .normal ⟨fr 35 [(0,(.yld l)),(1,(.rp [(aE q)] 0)),(8,(pI n8)),(9,(pI (s:Int))),(10,(pB (decide ((s:Int)<n8))))],[]⟩:=by
 exact dY.fin (g:=⟨(rng [(2,6),(11,24)]),[],[],[]⟩) (o:=[]) (l:=[]) (by kernel_rfl) (gn)
theorem bKe{l:Nat}{q:List Int}{n8:Int}{s:Nat}:dY Tp 0 (sub (cd Tryz.f182) [1,0,0,1,1,0,0,0]) ⟨fr 35 [(0,(.yld l)),(1,(.rp [(aE q)] 0)),(8,(pI n8)),(9,(pI (s:Int)))],[]⟩ .normal ⟨fr 35 [(0,(.yld l)),(1,(.rp [(aE q)] 0)),(3,(pI (s:Int))),(8,(pI n8)),(9,(pI (s:Int)))],[]⟩:=by
 exact dY.fin (g:=⟨(rng [(2,1),(4,4),(10,25)]),[],[],[]⟩) (o:=[]) (l:=[]) (by kernel_rfl) (gn)
theorem bKf{l:Nat}{q:List Int}{n8:Int}{s:Nat}:dY Tp 0 (sub (cd Tryz.f182) [1,0,0,1,1,0,0,1,0]) ⟨fr 35 [(0,(.yld l)),(1,(.rp [(aE q)] 0)),(3,(pI (s:Int))),(8,(pI n8)),(9,(pI (s:Int)))],[]⟩ .normal ⟨fr 35 [(0,(.yld l)),(1,(.rp [(aE q)] 0)),(3,(pI (s:Int))),(4,(.p cC)),(8,(pI n8)),(9,(pI (s:Int)))],[]⟩:=by
 exact dY.fin (g:=⟨(rng [(2,1),(5,3),(10,25)]),[],[],[]⟩) (o:=[]) (l:=[]) (by kernel_rfl) (gn)
theorem bKg{l:Nat}{q:List Int}{n8:Int}{s:Nat}:dY Tp 0 (sub (cd Tryz.f182) [1,0,0,1,1,0,0,1,1,0,0]) ⟨fr 35 [(0,(.yld l)),(1,(.rp [(aE q)] 0)),(3,(pI (s:Int))),(4,(.p cC)),(8,(pI n8)),(9,(pI (s:Int)))],[]⟩ .normal ⟨fr 35 [(0,(.yld l)),(1,(.rp [(aE q)] 0)),(3,(pI (s:Int))),(4,(.own 0)),(8,(pI n8)),(9,(pI (s:Int))),(13,(pI (q.length:Int))),(14,(pI 0))],[some (.row 3 0 [])]⟩:=by
 exact dY.fin (g:=⟨(rng [(2,1),(5,3),(10,3),(15,20)]),[0],[],[(4,3)]⟩) (o:=[.x (aE q)]) (l:=[[(aE q)][0]? = some (aE q)]) (by kernel_rfl) (gc rfl gn)
theorem bKh{l:Nat}{q:List Int}{n8:Int}{s:Nat}{o:List Int}{i:Nat}:dY Tp 0 (sub (cd Tryz.f182) [1,0,0,1,1,0,0,1,1,0,1,0,0,0]) ⟨fr 35 [(0,(.yld l)),(1,(.rp [(aE q)] 0)),(3,(pI (s:Int))),(4,(.own 0)),(8,(pI n8)),(9,(pI (s:Int))),(13,(pI (q.length:Int))),(14,(pI (i:Int)))],[some (.row 3 o.length (o.map aA))]⟩ .normal ⟨fr 35 [(0,(.yld l)),(1,(.rp [(aE q)] 0)),(3,(pI (s:Int))),(4,(.own 0)),(8,(pI n8)),(9,(pI (s:Int))),(13,(pI (q.length:Int))),(14,(pI (i:Int))),(15,(pB (decide ((i:Int)<(q.length:Int)))))],[some (.row 3 o.length (o.map aA))]⟩:=by
 exact dY.fin (g:=⟨(rng [(2,1),(5,3),(10,3),(16,19)]),[0],[],[]⟩) (o:=[]) (l:=[]) (by kernel_rfl) (gn)
theorem bKi{l:Nat}{q:List Int}{n8:Int}{s:Nat}{o:List Int}{i:Nat}:dY Tp 0 (sub (cd Tryz.f182) [1,0,0,1,1,0,0,1,1,0,1,0,0,1,1,0,0,0]) ⟨fr 35 [(0,(.yld l)),(1,(.rp [(aE q)] 0)),(3,(pI (s:Int))),(4,(.own 0)),(8,(pI n8)),(9,(pI (s:Int))),(13,(pI (q.length:Int))),(14,(pI (i:Int)))],[some (.row 3 o.length (o.map aA))]⟩ .normal ⟨fr 35 [(0,(.yld l)),(1,(.rp [(aE q)] 0)),(3,(pI (s:Int))),(4,(.own 0)),(5,(pI (i:Int))),(8,(pI n8)),(9,(pI (s:Int))),(13,(pI (q.length:Int))),(14,(pI (i:Int)))],[some (.row 3 o.length (o.map aA))]⟩:=by
 exact dY.fin (g:=⟨(rng [(2,1),(6,2),(10,3),(15,20)]),[0],[],[]⟩) (o:=[]) (l:=[]) (by kernel_rfl) (gn)
theorem bKj{l:Nat}{q:List Int}{n8:Int}{s:Nat}{o:List Int}{i:Nat}(h0:0≤((s:Int).fdiv (2 ^ min ((i:Int).toNat) (IntKind.bits .i64)))∧((s:Int).fdiv (2 ^ min ((i:Int).toNat) (IntKind.bits .i64)))≤9223372036854775807∧(1:Int)=1∧IntKind.i64 = .i64):dY Tp 0 (sub (cd Tryz.f182) [1,0,0,1,1,0,0,1,1,0,1,0,0,1,1,0,0,1,0]) ⟨fr 35 [(0,(.yld l)),(1,(.rp [(aE q)] 0)),(3,(pI (s:Int))),(4,(.own 0)),(5,(pI (i:Int))),(8,(pI n8)),(9,(pI (s:Int))),(13,(pI (q.length:Int))),(14,(pI (i:Int)))],[some (.row 3 o.length (o.map aA))]⟩ .normal ⟨fr 35 [(0,(.yld l)),(1,(.rp [(aE q)] 0)),(3,(pI (s:Int))),(4,(.own 0)),(5,(pI (i:Int))),(8,(pI n8)),(9,(pI (s:Int))),(13,(pI (q.length:Int))),(14,(pI (i:Int))),(21,(pB ((((s:Int).fdiv (2 ^ min ((i:Int).toNat) (IntKind.bits .i64))) % 2) == (1:Int))))],[some (.row 3 o.length (o.map aA))]⟩:=by
 exact dY.fin (g:=⟨(rng [(2,1),(6,2),(10,3),(15,6),(22,13)]),[0],[],[]⟩) (o:=[]) (l:=[_,0≤(i:Int)]) (by kernel_rfl) (gc h0 (gc (kQ2 _) gn))
theorem bKk{l:Nat}{q:List Int}{n8:Int}{s:Nat}{o:List Int}{i:Nat}{x0:Int}(h0:q[i]? = some x0)(h1:[(aA x0)].length=1*1∧o.length+1≤1000000):dY Tp 0 (sub (cd Tryz.f182) [1,0,0,1,1,0,0,1,1,0,1,0,0,1,1,0,0,1,1,0]) ⟨fr 35 [(0,(.yld l)),(1,(.rp [(aE q)] 0)),(3,(pI (s:Int))),(4,(.own 0)),(5,(pI (i:Int))),(8,(pI n8)),(9,(pI (s:Int))),(13,(pI (q.length:Int))),(14,(pI (i:Int)))],[some (.row 3 o.length (o.map aA))]⟩ .normal ⟨fr 35 [(0,(.yld l)),(1,(.rp [(aE q)] 0)),(3,(pI (s:Int))),(4,(.own 0)),(8,(pI n8)),(9,(pI (s:Int))),(13,(pI (q.length:Int))),(14,(pI (i:Int)))],[some (.row 3 (o.length+1) ((o.map aA)++[(aA x0)]))]⟩:=by
 exact dY.fin (g:=⟨(rng [(2,1),(5,3),(10,3),(15,20)]),[2],[],[]⟩) (o:=[.x (aE q),.x (aA x0)]) (l:=[_,_,_,[(aE q)][0]? = some (aE q)]) (by kernel_rfl) (gc h1 (gc (atm aA h0) (gc (ixn aA h0) (gc rfl gn))))
theorem bKl{l:Nat}{q:List Int}{n8:Int}{s:Nat}{o:List Int}{i:Nat}(h0:inR (((i+1):Nat):Int)):dY Tp 0 (sub (cd Tryz.f182) [1,0,0,1,1,0,0,1,1,0,1,0,0,1,1,1]) ⟨fr 35 [(0,(.yld l)),(1,(.rp [(aE q)] 0)),(3,(pI (s:Int))),(4,(.own 0)),(8,(pI n8)),(9,(pI (s:Int))),(13,(pI (q.length:Int))),(14,(pI (i:Int)))],[some (.row 3 o.length (o.map aA))]⟩ .normal ⟨fr 35 [(0,(.yld l)),(1,(.rp [(aE q)] 0)),(3,(pI (s:Int))),(4,(.own 0)),(8,(pI n8)),(9,(pI (s:Int))),(13,(pI (q.length:Int))),(14,(pI (((i+1):Nat):Int)))],[some (.row 3 o.length (o.map aA))]⟩:=by
 exact dY.fin (g:=⟨(rng [(2,1),(5,3),(10,3),(15,20)]),[0],[],[]⟩) (o:=[]) (l:=[_]) (by kernel_rfl) (gc h0 gn)
theorem bKm{l:Nat}{q:List Int}{n8:Int}{s:Nat}(h0:inR (((s+1):Nat):Int)):dY Tp 0 (sub (cd Tryz.f182) [1,0,0,1,1,1]) ⟨fr 35 [(0,(.yld l)),(1,(.rp [(aE q)] 0)),(8,(pI n8)),(9,(pI (s:Int)))],[]⟩ .normal ⟨fr 35 [(0,(.yld l)),(1,(.rp [(aE q)] 0)),(8,(pI n8)),(9,(pI (((s+1):Nat):Int)))],[]⟩:=by
 exact dY.fin (g:=⟨(rng [(2,6),(10,25)]),[],[],[]⟩) (o:=[]) (l:=[_]) (by kernel_rfl) (gc h0 gn)
end
end KV
end Go.Proofs
section
namespace Go.Proofs
open Go.RowKit
namespace KV
attribute [local go_sem] Oper.semAt_some
theorem zJ(l:List (Nat × AV)):∀ (n k:Nat),(frm l n k).length=n
 | 0,_=>rfl
 | n+1,k=>by unfold frm;rw [pY,zJ]
theorem aPk(l:List (Nat × AV)):∀ (n k j:Nat) (h:j<(frm l n k).length),(frm l n k)[j]=look l (k+j)
 | 0,_,j,h=>by simp [frm] at h
 | n+1,k,0,h=>rfl
 | n+1,k,j+1,h=>by
  have:=aPk l n (k+1) j (by rw [zJ] at h ⊢;omega)
  rw [show k+(j+1)=k+1+j by omega]
  exact this
theorem aLp{C:Cx}{M:Mem}{w:World}{us:Array Value}:∀ {l:List (Nat × AV)},(∀ p∈l,Rep C M w p.2 (us.getD p.1 undef))→∀ j,Rep C M w (look l j) (us.getD j undef)
 | [],_,j => .any _
 | (i,x)::r,h,j=>by
  unfold look
  split
  ·rename_i hb
   rw [← Nat.eq_of_beq_eq_true hb];exact h (i,x) (gZ ..)
  ·exact aLp (fun p hp=>h p (kQ6 _ hp)) j
theorem aLq{C:Cx}{M:Mem}{w:World}{us:Array Value}{n:Nat}{l:List (Nat × AV)}(hs:us.size=n)(h:∀ p∈l,Rep C M w p.2 (us.getD p.1 undef)):eB C M w (fr n l) us:=by
 refine ⟨by rw [hs,zJ],fun i hi => ?_⟩
 rw [aPk,gJ];exact aLp h _
theorem tN{C:Cx}{M:Mem}{w:World}{us:Array Value}{n:Nat}{l:List (Nat × AV)}(h:eB C M w (fr n l) us)(i:Nat)(hi:i<n):Rep C M w (look l i) (us.getD i undef):=by
 have:=h.rep i (by rw [zJ];exact hi)
 rwa [aPk,gJ] at this

section
variable {P:Program}
def InK(Cv:Cx)(V:World)(v0:Value)(st:St)(a:Act)(w:World):Prop:=Sim Tp Cv [] V st a w∧a.tmps.getD 1 undef=v0∧a.defers=[]
theorem InK.step{Cv:Cx}{V:World}{v0:Value}{c:Code}{st st':St}{a:Act}{w:World}{n:Nat}{K:Act→World→Prop}{Q:Exit→Act→World→Prop}(h:dY Tp 0 c st .normal st')(hw:wrR c 1=false)(hi:InK Cv V v0 st a w)
  (hK:∀ a' w',InK Cv V v0 st' a' w'→K a' w'):c.wpIn (Fen none) n Tp (Exit.then K Q) a w :=
 wpIn_mono (h Cv [] V a w (by simp) hi.1 none n) fun e a' w' hq=>by
  obtain ⟨he,hs,hk⟩:=hq;subst he;exact hK a' w' ⟨hs,(hk.1 1 hw).trans hi.2.1,hk.2.trans hi.2.2⟩
end
noncomputable abbrev cO:Code:=cd Tryz.f182
abbrev stA(l:Nat)(q:List Int)(n8:Int)(s:Nat):St:=⟨fr 35 [(0,.yld l),(1,.rp [aE q] 0),(8,.p (aA n8)),(9,.p (aA (s:Int)))],[]⟩
abbrev stB(l:Nat)(q:List Int)(n8:Int)(s:Nat)(o:List Int)(i:Nat):St:=⟨fr 35 [(0,.yld l),(1,.rp [aE q] 0),(3,.p (aA (s:Int))),(4,.own 0),(8,.p (aA n8)),(9,.p (aA (s:Int))),(13,.p (aA (q.length:Int))),(14,.p (aA (i:Int)))],[some (.row 3 o.length (o.map aA))]⟩
theorem aXj(q:List Int)(s i:Nat):eR q s (i+1)=eR q s i++if s / 2 ^ i % 2 == 1 then [q.getD i 0] else []:=by
 unfold eR;rw [List.range_succ,nG,hZ]
 congr 1
 cases h:s / 2 ^ i % 2 == 1 <;> simp [h]
theorem aLr(q:List Int)(s i:Nat):(eR q s i).length≤i:=by
 unfold eR;rw [kQ9];have:=uZ (fun j=>s / 2 ^ j % 2 == 1) (List.range i)
 rwa [bJg] at this
theorem bKb(s i:Nat)(hi:i≤60):(s:Int).fdiv (2 ^ min ((i:Int).toNat) (IntKind.bits .i64))=((s / 2 ^ i:Nat):Int):=by
 have hb:IntKind.bits .i64=64:=rfl;rw [bDz,hb,Nat.min_eq_left (by omega),Int.fdiv_eq_ediv_of_nonneg _ (by exact_mod_cast Nat.zero_le _)]
 push_cast
 rfl
theorem bEn{Cv:Cx}{V:World}{v0:Value}{l:Nat}{q:List Int}{n8:Int}{s:Nat}(hq:q.length≤60)(hs:s≤9223372036854775807){n:Nat}{K:Act→World→Prop}{Q:Exit→Act→World→Prop}{a:Act}{w:World}
  (hi:InK Cv V v0 (stB l q n8 s [] 0) a w) (hK:∀ a' w',InK Cv V v0 (stB l q n8 s (eR q s q.length) q.length) a' w'→K a' w') :
  (Code.block 2 (.loop (sub cO [1,0,0,1,1,0,0,1,1,0,1,0,0]))).wpIn (Fen none) n Tp (Exit.then K Q) a w:=by
 refine wpIn_block ?_;refine wpIn_loop_ghost (fun k a w=>∃ i,i≤q.length∧k=q.length-i∧InK Cv V v0 (stB l q n8 s (eR q s i) i) a w) q.length ⟨0,by omega,by omega,hi⟩ ?_
 rintro k a w ⟨i,hil,rfl,hI⟩;have e1:sub cO [1,0,0,1,1,0,0,1,1,0,1,0,0] = .seq (sub cO [1,0,0,1,1,0,0,1,1,0,1,0,0,0]) (.seq (.cond (.tmp 15) .skip (.exit 2)) (.seq (.block 3 (.seq (sub cO [1,0,0,1,1,0,0,1,1,0,1,0,0,1,1,0,0,0]) (.seq (sub cO [1,0,0,1,1,0,0,1,1,0,1,0,0,1,1,0,0,1,0]) (.cond (.tmp 21) (sub cO [1,0,0,1,1,0,0,1,1,0,1,0,0,1,1,0,0,1,1,0]) .skip)))) (sub cO [1,0,0,1,1,0,0,1,1,0,1,0,0,1,1,1]))):=by kernel_rfl
 rw [e1];refine wpIn_seq ?_;refine InK.step bKh (by kernel_rfl) hI fun a1 w1 h1 => ?_
 refine wpIn_seq ?_;obtain ⟨⟨C1,hS1,_⟩,_⟩:=id h1;have hc15:a1.eval (.tmp 15) = .bool (decide ((i:Int)<(q.length:Int))):=by
  have:=tN hS1 15 (by omega)
  show a1.tmps.getD 15 undef=_;generalize a1.tmps.getD 15 undef=u at this
  have h2:Rep C1 _ w1 (.p (.v (.bool (decide ((i:Int)<(q.length:Int)))))) u:=this;cases h2 with
  | p _ _ h=>cases h;rfl
 by_cases hlt:i<q.length
 ·refine wpIn_cond_true (by rw [hc15,decide_eq_true (by omega)]) (wpIn_skip ?_)
  show Code.wpIn _ _ _ _ _ _ _;have h1':InK Cv V v0 (stB l q n8 s (eR q s i) i) a1 w1:=⟨(eK (g:=⟨[15],[0],[],[]⟩) (k:=0) (dO _) (by kernel_rfl) h1.1),h1.2⟩
  refine wpIn_seq ?_;have hsd:=bKb s i (by omega)
  have hx:q[i]? = some (q.getD i 0):=by rw [kQ4,kQ0 hlt];rfl
  have hpl:=aLr q s i;have hfin:∀ a2 w2,InK Cv V v0 (stB l q n8 s (eR q s (i+1)) i) a2 w2→(sub cO [1,0,0,1,1,0,0,1,1,0,1,0,0,1,1,1]).wpIn (Fen none) n Tp (Exit.then (fun a' w'=>∃ n',n'<q.length-i∧∃ i',i'≤q.length∧n'=q.length-i'∧InK Cv V v0 (stB l q n8 s (eR q s i') i') a' w') (Exit.inBlock 2 (Exit.then K Q))) a2 w2:=fun a2 w2 h2 =>
   InK.step (bKl (aP (by omega))) (by kernel_rfl) h2 fun a3 w3 h3=>⟨q.length-(i+1),by omega,i+1,by omega,rfl,h3⟩
  refine wpIn_block ?_;refine wpIn_seq ?_;refine InK.step bKi (by kernel_rfl) h1' fun a2 w2 h2 => ?_
  refine wpIn_seq ?_;have hle:s / 2 ^ i≤s:=Nat.div_le_self _ _;refine InK.step (bKj (s:=s) (i:=i) ⟨by rw [hsd];exact kQ2 _,by rw [hsd];exact Int.ofNat_le.2 (gK hle hs),rfl,rfl⟩) (by kernel_rfl) h2 fun a3 w3 h3 => ?_
  obtain ⟨⟨C3,hS3,_⟩,_⟩:=id h3;have hc21:a3.eval (.tmp 21) = .bool (s / 2 ^ i % 2 == 1):=by
   have:=tN hS3 21 (by omega)
   show a3.tmps.getD 21 undef=_;generalize a3.tmps.getD 21 undef=u at this
   have h2:Rep C3 _ w3 (.p (.v (.bool (((s:Int).fdiv (2 ^ min ((i:Int).toNat) (IntKind.bits .i64))) % 2 == 1)))) u:=this;cases h2 with
   | p _ _ h =>
    cases h;rw [hsd]
    congr 1
    generalize s / 2 ^ i=z;rw [Bool.eq_iff_iff,beq_iff_eq,beq_iff_eq];omega
  have h3':InK Cv V v0 ⟨fr 35 [(0,.yld l),(1,.rp [aE q] 0),(3,.p (aA (s:Int))),(4,.own 0),(5,.p (aA (i:Int))),(8,.p (aA n8)),(9,.p (aA (s:Int))),(13,.p (aA (q.length:Int))),(14,.p (aA (i:Int)))],[some (.row 3 (eR q s i).length ((eR q s i).map aA))]⟩ a3 w3:=⟨(eK (g:=⟨[21],[0],[],[]⟩) (k:=0) (dO _) (by kernel_rfl) h3.1),h3.2⟩
  have hp:=aXj q s i;cases hb:s / 2 ^ i % 2 == 1 with
  | true =>
   refine wpIn_cond_true (by rw [hc21,hb]) ?_
   rw [hb,if_pos rfl] at hp
   refine wpIn_mono (bKk (o:=eR q s i) hx ⟨rfl,by omega⟩ Cv [] V a3 w3 (by simp) h3'.1 none n) ?_
   rintro e a4 w4 ⟨rfl,h4,hk4⟩;refine hfin a4 w4 ⟨?_,(hk4.1 1 (by kernel_rfl)).trans h3'.2.1,hk4.2.trans h3'.2.2⟩
   have e8:(stB l q n8 s (eR q s (i+1)) i)=⟨fr 35 [(0,.yld l),(1,.rp [aE q] 0),(3,.p (aA (s:Int))),(4,.own 0),(8,.p (aA n8)),(9,.p (aA (s:Int))),(13,.p (aA (q.length:Int))),(14,.p (aA (i:Int)))],[some (.row 3 ((eR q s i).length+1) ((eR q s i).map aA++[aA (q.getD i 0)]))]⟩:=by
    rw [hp];unfold stB;rw [lG,hZ];rfl
   rw [e8];exact h4
  | false =>
   refine wpIn_cond_false (by rw [hc21,hb]) (wpIn_skip ?_)
   rw [hb,if_neg (by simp),List.append_nil] at hp
   refine hfin a3 w3 ?_;rw [hp];exact ⟨(eK (g:=⟨[5],[0],[],[]⟩) (k:=0) (dO _) (by kernel_rfl) h3'.1),h3'.2⟩
 ·obtain rfl:i=q.length:=by omega
  refine wpIn_cond_false (by rw [hc15,decide_eq_false (by omega)]) (wpIn_exit ?_)
  show Exit.inBlock 2 (Exit.then K Q) (.exit 2) a1 w1
  unfold Exit.inBlock;dsimp only;rw [if_pos rfl];exact hK a1 w1 ⟨(eK (g:=⟨[15],[0],[],[]⟩) (k:=0) (dO _) (by kernel_rfl) h1.1),h1.2⟩
theorem aHp{a:Act}{W:World}{l id t0 t1 t2 t3:Nat}{ts:Array TypeId}{p0 p1 p2 p3:String}{f0 f1 f2 f3:Array Edge}{u:Value}{A B:World→Prop}{K:Act→World→Prop}{Q:Exit→Act→World→Prop}
  (hs:a.tmps.size=35) (h0:a.tmps.getD 0 undef = .func (.yield l) #[] #[]) (h4:a.tmps.getD 4 undef=u)
  (hy:YieldAt (Fen none) 1 Tp l #[u] W (fun e W'=>(e = .returned (.bool true)∧A W')∨(e = .returned (.bool false)∧B W')))
  (hA:∀ a' W',A W'→a'.defers=a.defers→a'.tmps.size=35→(∀ i,i<30→a'.tmps.getD i undef=a.tmps.getD i undef)→a'.tmps.getD 33 undef = .bool false→K a' W')
  (hB:∀ a' W',B W'→a'.defers=a.defers→a'.tmps.getD 33 undef = .bool true→K a' W') :
  (Code.region id #[{ dst:=some 30,op := .move (.tmp 0),type:=t0,pos:=p0,after:=f0,guard:=none },{ dst:=some 31,op := .move (.tmp 4),type:=t1,pos:=p1,after:=f1,guard:=none },
   {dst:=some 32,op := .call { callee := .value (.tmp 30),args := #[.tmp 31],argTypes:=ts },type:=t2,pos:=p2,after:=f2,guard:=none },{ dst:=some 33,op := .unOp .not 4 (.tmp 32),type:=t3,pos:=p3,after:=f3,guard:=none }] false).wpIn (Fen none) 2 Tp (Exit.then K Q) a W:=by
 refine wpIn_region_lit (wpListIn_plain rfl fun K1 hK1 => ?_)
 unfold Oper.wpIn;refine ⟨fun f _=>trivial,?_⟩
 rw [Oper.semAt_plain _ _ _ (by intro c hc';cases hc')]
 simp only [execOp,Sem.run_pure];refine hK1 _ _ (wpListIn_plain rfl fun K2 hK2 => ?_)
 unfold Oper.wpIn;refine ⟨fun f _=>trivial,?_⟩
 rw [Oper.semAt_plain _ _ _ (by intro c hc';cases hc')]
 simp only [execOp,Sem.run_pure];refine hK2 _ _ (wpListIn_plain rfl fun K3 hK3 => ?_)
 unfold Oper.wpIn;refine ⟨fun f _=>trivial,?_⟩
 rw [Oper.semAt_plain _ _ _ (by intro c hc';cases hc')]
 obtain ⟨fn,tmps,assign,body,hrun,hR⟩:=hy;have e30:(((a.put (some 30) (a.eval (.tmp 0))).put (some 31) ((a.put (some 30) (a.eval (.tmp 0))).eval (.tmp 4)))).eval (.tmp 30) = .func (.yield l) #[] #[]:=by
  show ((a.tmps.setIfInBounds 30 (a.tmps.getD 0 undef)).setIfInBounds 31 _).getD 30 undef=_;rw [h0];simp [kQ1,Array.getElem?_setIfInBounds,hs]
 have e31:(((a.put (some 30) (a.eval (.tmp 0))).put (some 31) ((a.put (some 30) (a.eval (.tmp 0))).eval (.tmp 4)))).eval (.tmp 31)=u:=by
  show ((a.tmps.setIfInBounds 30 (a.tmps.getD 0 undef)).setIfInBounds 31 ((a.tmps.setIfInBounds 30 (a.tmps.getD 0 undef)).getD 4 undef)).getD 31 undef=_;rw [← h4];simp [kQ1,Array.getElem?_setIfInBounds,hs]
 have e45:∀ i,i<30→(((a.put (some 30) (a.eval (.tmp 0))).put (some 31) ((a.put (some 30) (a.eval (.tmp 0))).eval (.tmp 4)))).tmps.getD i undef=a.tmps.getD i undef:=fun i hi=>by
  rw [oH (fun e=>by cases e;omega),oH (fun e=>by cases e;omega)]
 have eD:(((a.put (some 30) (a.eval (.tmp 0))).put (some 31) ((a.put (some 30) (a.eval (.tmp 0))).eval (.tmp 4)))).defers=a.defers:=rfl;have eS:(((a.put (some 30) (a.eval (.tmp 0))).put (some 31) ((a.put (some 30) (a.eval (.tmp 0))).eval (.tmp 4)))).tmps.size=35:=by
  show ((a.tmps.setIfInBounds _ _).setIfInBounds _ _).size=35;simp [hs]
 revert e30 e31 e45 eD eS;dsimp only;generalize (((a.put (some 30) (a.eval (.tmp 0))).put (some 31) ((a.put (some 30) (a.eval (.tmp 0))).eval (.tmp 4))))=a2;intro e30 e31 e45 eD eS;have er:Sem.run Tp (execOp a2.eval { dst:=some 32,op := .call { callee := .value (.tmp 30),args := #[.tmp 31],argTypes:=ts },type:=t2,pos:=p2,after:=f2,guard:=none }) W = .ok (.round l fn tmps assign body) W:=by
  rw [← hrun];simp only [execOp,resolve,Deferred.ofValue,e30,e31,List.map_toArray,iJ,List.map_nil,Sem.run_bind,Sem.run_pure,invoke];simp
 rw [er,Oper.uponIn_round];refine ⟨fun h=>by simp [Fen,Fence.wide] at h,hR.mono ?_⟩
 have last:∀ (b:Bool) (w3:World),(∀ a',a'.defers=a.defers→a'.tmps.size=35→(∀ i,i<30→a'.tmps.getD i undef=a.tmps.getD i undef)→a'.tmps.getD 33 undef = .bool (!b)→K a' w3)→K3 (a2.put (some 32) (.bool b)) w3:=fun b w3 hfin=>by
  refine hK3 _ _ (wpListIn_plain rfl fun K4 hK4 => ?_)
  unfold Oper.wpIn;refine ⟨fun f _=>trivial,?_⟩
  rw [Oper.semAt_plain _ _ _ (by intro c hc';cases hc')]
  have e32:(a2.put (some 32) (.bool b)).eval (.tmp 32) = .bool b:=by
   show (a2.tmps.setIfInBounds 32 _).getD 32 undef=_;simp [kQ1,eS]
  have eu:Sem.run Tp (execOp (a2.put (some 32) (.bool b)).eval { dst:=some 33,op := .unOp .not 4 (.tmp 32),type:=t3,pos:=p3,after:=f3,guard:=none }) w3 = .ok (.value (.bool !b)) w3:=by
   simp only [execOp,e32];rfl
  rw [eu];refine hK4 _ _ (wpListIn_nil (hfin _ eD ?_ (fun i hi => ?_) ?_))
  ·show ((a2.tmps.setIfInBounds _ _).setIfInBounds _ _).size=35
   simp [eS]
  ·rw [oH (fun e=>by cases e;omega),oH (fun e=>by cases e;omega)]
   exact e45 i hi
  ·show ((a2.tmps.setIfInBounds 32 _).setIfInBounds 33 _).getD 33 undef=_
   simp [kQ1,eS]
 rintro e w3 (⟨rfl,h⟩ | ⟨rfl,h⟩)
 ·exact last true w3 fun a' h1 h2 h3 h4=>hA a' w3 h h1 h2 h3 h4
 ·exact last false w3 fun a' h1 h2 h3 h4=>hB a' w3 h h1 h4
end KV
end Go.Proofs
end
section
namespace Go.Proofs
open Go.RowKit
namespace KV
structure Lp (l:Nat) (v0:Value) (n8:Int) (s:Nat) (a:Act):Prop where
 size:a.tmps.size=35
 s0:a.tmps.getD 0 undef = .func (.yield l) #[] #[]
 s1:a.tmps.getD 1 undef=v0
 s8:a.tmps.getD 8 undef = .int .i64 n8
 s9:a.tmps.getD 9 undef = .int .i64 (s:Int)
 df:a.defers=[]
abbrev cxF(F:Nat→Prop):Cx:={ ι:=fun _=>none,κ:=fun _=>0,F:=F,R:=[] }
theorem aTb{P:Program}{F:Nat→Prop}{W:World}(hF:∀ b,F b→b<W.heap.size):aR P (cxF F) [] W :=
 ⟨fun _ _ _ _ h=>by simp at h,fun _ _ _ h=>by simp at h,fun _ _ _ h=>by simp at h,fun _ _ _ _ _ h=>by simp at h,fun _ _ _ h=>by simp at h,hF,fun _ _ _ h=>by simp at h⟩
theorem aLn{C:Cx}{M:Mem}{w:World}{n:Int}{u:Value}(h:Rep C M w (.p (aA n)) u):u = .int .i64 n:=by
 cases h with
 | p _ _ h=>cases h;rfl
theorem Lp.ink{F:Nat→Prop}{l:Nat}{v0:Value}{q:List Int}{n8:Int}{s:Nat}{a:Act}{W:World}(h:Lp l v0 n8 s a)(hF:∀ b,F b→b<W.heap.size)(hr:Rep (cxF F) [] W (.rp [aE q] 0) v0):InK (cxF F) W v0 (stA l q n8 s) a W:=by
 refine ⟨⟨cxF F,aLq h.size ?_,aTb hF,Fr.refl _ _ _,?_⟩,h.s1,h.df⟩
 ·intro p hp
  simp only [iW,List.not_mem_nil,or_false] at hp
  rcases hp with rfl | rfl | rfl | rfl
  ·rw [h.s0];exact .yld l
  ·rw [h.s1];exact hr
  ·rw [h.s8];exact .p _ _ (.v _)
  ·rw [h.s9];exact .p _ _ (.v _)
 ·rw [h.df];exact .nil rfl (nV rfl)
theorem InK.lp{Cv:Cx}{V W:World}{l:Nat}{v0:Value}{n8:Int}{s:Nat}{a:Act}{st:St}(h:InK Cv V v0 st a W)(h35:st.t.length=35)(e0:st.t[0]? = some (.yld l))(e8:st.t[8]? = some (.p (aA n8)))(e9:st.t[9]? = some (.p (aA (s:Int)))):Lp l v0 n8 s a:=by
 obtain ⟨⟨C,hS,_⟩,h1,hd⟩:=h;refine ⟨hS.size.trans h35,?_,h1,aLn (hS.at e8),aLn (hS.at e9),hd⟩
 have:=hS.at e0
 revert this;generalize a.tmps.getD 0 undef=u;intro this;cases this;rfl
theorem aLo{C0 C:Cx}{V W:World}{M:Mem}(h:Fr C0 [] V C M W):V.grownBy W none :=
 ⟨h.os,h.tape,h.out,h.size,fun k hk _=>h.keep k hk (fun _ _ h=>by simp at h)⟩
theorem InK.grown{Cv:Cx}{V W:World}{v0:Value}{st:St}{a:Act}(h:InK Cv V v0 st a W):V.grownBy W none:=by
 obtain ⟨⟨C,_,_,hF,_⟩,_⟩:=h;exact aLo hF
theorem InK.kp{Cv:Cx}{V W:World}{v0:Value}{st:St}{a:Act}(h:InK Cv V v0 st a W){F:Nat→Prop}(hF:∀ b,F b→b<V.heap.size):KpG F V W :=
 ⟨h.grown.size,fun b hb=>oI h.grown b (hF b hb)⟩
theorem InK.rowH{F:Nat→Prop}{V W:World}{v0:Value}{st:St}{a:Act}{o:List Int}(h:InK (cxF F) V v0 st a W)(e4:st.t[4]? = some (.own 0))(em:st.m=[some (lQ o)])(hl:o.length≤1000):bEp Tp (o,a.tmps.getD 4 undef) V W:=by
 obtain ⟨⟨C,hS,hM,hF,_⟩,_⟩:=h;refine ⟨hl,C,em ▸ hM,em ▸ hS.at e4,fun b hb => ?_⟩
 rcases hF.new 0 (lQ o) b (by rw [em];rfl) rfl hb with h | ⟨i,o',h,_⟩
 ·exact h
 ·simp at h
theorem aTc{n:Nat}(h:n≤1152921504606846977):inR (n:Int):=by unfold inR;omega
theorem bEm{n:Nat}(h:n≤60):(2:Nat) ^ n≤1152921504606846976:=gK (Nat.pow_le_pow_right (by omega) h) (by decide)
theorem aXg(q:List Int)(s:Nat)(h:s<2 ^ q.length):(fG q).take (s+1)=(fG q).take s++[eR q s q.length]:=by
 rw [List.take_add_one]
 congr 1
 unfold fG;rw [iH,aOs h];rfl
theorem vD(q:List Int):(fG q).length=2 ^ q.length:=by unfold fG;simp
set_option maxHeartbeats 2000000 in
theorem aXh{F:Nat→Prop}{q:List Int}(hq:q.length≤60){l:Nat}{v0:Value}{w:World}(hF:∀ b,F b→b<w.heap.size)(hr:Rep (cxF F) [] w (.rp [aE q] 0) v0){a:Act}(ha:a.tmps.size=35)(ha0:a.tmps.getD 0 undef = .func (.yield l) #[] #[])(ha1:a.tmps.getD 1 undef=v0)(had:a.defers=[])
  {J Jx:List (List Int × Value)→World→Prop} (hJ:AbidesFrom w.heap.size J) (hJx:AbidesFrom w.heap.size Jx)
  (hY:∀ pre x W0 W1,J pre W0→W0.grownBy W1 none→bEp Tp x W0 W1→pre.length<2 ^ q.length→YieldAt (Fen none) 1 Tp l #[x.2] W1 fun e W' =>
   (e = .returned (.bool true)∧J (pre++[x]) W'∧KpG F W0 W')∨(e = .returned (.bool false)∧Jx (pre++[x]) W'))
  (h0:J [] w) {R:Ending→World→Prop} (hR:∀ W',((∃ xs:List (List Int × Value),xs.map (·.1)=fG q∧J xs W')∨(∃ pre:List (List Int × Value),pre.map (·.1) <+: fG q∧Jx pre W'))→R (.returned (.tuple #[])) W') :
  cO.wpIn (Fen none) 2 Tp (bodyPost Tp Tryz.f182 R) a w:=by
 have hpow:=bEm hq;obtain ⟨N,hN⟩:∃ N,2 ^ q.length=N:=⟨_,rfl⟩;rw [hN] at hpow
 have c0 : cO = .seq (sub cO [0]) (.block 0 (.loop (.seq (sub cO [1, 0, 0, 0]) (.seq (.cond (.tmp 10) .skip (.exit 0)) (.seq (.block 1 (.seq (sub cO [1, 0, 0, 1, 1, 0, 0, 0]) (.seq (sub cO [1, 0, 0, 1, 1, 0, 0, 1, 0]) (.seq (.seq (sub cO [1, 0, 0, 1, 1, 0, 0, 1, 1, 0, 0]) (.block 2 (.loop (sub cO [1, 0, 0, 1, 1, 0, 0, 1, 1, 0, 1, 0, 0])))) (.seq (.region 10 #[{ dst := some 30, op := .move (.tmp 0), type := 155, pos := "outcome.go:38", after := #[], guard := none }, { dst := some 31, op := .move (.tmp 4), type := 33, pos := "outcome.go:38", after := #[], guard := none }, { dst := some 32, op := .call { callee := .value (.tmp 30), args := #[.tmp 31], argTypes := #[33] }, type := 4, pos := "outcome.go:38", after := #[{ on := 0, ground := .data }, { on := 1, ground := .data }], guard := none }, { dst := some 33, op := .unOp .not 4 (.tmp 32), type := 4, pos := "outcome.go:38", after := #[{ on := 2, ground := .data }], guard := none }] false) (.cond (.tmp 33) .ret .skip)))))) (sub cO [1, 0, 0, 1, 1, 1])))))) := by kernel_rfl
 rw [c0];have hsame:∀ {W'},KpG F w W'→Rep (cxF F) [] W' (.rp [aE q] 0) v0:=fun hk=>by
  cases hr with
  | rp _ _ b o us h1 h2 h3 =>
   exact .rp _ _ b o us (fun i hi=>⟨(h1 i hi).1,(eI (hk.same b (h1 i hi).1) _).trans (h1 i hi).2⟩) (fun i hi=>(h2 i hi).mono (fun _ h=>h) hk.same) h3
 have hFw:∀ {W'},KpG F w W'→∀ b,F b→b<W'.heap.size:=fun hk b hb=>kQ8 (hF b hb) hk.size
 have n8e:(1:Int)*2 ^ ((q.length:Int).toNat)=(N:Int):=by
  rw [bDz,Int.one_mul,← hN];push_cast;rfl
 have hI0:InK (cxF F) w v0 ⟨fr 35 [(0,.yld l),(1,.rp [aE q] 0)],[]⟩ a w:=by
  refine ⟨⟨cxF F,aLq ha ?_,aTb hF,Fr.refl _ _ _,by rw [had];exact .nil rfl (nV rfl)⟩,ha1,had⟩
  intro p hp;simp only [iW,List.not_mem_nil,or_false] at hp
  rcases hp with rfl | rfl
  ·rw [ha0];exact .yld l
  ·rw [ha1];exact hr
 refine wpIn_seq ?_;refine InK.step (bKc (l:=l) (q:=q) ⟨by omega,by omega,rfl⟩ (by rw [n8e];exact aTc (by omega))) (by kernel_rfl) hI0 fun a1 w1 h1 => ?_
 rw [n8e] at h1
 refine wpIn_block ?_;refine wpIn_loop_ghost (fun k a W=>∃ s,s≤N∧k=N-s∧Lp l v0 (N:Int) s a∧KpG F w W∧∃ pre:List (List Int × Value),pre.map (·.1)=(fG q).take s∧J pre W) (N)
  ⟨0,by omega,by omega,h1.lp (s:=0) (by rfl) (by rfl) (by rfl) (by rfl),h1.kp hF,[],by simp,hJ [] w w1 none h0 h1.grown (fun r e=>by cases e)⟩ ?_
 rintro k a W ⟨s,hs,rfl,hL,hK,pre,hpre,hJp⟩;have hI:=hL.ink (hFw hK) (hsame hK);have grow:∀ {W0 W':World} {ys},KpG F w W0→J ys W0→W0.grownBy W' none→J ys W':=fun hk hj hg=>hJ _ _ _ none hj hg (fun r e=>by cases e)
 refine wpIn_seq ?_;refine InK.step bKd (by kernel_rfl) hI fun a2 w2 h2 => ?_
 have hc10:a2.eval (.tmp 10) = .bool (decide ((s:Int)<(N:Int))):=by
  obtain ⟨⟨C2,hS2,_⟩,_⟩:=id h2;have:=tN hS2 10 (by omega)
  show a2.tmps.getD 10 undef=_;revert this;generalize a2.tmps.getD 10 undef=u;intro this;have h3:Rep C2 _ w2 (.p (.v (.bool (decide ((s:Int)<(N:Int)))))) u:=this;cases h3 with
  | p _ _ h=>cases h;rfl
 refine wpIn_seq ?_
 by_cases hlt:s<N
 ·refine wpIn_cond_true (by rw [hc10,decide_eq_true (by omega)]) (wpIn_skip ?_)
  show Code.wpIn _ _ _ _ _ _ _;have h2':InK (cxF F) W v0 (stA l q (N:Int) s) a2 w2:=⟨(eK (g:=⟨[10],[],[],[]⟩) (k:=0) (dO _) (by kernel_rfl) h2.1),h2.2⟩
  refine wpIn_seq ?_;refine wpIn_block ?_;refine wpIn_seq ?_;refine InK.step bKe (by kernel_rfl) h2' fun a3 w3 h3 => ?_
  refine wpIn_seq ?_;refine InK.step bKf (by kernel_rfl) h3 fun a4 w4 h4 => ?_
  refine wpIn_seq ?_;refine wpIn_seq ?_;refine InK.step bKg (by kernel_rfl) h4 fun a5 w5 h5 => ?_
  refine bEn hq (by omega) h5 fun a6 w6 h6 => ?_
  refine wpIn_seq ?_;have hL6:Lp l v0 (N:Int) s a6:=h6.lp (s:=s) (by rfl) (by rfl) (by rfl) (by rfl)
  have hpl:pre.length=s:=by
   have:=congrArg List.length hpre;rw [kQ9,kY,vD,hN] at this
   omega
  have hrow:bEp Tp (eR q s q.length,a6.tmps.getD 4 undef) W w6:=h6.rowH (by rfl) (by rfl) (gK (aLr q s q.length) (by omega))
  have hmap:(pre++[(eR q s q.length,a6.tmps.getD 4 undef)]).map (·.1)=(fG q).take (s+1):=by
   rw [aXg q s (hN ▸ hlt),hZ,hpre];rfl
  refine aHp hL6.size hL6.s0 rfl (hY pre _ W w6 hJp h6.grown hrow (by omega)) (A:=fun W'=>J (pre++[(eR q s q.length,a6.tmps.getD 4 undef)]) W'∧KpG F W W') (B:=fun W'=>Jx (pre++[(eR q s q.length,a6.tmps.getD 4 undef)]) W') ?_ ?_
  ·rintro a7 w7 ⟨hj7,hk7⟩ hd7 hs7 hl7 h33
   refine wpIn_cond_false h33 (wpIn_skip ?_);show Code.wpIn _ _ _ _ _ _ _;have hL7:Lp l v0 (N:Int) s a7:=⟨hs7,(hl7 0 (by omega)).trans hL6.s0,(hl7 1 (by omega)).trans hL6.s1,(hl7 8 (by omega)).trans hL6.s8,(hl7 9 (by omega)).trans hL6.s9,hd7.trans hL6.df⟩
   have hK7:=hK.trans hk7;refine InK.step (bKm (aTc (by omega))) (by kernel_rfl) (hL7.ink (hFw hK7) (hsame hK7)) fun a8 w8 h8 => ?_
   exact ⟨N-(s+1),by omega,s+1,by omega,rfl,h8.lp (by rfl) (by rfl) (by rfl) (by rfl),hK7.trans (h8.kp (hFw hK7)),_,hmap,grow hK7 hj7 h8.grown⟩
  ·rintro a7 w7 hj7 hd7 h33
   refine wpIn_cond_true h33 (wpIn_ret ?_);exact bodyPost_ret (results_none rfl _ _ _) (hd7.trans hL6.df) (hR _ (.inr ⟨_,by rw [hmap];exact List.take_prefix _ _,hj7⟩))
 ·have hsN:s=N:=by omega
  subst hsN;refine wpIn_cond_false (by rw [hc10,decide_eq_false (by omega)]) (wpIn_exit ?_)
  have hL2:Lp l v0 (s:Int) s a2:=h2.lp (by rfl) (by rfl) (by rfl) (by rfl)
  show Exit.inBlock 0 (bodyPost Tp Tryz.f182 R) (.exit 0) a2 w2;unfold Exit.inBlock;dsimp only;rw [if_pos rfl];refine ⟨hL2.df,_,results_none rfl _ _ _,hR _ (.inl ⟨pre,?_,grow hK hJp h2.grown⟩)⟩;rw [hpre,← hN,← vD,List.take_length]
theorem bXf{C:Cx}{M:Mem}{w:World}{cs:List PV}{k:Nat}{u:Value}(h:Rep C M w (.rp cs k) u):Rep (cxF C.F) [] w (.rp cs k) u:=by
 cases h with
 | rp _ _ b o us h1 h2 h3=>exact .rp _ _ b o us h1 h2 h3
theorem bXg{F:Nat→Prop}{w W:World}{cs:List PV}{k:Nat}{u:Value}(h:Rep (cxF F) [] w (.rp cs k) u)(hk:KpG F w W):Rep (cxF F) [] W (.rp cs k) u:=by
 cases h with
 | rp _ _ b o us h1 h2 h3=>exact .rp _ _ b o us (fun i hi=>⟨(h1 i hi).1,(eI (hk.same b (h1 i hi).1) _).trans (h1 i hi).2⟩) (fun i hi=>(h2 i hi).mono (fun _ h=>h) hk.same) h3
theorem aXi(y v0:Value)(k:Nat):(#[y] ++ #[v0]++Array.replicate k undef).size=2+k∧(#[y] ++ #[v0]++Array.replicate k undef).getD 0 undef=y∧(#[y] ++ #[v0]++Array.replicate k undef).getD 1 undef=v0:=by
 refine ⟨by simp,?_,?_⟩ <;> simp [kQ1,Array.getElem?_append]
theorem aFg(q:List Int)(hq:q.length≤60):bPd Tp (.fn 182 [] [.rp [aE q] 0]) 182 (2 ^ q.length) (fG q):=fun C M w u hu0 hFs=>by
 cases hu0 with
 | fn _ _ _ us vs h1 h2 h3 h4 =>
  obtain rfl:us = #[]:=by simpa using h1
  have q0:=h4 0 (by simp)
  simp only [List.getElem_cons_zero] at q0
  obtain ⟨v0,rfl⟩:∃ v0,vs = #[v0]:=by
   have:vs.toList.length=1:=by simpa using h2
   match hv:vs.toList,this with
   | [x0],_=>exact ⟨x0,by rw [← hv]⟩
  change Rep C M w (.rp [aE q] 0) v0 at q0
  have hr:=bXf q0;refine ⟨#[v0],rfl,fun l J Jx W hW hJ hJx hY h0 => ?_⟩
  have hk:KpG C.F w W:=⟨hW.size,fun b hb=>hW.block b (hFs b hb)⟩
  have hr':=bXg hr hk;refine callsIn_of_wp Tryz.func182 rfl trivial ?_ rfl;obtain ⟨k1,k2,k3⟩:=aXi (.func (.yield l) #[] #[]) v0 (Tryz.f182.ntmps-(#[Value.func (.yield l) #[] #[]] ++ #[v0]).size);exact aXh hq (fun b hb=>kQ8 (hFs b hb) hW.size) hr' (a:={ tmps := #[.func (.yield l) #[] #[]] ++ #[v0]++Array.replicate (Tryz.f182.ntmps-(#[Value.func (.yield l) #[] #[]] ++ #[v0]).size) undef,defers:=[] }) k1 k2 k3 rfl hJ hJx hY h0 fun W' h=>⟨⟨_,rfl⟩,h⟩
end KV
end Go.Proofs
end
namespace Go.Proofs
namespace KV
section
variable {dl:Int}{sk dc:Lqq}

noncomputable abbrev nI:Code:=sub (cd Tryz.f129) [1,0,1,0,0]
noncomputable abbrev nJ:Code:=sub (cd Tryz.f54) [1,1,1,0,1,0,0]
theorem bEk:((-1:Int) == (-1:Int))=true:=by first | decide | simp
theorem aPc{q:List Int}{base:Nat}:FV Tp 132 [(.p (aE q))] base (.fn 182 [] [(.rp [(aE q)] 0)]) []:=by
 exact FV.fin Tryz.func132 rfl (o:=[.g 3 ⟨[],[],[0],[]⟩]) (l:=[]) (by kernel_rfl) (gn)
abbrev aLm(dl:Int)(sk dc:Lqq)(x:List Int)(r:Int):Prop:=∀ base:Nat,FV Tp 128 [pV dl sk dc,.p (.agg (x.map aA))] base (pI r) []
theorem bQm{n dl:Int}{sk dc:Lqq}{bib tm y0 y1 y2 y3 y4 y5 r6:Int}{r0:Bool}(h0:cH .i64 (atF dc.reverse) (.int .i64 n))(h1:(dH (atF dc.reverse) (.int .i64 n))=true)(h2:eY (atF dc.reverse) (.int .i64 n)=some (dcE y0 y1 y2 y3 y4 y5))(h3:aLm dl sk dc [y0,y1,y2,y3,y4,y5] r6)(er0:r0=(r6 != bib)){base:Nat}:FV Tp 189 [(pI n),(.rp [(PV.rp (aH dl sk dc) 0)] 0),(.rp [(aA bib),(aA tm)] 0)] base (pB r0) []:=by
 subst er0;exact FV.fin Tryz.func189 rfl (o:=[.x (PV.rp (aH dl sk dc) 0),.x (PV.rp (aH dl sk dc) 0),.x (.mp (atF dc.reverse)),bT,.x (dcE y0 y1 y2 y3 y4 y5),.c (pI r6) [],.x (aA bib)]) (l:=[[(aA bib),(aA tm)][0]? = some (aA bib),FC Tp 128 [(.rp (aH dl sk dc) 0),(.p (dcE y0 y1 y2 y3 y4 y5))] [] 0 (pI r6) [],_,_,_,(aH dl sk dc)[3]? = some (.mp (atF dc.reverse)),[(PV.rp (aH dl sk dc) 0)][0]? = some (PV.rp (aH dl sk dc) 0),[(PV.rp (aH dl sk dc) 0)][0]? = some (PV.rp (aH dl sk dc) 0)]) (by kernel_rfl) (gc rfl (gc (FV.fc (h3 _) rfl) (gc h2 (gc h1 (gc h0 (gc rfl (gc rfl (gc rfl gn))))))))
theorem bQn{n m:Int}{r0:Bool}(er0:r0=(n == m)){base:Nat}:FV Tp 133 [(pI n),(.rp [(aA m)] 0)] base (pB r0) []:=by
 subst er0;exact FV.fin Tryz.func133 rfl (o:=[.x (aA m)]) (l:=[[(aA m)][0]? = some (aA m)]) (by kernel_rfl) (gc rfl gn)
abbrev bEl(dl:Int)(sk dc:Lqq):PV := .rp (aH dl sk dc) 0
abbrev aPd(dl:Int)(sk dc:Lqq)(bib tm n:Int)(b:Bool):Prop:=∀ base:Nat,FV Tp 189 [.p (aA n),.rp [bEl dl sk dc] 0,.rp [aA bib,aA tm] 0] base (pB b) []
theorem aHo(n m:Int){base:Nat}:FV Tp 133 [.p (aA n),.rp [aA m] 0] base (pB (n == m)) []:=bQn rfl
def fM(l:List Int)(dl:Int)(sk:Lqq)(dc:Lqq)(bib:Int)(tm:Int)(i:Nat):St:=⟨fr 19 [(0,(.own 0)),(1,(.fn 189 [] [(.rp [(PV.rp (aH dl sk dc) 0)] 0),(.rp [(aA bib),(aA tm)] 0)])),(7,(pI (l.length:Int))),(8,(pI (i:Int)))],[some (.row 3 l.length (l.map aA))]⟩
theorem bJv{l:List Int}{dl:Int}{sk dc:Lqq}{bib tm:Int}{i'0:Nat}(hl0:aJ Tp 1 nI (fM l dl sk dc bib tm 0) (.exit 0) (fM l dl sk dc bib tm i'0)):FMM Tp 129 [(.own 0),(.fn 189 [] [(.rp [(PV.rp (aH dl sk dc) 0)] 0),(.rp [(aA bib),(aA tm)] 0)])] [some (.row 3 l.length (l.map aA))] (pI (-1:Int)) [some (.row 3 l.length (l.map aA))]:=by
 exact FMM.fin (k:=1) (g:=⟨[],[],[],[]⟩) rfl Tryz.func129 rfl (o:=[.k 6 ⟨(rng [(2,5),(9,10)]),[],[],[]⟩ (.exit 0) (fM l dl sk dc bib tm i'0)]) (l:=[_]) (by kernel_rfl) (gc hl0.code gn)
theorem bJw{l:List Int}{dl:Int}{sk dc:Lqq}{bib tm:Int}{i'0:Nat}(hl0:aJ Tp 1 nI (fM l dl sk dc bib tm 0) .ret (cE (fM l dl sk dc bib tm i'0) [(4,(pI (i'0:Int)))])):FMM Tp 129 [(.own 0),(.fn 189 [] [(.rp [(PV.rp (aH dl sk dc) 0)] 0),(.rp [(aA bib),(aA tm)] 0)])] [some (.row 3 l.length (l.map aA))] (pI (i'0:Int)) [some (.row 3 l.length (l.map aA))]:=by
 exact FMM.fin (k:=1) (g:=⟨[],[],[],[]⟩) rfl Tryz.func129 rfl (o:=[.k 6 ⟨(rng [(2,5),(9,10)]),[],[],[]⟩ .ret (cE (fM l dl sk dc bib tm i'0) [(4,(pI (i'0:Int)))])]) (l:=[_]) (by kernel_rfl) (gc hl0.code gn)
theorem aPe{l:List Int}{dl:Int}{sk dc:Lqq}{bib tm:Int}{i:Nat}{x100:Int}{b101:Bool}(h0:(i:Int)<(l.length:Int))(h1:l[i]? = some x100)(h2:aPd dl sk dc bib tm x100 b101)(h3:b101=true):aC Tp 1 nI (fM l dl sk dc bib tm i) .ret (cE (fM l dl sk dc bib tm i) [(4,(pI (i:Int)))]):=by
 exact aC.fin (g:=⟨(rng [(2,2),(5,2),(9,10)]),[],[],[]⟩) (o:=[bT,.x (aA x100),.c (pB b101) [],bT]) (l:=[_,FC Tp 189 [(pI x100),(.rp [(PV.rp (aH dl sk dc) 0)] 0),(.rp [(aA bib),(aA tm)] 0)] [] 1 (pB b101) [],_,_,_]) (by kernel_rfl) (gc h3 (gc (FV.fc (h2 _) rfl) (gc (atm aA h1) (gc (cJ (i:=(i:Int)) (kQ2 _) h1) (gc (aZ h0) gn)))))
theorem aPf{l:List Int}{dl:Int}{sk dc:Lqq}{bib tm:Int}{i:Nat}{x100:Int}{b101:Bool}{i':Nat}(h0:(i:Int)<(l.length:Int))(h1:l[i]? = some x100)(h2:aPd dl sk dc bib tm x100 b101)(h3:b101=false)(h4:inR (((i+1):Nat):Int))(ei':i'=(i+1)):aC Tp 1 nI (fM l dl sk dc bib tm i) .normal (fM l dl sk dc bib tm i'):=by
 subst ei';exact aC.fin (g:=⟨(rng [(2,5),(9,10)]),[],[],[]⟩) (o:=[bT,.x (aA x100),.c (pB b101) [],bF]) (l:=[_,_,FC Tp 189 [(pI x100),(.rp [(PV.rp (aH dl sk dc) 0)] 0),(.rp [(aA bib),(aA tm)] 0)] [] 1 (pB b101) [],_,_,_]) (by kernel_rfl) (gc h4 (gc h3 (gc (FV.fc (h2 _) rfl) (gc (atm aA h1) (gc (cJ (i:=(i:Int)) (kQ2 _) h1) (gc (aZ h0) gn))))))
theorem aPg{l:List Int}{dl:Int}{sk dc:Lqq}{bib tm:Int}{i:Nat}(h0:(l.length:Int)≤(i:Int)):aC Tp 1 nI (fM l dl sk dc bib tm i) (.exit 0) (fM l dl sk dc bib tm i):=by
 exact aC.fin (g:=⟨(rng [(2,5),(9,10)]),[],[],[]⟩) (o:=[bF]) (l:=[_]) (by kernel_rfl) (gc (bJ h0) gn)
abbrev bJx(l:List Int)(dl:Int)(sk:Lqq)(dc:Lqq)(bib:Int)(tm:Int)(i:Int):Prop:=FMM Tp 129 [.own 0,(.fn 189 [] [(.rp [(PV.rp (aH dl sk dc) 0)] 0),(.rp [(aA bib),(aA tm)] 0)])] [some (.row 3 l.length (l.map aA))] (pI i) [some (.row 3 l.length (l.map aA))]
def kJ(dl:Int)(sk:Lqq)(dc:Lqq)(bib:Int)(tm:Int)(cn:Nat)(cc:List PV)(i:Nat)(j:Nat):St:=⟨fr 42 [(0,(.own 0)),(1,(.fn 189 [] [(.rp [(PV.rp (aH dl sk dc) 0)] 0),(.rp [(aA bib),(aA tm)] 0)])),(4,(.p cC)),(5,(pI (i:Int))),(6,(pI (j:Int)))],[some (.row 3 cn cc)]⟩
theorem bQo{l:List Int}{dl:Int}{sk dc:Lqq}{bib tm:Int}{i0:Nat}{c'1:List Int}{i'2 j'3:Nat}{r0c:List PV}(h0:bJx l dl sk dc bib tm (i0:Int))(h1:(i0:Int)≠(-1:Int))(h2:inR (((i0+1):Nat):Int))(hl3:aJ Tp 1 nJ (kJ dl sk dc bib tm l.length (l.map aA) i0 (i0+1)) (.exit 0) (kJ dl sk dc bib tm c'1.length (c'1.map aA) i'2 j'3))(h4:0≤(i'2:Int)∧(i'2:Int)≤(c'1.length:Int)∧(c'1.length:Int)≤(c'1.length:Int))(h5:(i'2*1)+(c'1.length-i'2)≤(c'1.map aA).length)(h6:0≤(0:Int)∧(0:Int)≤(i'2:Int)∧(i'2:Int)≤(c'1.length:Int))(er0c:r0c=((((c'1.map aA).take (i'2*1)++List.replicate (c'1.length-i'2) (PV.v (.int .i64 0))++(c'1.map aA).drop ((i'2*1)+(List.replicate (c'1.length-i'2) (PV.v (.int .i64 0))).length)).drop 0).take (i'2*(((c'1.map aA).take (i'2*1)++List.replicate (c'1.length-i'2) (PV.v (.int .i64 0))++(c'1.map aA).drop ((i'2*1)+(List.replicate (c'1.length-i'2) (PV.v (.int .i64 0))).length)).length / c'1.length)))):FMM Tp 54 [(.own 0),(.fn 189 [] [(.rp [(PV.rp (aH dl sk dc) 0)] 0),(.rp [(aA bib),(aA tm)] 0)])] [some (.row 3 l.length (l.map aA))] (.p (.sl i'2 r0c)) [some .dead]:=by
 subst er0c;exact FMM.fin (k:=1) (g:=⟨[],[],[0],[]⟩) rfl Tryz.func54 rfl (o:=[.c (pI (i0:Int)) [(0,(.row 3 l.length (l.map aA)))],bF,.k 4 ⟨(rng [(2,2),(7,29)]),[],[],[]⟩ (.exit 0) (kJ dl sk dc bib tm c'1.length (c'1.map aA) i'2 j'3)]) (l:=[_,_,_,_,_,_,FC Tp 129 [(.own 0),(.fn 189 [] [(.rp [(PV.rp (aH dl sk dc) 0)] 0),(.rp [(aA bib),(aA tm)] 0)])] [(0,(.row 3 l.length (l.map aA)))] 1 (pI (i0:Int)) [(0,(.row 3 l.length (l.map aA)))]]) (by kernel_rfl) (gc h6 (gc h5 (gc h4 (gc hl3.code (gc h2 (gc (bP h1) (gc (FMM.fc (ids:=[0]) h0 (by kernel_rfl)) gn)))))))
theorem bQp{l:List Int}{dl:Int}{sk dc:Lqq}{bib tm:Int}(h0:bJx l dl sk dc bib tm (-1:Int)):FMM Tp 54 [(.own 0),(.fn 189 [] [(.rp [(PV.rp (aH dl sk dc) 0)] 0),(.rp [(aA bib),(aA tm)] 0)])] [some (.row 3 l.length (l.map aA))] (.p (aE l)) [some .dead]:=by
 exact FMM.fin (k:=1) (g:=⟨[],[],[0],[]⟩) rfl Tryz.func54 rfl (o:=[.c (pI (-1:Int)) [(0,(.row 3 l.length (l.map aA)))],bT]) (l:=[_,FC Tp 129 [(.own 0),(.fn 189 [] [(.rp [(PV.rp (aH dl sk dc) 0)] 0),(.rp [(aA bib),(aA tm)] 0)])] [(0,(.row 3 l.length (l.map aA)))] 1 (pI (-1:Int)) [(0,(.row 3 l.length (l.map aA)))]]) (by kernel_rfl) (gc bEk (gc (FMM.fc (ids:=[0]) h0 (by kernel_rfl)) gn))
theorem aXa{bib tm:Int}{c:List Int}{i j:Nat}{x100:Int}{b101:Bool}{x102:Int}{c':List Int}{i' j':Nat}(h0:(j:Int)<(c.length:Int))(h1:c[j]? = some x100)(h2:aPd dl sk dc bib tm x100 b101)(h3:b101=false)(h4:c[i]? = some x102)(h5:(i*1)<(c.map aA).length)(h6:inR (((i+1):Nat):Int))(h7:inR (((j+1):Nat):Int))(ec'n:c'.length=c.length)(ec'c:c'.map aA=((c.map aA).set (i*1) (aA x100)))(ei':i'=(i+1))(ej':j'=(j+1)):aC Tp 1 nJ (kJ dl sk dc bib tm c.length (c.map aA) i j) .normal (kJ dl sk dc bib tm c'.length (c'.map aA) i' j'):=by
 subst ei' ej';have raw:aC Tp 1 nJ (kJ dl sk dc bib tm c.length (c.map aA) i j) .normal (kJ dl sk dc bib tm c.length ((c.map aA).set (i*1) (aA x100)) (i+1) (j+1)):=aC.fin (g:=⟨(rng [(2,2),(7,29)]),[],[],[]⟩) (o:=[bT,.x (aA x100),.c (pB b101) [],bT]) (l:=[_,_,_,_,_,FC Tp 189 [(pI x100),(.rp [(PV.rp (aH dl sk dc) 0)] 0),(.rp [(aA bib),(aA tm)] 0)] [] 1 (pB b101) [],_,_,_]) (by kernel_rfl) (gc h7 (gc h6 (gc h5 (gc (cJ (i:=(i:Int)) (kQ2 _) h4) (gc (cL h3) (gc (FV.fc (h2 _) rfl) (gc (atm aA h1) (gc (cJ (i:=(j:Int)) (kQ2 _) h1) (gc (aZ h0) gn)))))))))
 exact raw.cast (by rw [ec'n,ec'c])
theorem aXb{bib tm:Int}{c:List Int}{i j:Nat}{x100:Int}{b101:Bool}{j':Nat}(h0:(j:Int)<(c.length:Int))(h1:c[j]? = some x100)(h2:aPd dl sk dc bib tm x100 b101)(h3:b101=true)(h4:inR (((j+1):Nat):Int))(ej':j'=(j+1)):aC Tp 1 nJ (kJ dl sk dc bib tm c.length (c.map aA) i j) .normal (kJ dl sk dc bib tm c.length (c.map aA) i j'):=by
 subst ej';exact aC.fin (g:=⟨(rng [(2,2),(7,29)]),[],[],[]⟩) (o:=[bT,.x (aA x100),.c (pB b101) [],bF]) (l:=[_,_,FC Tp 189 [(pI x100),(.rp [(PV.rp (aH dl sk dc) 0)] 0),(.rp [(aA bib),(aA tm)] 0)] [] 1 (pB b101) [],_,_,_]) (by kernel_rfl) (gc h4 (gc (aY h3) (gc (FV.fc (h2 _) rfl) (gc (atm aA h1) (gc (cJ (i:=(j:Int)) (kQ2 _) h1) (gc (aZ h0) gn))))))
theorem aXc{bib tm:Int}{c:List Int}{i j:Nat}(h0:(c.length:Int)≤(j:Int)):aC Tp 1 nJ (kJ dl sk dc bib tm c.length (c.map aA) i j) (.exit 0) (kJ dl sk dc bib tm c.length (c.map aA) i j):=by
 exact aC.fin (g:=⟨(rng [(2,2),(7,29)]),[],[],[]⟩) (o:=[bF]) (l:=[_]) (by kernel_rfl) (gc (bJ h0) gn)
def fN(l:List Int)(m:Int)(i:Nat):St:=⟨fr 19 [(0,(.own 0)),(1,(.fn 133 [] [(.rp [(aA m)] 0)])),(7,(pI (l.length:Int))),(8,(pI (i:Int)))],[some (.row 3 l.length (l.map aA))]⟩
theorem bJy{l:List Int}{m:Int}{i'0:Nat}(hl0:aJ Tp 1 nI (fN l m 0) (.exit 0) (fN l m i'0)):FMM Tp 129 [(.own 0),(.fn 133 [] [(.rp [(aA m)] 0)])] [some (.row 3 l.length (l.map aA))] (pI (-1:Int)) [some (.row 3 l.length (l.map aA))]:=by
 exact FMM.fin (k:=1) (g:=⟨[],[],[],[]⟩) rfl Tryz.func129 rfl (o:=[.k 6 ⟨(rng [(2,5),(9,10)]),[],[],[]⟩ (.exit 0) (fN l m i'0)]) (l:=[_]) (by kernel_rfl) (gc hl0.code gn)
theorem bJz{l:List Int}{m:Int}{i'0:Nat}(hl0:aJ Tp 1 nI (fN l m 0) .ret (cE (fN l m i'0) [(4,(pI (i'0:Int)))])):FMM Tp 129 [(.own 0),(.fn 133 [] [(.rp [(aA m)] 0)])] [some (.row 3 l.length (l.map aA))] (pI (i'0:Int)) [some (.row 3 l.length (l.map aA))]:=by
 exact FMM.fin (k:=1) (g:=⟨[],[],[],[]⟩) rfl Tryz.func129 rfl (o:=[.k 6 ⟨(rng [(2,5),(9,10)]),[],[],[]⟩ .ret (cE (fN l m i'0) [(4,(pI (i'0:Int)))])]) (l:=[_]) (by kernel_rfl) (gc hl0.code gn)
theorem aPh{l:List Int}{m:Int}{i:Nat}{x100:Int}(h0:(i:Int)<(l.length:Int))(h1:l[i]? = some x100)(h2:(x100 == m)=true):aC Tp 1 nI (fN l m i) .ret (cE (fN l m i) [(4,(pI (i:Int)))]):=by
 exact aC.fin (g:=⟨(rng [(2,2),(5,2),(9,10)]),[],[],[]⟩) (o:=[bT,.x (aA x100),.c (pB (x100 == m)) [],bT]) (l:=[_,_,_,_,_]) (by kernel_rfl) (gc h2 (gc (fk 1 (aHo x100 m) rfl) (gc (atm aA h1) (gc (cJ (i:=(i:Int)) (kQ2 _) h1) (gc (aZ h0) gn)))))
theorem aPi{l:List Int}{m:Int}{i:Nat}{x100:Int}{i':Nat}(h0:(i:Int)<(l.length:Int))(h1:l[i]? = some x100)(h2:(x100 == m)=false)(h3:inR (((i+1):Nat):Int))(ei':i'=(i+1)):aC Tp 1 nI (fN l m i) .normal (fN l m i'):=by
 subst ei';exact aC.fin (g:=⟨(rng [(2,5),(9,10)]),[],[],[]⟩) (o:=[bT,.x (aA x100),.c (pB (x100 == m)) [],bF]) (l:=[_,_,_,_,_,_]) (by kernel_rfl) (gc h3 (gc h2 (gc (fk 1 (aHo x100 m) rfl) (gc (atm aA h1) (gc (cJ (i:=(i:Int)) (kQ2 _) h1) (gc (aZ h0) gn))))))
theorem aPj{l:List Int}{m:Int}{i:Nat}(h0:(l.length:Int)≤(i:Int)):aC Tp 1 nI (fN l m i) (.exit 0) (fN l m i):=by
 exact aC.fin (g:=⟨(rng [(2,5),(9,10)]),[],[],[]⟩) (o:=[bF]) (l:=[_]) (by kernel_rfl) (gc (bJ h0) gn)
abbrev bKa(l:List Int)(m:Int)(i:Int):Prop:=FMM Tp 129 [.own 0,(.fn 133 [] [(.rp [(aA m)] 0)])] [some (.row 3 l.length (l.map aA))] (pI i) [some (.row 3 l.length (l.map aA))]
def kK(m:Int)(cn:Nat)(cc:List PV)(i:Nat)(j:Nat):St:=⟨fr 42 [(0,(.own 0)),(1,(.fn 133 [] [(.rp [(aA m)] 0)])),(4,(.p cC)),(5,(pI (i:Int))),(6,(pI (j:Int)))],[some (.row 3 cn cc)]⟩
theorem bQq{l:List Int}{m:Int}{i0:Nat}{c'1:List Int}{i'2 j'3:Nat}{r0c:List PV}(h0:bKa l m (i0:Int))(h1:(i0:Int)≠(-1:Int))(h2:inR (((i0+1):Nat):Int))(hl3:aJ Tp 1 nJ (kK m l.length (l.map aA) i0 (i0+1)) (.exit 0) (kK m c'1.length (c'1.map aA) i'2 j'3))(h4:0≤(i'2:Int)∧(i'2:Int)≤(c'1.length:Int)∧(c'1.length:Int)≤(c'1.length:Int))(h5:(i'2*1)+(c'1.length-i'2)≤(c'1.map aA).length)(h6:0≤(0:Int)∧(0:Int)≤(i'2:Int)∧(i'2:Int)≤(c'1.length:Int))(er0c:r0c=((((c'1.map aA).take (i'2*1)++List.replicate (c'1.length-i'2) (PV.v (.int .i64 0))++(c'1.map aA).drop ((i'2*1)+(List.replicate (c'1.length-i'2) (PV.v (.int .i64 0))).length)).drop 0).take (i'2*(((c'1.map aA).take (i'2*1)++List.replicate (c'1.length-i'2) (PV.v (.int .i64 0))++(c'1.map aA).drop ((i'2*1)+(List.replicate (c'1.length-i'2) (PV.v (.int .i64 0))).length)).length / c'1.length)))):FMM Tp 54 [(.own 0),(.fn 133 [] [(.rp [(aA m)] 0)])] [some (.row 3 l.length (l.map aA))] (.p (.sl i'2 r0c)) [some .dead]:=by
 subst er0c;exact FMM.fin (k:=1) (g:=⟨[],[],[0],[]⟩) rfl Tryz.func54 rfl (o:=[.c (pI (i0:Int)) [(0,(.row 3 l.length (l.map aA)))],bF,.k 4 ⟨(rng [(2,2),(7,29)]),[],[],[]⟩ (.exit 0) (kK m c'1.length (c'1.map aA) i'2 j'3)]) (l:=[_,_,_,_,_,_,FC Tp 129 [(.own 0),(.fn 133 [] [(.rp [(aA m)] 0)])] [(0,(.row 3 l.length (l.map aA)))] 1 (pI (i0:Int)) [(0,(.row 3 l.length (l.map aA)))]]) (by kernel_rfl) (gc h6 (gc h5 (gc h4 (gc hl3.code (gc h2 (gc (bP h1) (gc (FMM.fc (ids:=[0]) h0 (by kernel_rfl)) gn)))))))
theorem bQr{l:List Int}{m:Int}(h0:bKa l m (-1:Int)):FMM Tp 54 [(.own 0),(.fn 133 [] [(.rp [(aA m)] 0)])] [some (.row 3 l.length (l.map aA))] (.p (aE l)) [some .dead]:=by
 exact FMM.fin (k:=1) (g:=⟨[],[],[0],[]⟩) rfl Tryz.func54 rfl (o:=[.c (pI (-1:Int)) [(0,(.row 3 l.length (l.map aA)))],bT]) (l:=[_,FC Tp 129 [(.own 0),(.fn 133 [] [(.rp [(aA m)] 0)])] [(0,(.row 3 l.length (l.map aA)))] 1 (pI (-1:Int)) [(0,(.row 3 l.length (l.map aA)))]]) (by kernel_rfl) (gc bEk (gc (FMM.fc (ids:=[0]) h0 (by kernel_rfl)) gn))
theorem aXd{m:Int}{c:List Int}{i j:Nat}{x100 x101:Int}{c':List Int}{i' j':Nat}(h0:(j:Int)<(c.length:Int))(h1:c[j]? = some x100)(h2:(x100 == m)=false)(h3:c[i]? = some x101)(h4:(i*1)<(c.map aA).length)(h5:inR (((i+1):Nat):Int))(h6:inR (((j+1):Nat):Int))(ec'n:c'.length=c.length)(ec'c:c'.map aA=((c.map aA).set (i*1) (aA x100)))(ei':i'=(i+1))(ej':j'=(j+1)):aC Tp 1 nJ (kK m c.length (c.map aA) i j) .normal (kK m c'.length (c'.map aA) i' j'):=by
 subst ei' ej';have raw:aC Tp 1 nJ (kK m c.length (c.map aA) i j) .normal (kK m c.length ((c.map aA).set (i*1) (aA x100)) (i+1) (j+1)):=aC.fin (g:=⟨(rng [(2,2),(7,29)]),[],[],[]⟩) (o:=[bT,.x (aA x100),.c (pB (x100 == m)) [],bT]) (l:=[_,_,_,_,_,_,_,_,_]) (by kernel_rfl) (gc h6 (gc h5 (gc h4 (gc (cJ (i:=(i:Int)) (kQ2 _) h3) (gc (cL h2) (gc (fk 1 (aHo x100 m) rfl) (gc (atm aA h1) (gc (cJ (i:=(j:Int)) (kQ2 _) h1) (gc (aZ h0) gn)))))))))
 exact raw.cast (by rw [ec'n,ec'c])
theorem aXe{m:Int}{c:List Int}{i j:Nat}{x100:Int}{j':Nat}(h0:(j:Int)<(c.length:Int))(h1:c[j]? = some x100)(h2:(x100 == m)=true)(h3:inR (((j+1):Nat):Int))(ej':j'=(j+1)):aC Tp 1 nJ (kK m c.length (c.map aA) i j) .normal (kK m c.length (c.map aA) i j'):=by
 subst ej';exact aC.fin (g:=⟨(rng [(2,2),(7,29)]),[],[],[]⟩) (o:=[bT,.x (aA x100),.c (pB (x100 == m)) [],bF]) (l:=[_,_,_,_,_,_]) (by kernel_rfl) (gc h3 (gc (aY h2) (gc (fk 1 (aHo x100 m) rfl) (gc (atm aA h1) (gc (cJ (i:=(j:Int)) (kQ2 _) h1) (gc (aZ h0) gn))))))
theorem aXf{m:Int}{c:List Int}{i j:Nat}(h0:(c.length:Int)≤(j:Int)):aC Tp 1 nJ (kK m c.length (c.map aA) i j) (.exit 0) (kK m c.length (c.map aA) i j):=by
 exact aC.fin (g:=⟨(rng [(2,2),(7,29)]),[],[],[]⟩) (o:=[bF]) (l:=[_]) (by kernel_rfl) (gc (bJ h0) gn)
end
section
structure vC (p:Int→Bool) (l:List Int) (j:Nat) (x:List Int × Nat):Prop where
 len:x.1.length=l.length
 le:x.2<j
 kept:x.1.take x.2=(l.take j).filter fun n => !p n
 rest:x.1.drop j=l.drop j
theorem vC.skip{p:Int→Bool}{l:List Int}{j:Nat}{x:List Int × Nat}(h:vC p l j x)(hj:j<l.length){n:Int}(hn:x.1[j]? = some n)(hp:p n=true):vC p l (j+1) x:=by
 have hl:l[j]? = some n:=by
  have:=congrArg (·[0]?) h.rest
  simp only [List.getElem?_drop,Nat.add_zero] at this
  rw [← this];exact hn
 refine ⟨h.len,by have:=h.le;omega,?_,?_⟩
 ·rw [h.kept,List.take_add_one,hl]
  simp [nG,hp]
 ·rw [← List.drop_drop,h.rest,List.drop_drop]
theorem vC.keep{p:Int→Bool}{l:List Int}{j:Nat}{x:List Int × Nat}(h:vC p l j x)(hj:j<l.length){n:Int}(hn:x.1[j]? = some n)(hp:p n=false):vC p l (j+1) (x.1.set x.2 n,x.2+1):=by
 have hl:l[j]? = some n:=by
  have:=congrArg (·[0]?) h.rest
  simp only [List.getElem?_drop,Nat.add_zero] at this
  rw [← this];exact hn
 have hle:=h.le;have hlen:=h.len;refine ⟨by simp [h.len],by simpa using hle,?_,?_⟩
 ·show (x.1.set x.2 n).take (x.2+1)=_
  rw [List.take_add_one,List.take_set_of_le (dO _),h.kept,bDw (by omega),List.take_add_one,hl]
  simp [nG,hp]
 ·show (x.1.set x.2 n).drop (j+1)=_
  rw [List.drop_set_of_lt (by omega),← List.drop_drop,h.rest,List.drop_drop]
theorem vC.start{p:Int→Bool}{l:List Int}{i:Nat}{n:Int}(hi:l[i]? = some n)(hp:p n=true)(hb:∀ m∈l.take i,p m=false):vC p l (i+1) (l,i):=by
 refine ⟨rfl,Nat.lt_succ_self _,?_,rfl⟩;show l.take i=_;rw [List.take_add_one,hi];simp only [nG];rw [List.filter_eq_self.2 fun m hm=>by simp [hb m hm]]
 simp [hp]
theorem qW{p:Int→Bool}{l:List Int}{i:Nat}(h:l.findIdx? p=some i):∀ m∈l.take i,p m=false:=fun m hm=>by
 obtain ⟨hi,h1,h2⟩:=List.findIdx?_eq_some_iff_getElem.1 h;obtain ⟨j,hj,rfl⟩:=List.getElem_of_mem hm;rw [List.getElem_take];rw [kY] at hj
 have:=h2 j (by omega)
 simpa using this

theorem bJt{l:List Int}{dl:Int}{sk dc:Lqq}{bib tm:Int}(hl:l.length≤1000){p:Int→Bool}(hp:∀ n∈l,aPd dl sk dc bib tm n (p n)) :
  (∃ i n,l[i]? = some n∧l.findIdx? p=some i∧p n=true∧bJx l dl sk dc bib tm (i:Int))∨(l.any p=false∧bJx l dl sk dc bib tm (-1)):=by
 rcases aJ.find (P:=Tp) (k:=1) (b:=(sub (cd Tryz.f129) [1,0,1,0,0])) (fun i=>fM l dl sk dc bib tm i) (fun i _=>cE (fM l dl sk dc bib tm i) [(4,.p (aA (i:Int)))]) (fM l dl sk dc bib tm l.length) .ret (.exit 0) (by simp) (by simp) p l
  (fun i x hx hq=>aPf (by have:=bD hx;omega) hx (hp x (kQ5 hx)) hq (aP (by have:=bD hx;omega)) rfl)
  (fun i x hx hq=>aPe (by have:=bD hx;omega) hx (hp x (kQ5 hx)) hq)
  (aPg (by omega)) with ⟨i,x,h1,h2,h3,h4⟩ | ⟨h1,h2,h3⟩
 ·exact .inl ⟨i,x,h1,h2,h3,bJw h4⟩
 ·exact .inr ⟨h2,bJv h3⟩
theorem bQl{l:List Int}{dl:Int}{sk dc:Lqq}{bib tm:Int}(hl:l.length≤1000){p:Int→Bool}(hp:∀ n∈l,aPd dl sk dc bib tm n (p n)) :
  FMM Tp 54 [.own 0,.fn 189 [] [.rp [bEl dl sk dc] 0,.rp [aA bib,aA tm] 0]] [some (.row 3 l.length (l.map aA))] (.p (aE (l.filter fun n => !p n))) [some .dead]:=by
 rcases bJt hl hp with ⟨i,n,h1,h2,h3,h4⟩ | ⟨h1,h2⟩
 ·have hi:=bD h1
  obtain ⟨d,hm⟩:∃ d,i+1+d=l.length:=⟨l.length-(i+1),by omega⟩
  obtain ⟨⟨c,k⟩,hI,hL⟩:=aJ.ex (P:=Tp) (k:=1) (b:=(sub (cd Tryz.f54) [1,1,1,0,1,0,0])) (e := .exit 0) (fun j (x:List Int × Nat)=>kJ dl sk dc bib tm x.1.length (x.1.map aA) x.2 (i+1+j)) (fun x=>kJ dl sk dc bib tm x.1.length (x.1.map aA) x.2 l.length) (fun j x=>vC p l (i+1+j) x∧∀ n∈x.1,n∈l) (by simp) d
   (fun j x hj hx=>by
    obtain ⟨hI,hs⟩:=hx;have hlt:i+1+j<x.1.length:=by rw [hI.len];omega
    have hle:=hI.le;have hlen:=hI.len;obtain ⟨y,hy⟩:∃ y,x.1[i+1+j]? = some y:=⟨_,kQ0 hlt⟩;have hyl:=hs y (kQ5 hy);cases hq:p y with
    | true=>exact ⟨x,⟨hI.skip (by omega) hy hq,hs⟩,aXb (by omega) hy (hp y hyl) hq (aP (by omega)) rfl⟩
    | false =>
     obtain ⟨z,hz⟩:∃ z,x.1[x.2]? = some z:=⟨_,kQ0 (by omega)⟩
     refine ⟨_,⟨hI.keep (by omega) hy hq,fun n hn => ?_⟩,aXa (c:=x.1) (c':=x.1.set x.2 y) (by omega) hy (hp y hyl) hq hz (by rw [kQ9];omega) (aP (by omega)) (aP (by omega)) (by simp) (by rw [List.map_set,Nat.mul_one]) rfl rfl⟩
     rcases List.mem_or_eq_of_mem_set hn with h | rfl
     ·exact hs n h
     ·exact hyl)
   (fun x hx=>by
    have:=aXc (dl:=dl) (sk:=sk) (dc:=dc) (bib:=bib) (tm:=tm) (c:=x.1) (i:=x.2) (j:=l.length) (by rw [hx.1.len];omega)
    rw [show i+1+d=l.length from hm];exact this)
   (acc:=(l,i)) ⟨vC.start h1 h3 (qW h2),fun n h=>h⟩
  obtain ⟨hI,_⟩:=hI;have hlen:=hI.len;have hle:=hI.le;have hk:=hI.kept;simp only [hm,List.take_length] at hlen hle hk
  have fin:=bQo (l:=l) (c'1:=c) (i'2:=k) (j'3:=l.length) (r0c:=(c.take k).map aA) h4 (by omega) (aP (by omega)) hL ⟨by omega,by omega,by omega⟩ (by rw [kQ9];omega) ⟨by omega,by omega,by omega⟩ (by
   rw [List.drop_zero,Nat.mul_one,List.length_replicate];have hL2:(((c.map aA).take k)++List.replicate (c.length-k) (PV.v (.int .i64 0))++(c.map aA).drop (k+(c.length-k))).length=c.length:=by
    simp only [lG,kY,kQ9,List.length_replicate,aWd];omega
   rw [hL2,Nat.div_self (by omega),Nat.mul_one,List.append_assoc,List.take_append_of_le_length (by rw [kY,kQ9];omega),List.take_take,Nat.min_self,List.map_take])
  rw [← hk];have e:aE (c.take k) = .sl k ((c.take k).map aA):=by
   show PV.sl (c.take k).length _=_;rw [kY,Nat.min_eq_left (by omega)]
  rw [e];exact fin
 ·have:(l.filter fun n => !p n)=l:=List.filter_eq_self.2 fun n hn=>by
   have:=List.any_eq_false.1 h1 n hn;simpa using this
  rw [this];exact bQp h2

theorem bJu{l:List Int}{m:Int}(hl:l.length≤1000){p:Int→Bool}(hp:∀ n∈l,p n=(n == m)) :
  (∃ i n,l[i]? = some n∧l.findIdx? p=some i∧p n=true∧bKa l m (i:Int))∨(l.any p=false∧bKa l m (-1)):=by
 rcases aJ.find (P:=Tp) (k:=1) (b:=(sub (cd Tryz.f129) [1,0,1,0,0])) (fun i=>fN l m i) (fun i _=>cE (fN l m i) [(4,.p (aA (i:Int)))]) (fN l m l.length) .ret (.exit 0) (by simp) (by simp) p l
  (fun i x hx hq=>aPi (by have:=bD hx;omega) hx (by rw [← hp x (kQ5 hx)];exact hq) (aP (by have:=bD hx;omega)) rfl)
  (fun i x hx hq=>aPh (by have:=bD hx;omega) hx (by rw [← hp x (kQ5 hx)];exact hq))
  (aPj (by omega)) with ⟨i,x,h1,h2,h3,h4⟩ | ⟨h1,h2,h3⟩
 ·exact .inl ⟨i,x,h1,h2,h3,bJz h4⟩
 ·exact .inr ⟨h2,bJy h3⟩
theorem bEj{l:List Int}{m:Int}(hl:l.length≤1000){p:Int→Bool}(hp:∀ n∈l,p n=(n == m)) :
  FMM Tp 54 [.own 0,.fn 133 [] [.rp [aA m] 0]] [some (.row 3 l.length (l.map aA))] (.p (aE (l.filter fun n => !p n))) [some .dead]:=by
 rcases bJu hl hp with ⟨i,n,h1,h2,h3,h4⟩ | ⟨h1,h2⟩
 ·have hi:=bD h1
  obtain ⟨d,hm⟩:∃ d,i+1+d=l.length:=⟨l.length-(i+1),by omega⟩
  obtain ⟨⟨c,k⟩,hI,hL⟩:=aJ.ex (P:=Tp) (k:=1) (b:=(sub (cd Tryz.f54) [1,1,1,0,1,0,0])) (e := .exit 0) (fun j (x:List Int × Nat)=>kK m x.1.length (x.1.map aA) x.2 (i+1+j)) (fun x=>kK m x.1.length (x.1.map aA) x.2 l.length) (fun j x=>vC p l (i+1+j) x∧∀ n∈x.1,n∈l) (by simp) d
   (fun j x hj hx=>by
    obtain ⟨hI,hs⟩:=hx;have hlt:i+1+j<x.1.length:=by rw [hI.len];omega
    have hle:=hI.le;have hlen:=hI.len;obtain ⟨y,hy⟩:∃ y,x.1[i+1+j]? = some y:=⟨_,kQ0 hlt⟩;have hyl:=hs y (kQ5 hy);cases hq:p y with
    | true=>exact ⟨x,⟨hI.skip (by omega) hy hq,hs⟩,aXe (by omega) hy (by rw [← hp y hyl];exact hq) (aP (by omega)) rfl⟩
    | false =>
     obtain ⟨z,hz⟩:∃ z,x.1[x.2]? = some z:=⟨_,kQ0 (by omega)⟩
     refine ⟨_,⟨hI.keep (by omega) hy hq,fun n hn => ?_⟩,aXd (c:=x.1) (c':=x.1.set x.2 y) (by omega) hy (by rw [← hp y hyl];exact hq) hz (by rw [kQ9];omega) (aP (by omega)) (aP (by omega)) (by simp) (by rw [List.map_set,Nat.mul_one]) rfl rfl⟩
     rcases List.mem_or_eq_of_mem_set hn with h | rfl
     ·exact hs n h
     ·exact hyl)
   (fun x hx=>by
    have:=aXf (m:=m) (c:=x.1) (i:=x.2) (j:=l.length) (by rw [hx.1.len];omega)
    rw [show i+1+d=l.length from hm];exact this)
   (acc:=(l,i)) ⟨vC.start h1 h3 (qW h2),fun n h=>h⟩
  obtain ⟨hI,_⟩:=hI;have hlen:=hI.len;have hle:=hI.le;have hk:=hI.kept;simp only [hm,List.take_length] at hlen hle hk
  have fin:=bQq (l:=l) (c'1:=c) (i'2:=k) (j'3:=l.length) (r0c:=(c.take k).map aA) h4 (by omega) (aP (by omega)) hL ⟨by omega,by omega,by omega⟩ (by rw [kQ9];omega) ⟨by omega,by omega,by omega⟩ (by
   rw [List.drop_zero,Nat.mul_one,List.length_replicate];have hL2:(((c.map aA).take k)++List.replicate (c.length-k) (PV.v (.int .i64 0))++(c.map aA).drop (k+(c.length-k))).length=c.length:=by
    simp only [lG,kY,kQ9,List.length_replicate,aWd];omega
   rw [hL2,Nat.div_self (by omega),Nat.mul_one,List.append_assoc,List.take_append_of_le_length (by rw [kY,kQ9];omega),List.take_take,Nat.min_self,List.map_take])
  rw [← hk];have e:aE (c.take k) = .sl k ((c.take k).map aA):=by
   show PV.sl (c.take k).length _=_;rw [kY,Nat.min_eq_left (by omega)]
  rw [e];exact fin
 ·have:(l.filter fun n => !p n)=l:=List.filter_eq_self.2 fun n hn=>by
   have:=List.any_eq_false.1 h1 n hn;simpa using this
  rw [this];exact bQr h2
end
section

end
end KV
end Go.Proofs
